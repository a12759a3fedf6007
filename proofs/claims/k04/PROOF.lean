import PyProof.Rows.All
import HandS.ForMost
import HandS.Exc
import HandS.TryMany
import HandS.ExcOwn
import HandS.WordsExc
import HandS.TupAny
import HandS.IsInst
import HandS.SortInts
import HandS.Deep
import HandS.TupMul
import HandS.Style
import HandS.Zip
import KE.GoesEnum
import KE.KeyNested
import HandS.TupSets
import HandS.SetFor
import HandS.Defaults
import HandS.HeadHook1
import HandS.HeadHook2
import HandS.Head0
import HandS.Head1
import HandS.Head2
import HandS.HeadEnd
import PySem.Challenge.RW_kerbsigns_k04_whole_ranks
set_option Elab.async false
set_option linter.all false
set_option maxRecDepth 100000
set_option maxHeartbeats 4000000
/-! Kb: data by value over the abstract heap. -/
namespace Kb
open PySem L2

inductive D where
  | non | bl (b : Bool) | int (i : Int) | str (x : Str) | tup (xs : List D) | lst (xs : List D) | ref (r : Nat)
inductive RV where
  | val (d : D) | bor (xs : List D)
inductive SV where
  | val (d : D) | bor (xs : List D) | own (xs : List D)
inductive Cell where
  | lst (xs : List D)
inductive Res (α : Type) where
  | ok (a : α) (h : List Cell) | exc (c : Nat) (h : List Cell)
abbrev En := List (Option SV)

mutual
inductive DR (ι : List Addr) (O : Addr → Prop) (H : Hp) : V → D → Prop
  | non : DR ι O H .non .non
  | bl (b : Bool) : DR ι O H (.bl b) (.bl b)
  | int (i : Int) : DR ι O H (.int i) (.int i)
  | str (x : Str) : PyData.strOk x = true → x.length ≤ sizeLine → DR ι O H (.str x) (.str x)
  | tup {a : Addr} {vs : List V} {ds : List D} : H a = some (.tup vs) → DRs ι O H vs ds → DR ι O H (.ref a) (.tup ds)
  | lst {a : Addr} {vs : List V} {ds : List D} : H a = some (.lst vs) → ¬ O a → DRs ι O H vs ds → DR ι O H (.ref a) (.lst ds)
  | ref {r : Nat} {a : Addr} : ι[r]? = some a → DR ι O H (.ref a) (.ref r)
inductive DRs (ι : List Addr) (O : Addr → Prop) (H : Hp) : List V → List D → Prop
  | nil : DRs ι O H [] []
  | cons {v : V} {vs : List V} {d : D} {ds : List D} : DR ι O H v d → DRs ι O H vs ds → DRs ι O H (v :: vs) (d :: ds)
end

def Of (Oo : Addr → Prop) (ι : List Addr) (ow : List (Option Addr)) (a : Addr) : Prop := Oo a ∨ a ∈ ι ∨ some a ∈ ow
def isMut : HO → Bool
  | .lst _ => true
  | .ins _ _ _ => true
  | _ => false

/-- from one heap to a later one: what is not a cell stays -/
structure Step (ι : List Addr) (H : Hp) (ι' : List Addr) (H' : Hp) : Prop where
  pre : ∃ new, ι' = ι ++ new ∧ ∀ a ∈ new, H a = none
  keep : ∀ a o, H a = some o → (a ∉ ι ∨ isMut o = false) → H' a = some o
  dom : ∀ a, H a ≠ none → H' a ≠ none
theorem Step.refl (ι : List Addr) (H : Hp) : Step ι H ι H := ⟨⟨[], by simp, fun _ h => nomatch h⟩, fun _ _ h _ => h, fun _ h => h⟩
theorem Step.trans {ι ι1 ι2 : List Addr} {H H1 H2 : Hp} (x : Step ι H ι1 H1) (y : Step ι1 H1 ι2 H2) : Step ι H ι2 H2 := by
  obtain ⟨n1, e1, f1⟩ := x.pre
  obtain ⟨n2, e2, f2⟩ := y.pre
  have fr : ∀ a, H1 a = none → H a = none := fun a h => by
    cases q : H a with
    | none => rfl
    | some o => exact absurd h (x.dom a (by rw [q]; simp))
  refine ⟨⟨n1 ++ n2, by rw [e2, e1, List.append_assoc], fun a h => ?_⟩, fun a o h q => ?_, fun a h => y.dom a (x.dom a h)⟩
  · rcases List.mem_append.mp h with h | h
    · exact f1 a h
    · exact fr a (f2 a h)
  · have h1 := x.keep a o h q
    refine y.keep a o h1 ?_
    rcases q with q | q
    · left
      rw [e1]
      intro z
      rcases List.mem_append.mp z with z | z
      · exact q z
      · rw [f1 a z] at h; cases h
    · exact .inr q
theorem Step.same {ι : List Addr} {H H' : Hp} (s : Same H H') : Step ι H ι H' :=
  ⟨⟨[], by simp, fun _ h => nomatch h⟩, fun a o h _ => s a o h, fun a h => by
    cases q : H a with
    | none => exact absurd q h
    | some o => rw [s a o q]; simp⟩
theorem same_new {H : Hp} {p : Addr} {o : HO} (h : H p = none) : Same H (upd H p o) := fun b x e => by
  rw [upd_ne (ne_of_none e h)]
  exact e
theorem Step.sub {ι ι' : List Addr} {H H' : Hp} (x : Step ι H ι' H') : ∀ a ∈ ι, a ∈ ι' := fun a h => by
  obtain ⟨n, e, _⟩ := x.pre
  rw [e]; exact List.mem_append_left _ h
theorem Step.new {ι ι' : List Addr} {H H' : Hp} (x : Step ι H ι' H') {a : Addr} (h : H a ≠ none) (q : a ∈ ι') : a ∈ ι := by
  obtain ⟨n, e, f⟩ := x.pre
  rw [e] at q
  rcases List.mem_append.mp q with q | q
  · exact q
  · exact absurd (f a q) h
theorem Step.at {ι ι' : List Addr} {H H' : Hp} (x : Step ι H ι' H') {r : Nat} {a : Addr} (h : ι[r]? = some a) : ι'[r]? = some a := by
  obtain ⟨n, e, _⟩ := x.pre
  have hr := (List.getElem?_eq_some_iff.mp h).1
  rw [e, List.getElem?_append_left hr]; exact h
theorem Rd.ne {H : Hp} {a : Addr} {u : HO} (r : Rd H a u) : H a ≠ none := by
  rcases r with r | ⟨o, r⟩ <;> rw [r] <;> simp
theorem Step.rd {ι ι' : List Addr} {H H' : Hp} (x : Step ι H ι' H') {a : Addr} {u : HO} (r : Rd H a u) (q : a ∉ ι ∨ isMut u = false) : Rd H' a u := by
  rcases r with r | ⟨o, r⟩
  · exact .inl (x.keep a _ r q)
  · exact .inr ⟨o, x.keep a _ r (.inr rfl)⟩
theorem Of.old {Oo : Addr → Prop} {ι ι' : List Addr} {ow : List (Option Addr)} {H H' : Hp} (x : Step ι H ι' H') {a : Addr} (h : H a ≠ none) (q : ¬ Of Oo ι ow a) : ¬ Of Oo ι' ow a := fun z => by
  rcases z with z | z | z
  · exact q (.inl z)
  · exact q (.inr (.inl (x.new h z)))
  · exact q (.inr (.inr z))

mutual
theorem DR.step {Oo : Addr → Prop} {ι ι' : List Addr} {ow : List (Option Addr)} {H H' : Hp} (x : Step ι H ι' H') : ∀ {v : V} {d : D}, DR ι (Of Oo ι ow) H v d → DR ι' (Of Oo ι' ow) H' v d
  | _, _, .non => .non
  | _, _, .bl b => .bl b
  | _, _, .int i => .int i
  | _, _, .str s h h2 => .str s h h2
  | _, _, .tup r q => .tup (x.keep _ _ r (.inr rfl)) (DRs.step x q)
  | _, _, .lst r n q => .lst (x.keep _ _ r (.inl fun z => n (.inr (.inl z)))) (Of.old x (by rw [r]; simp) n) (DRs.step x q)
  | _, _, .ref e => .ref (x.at e)
theorem DRs.step {Oo : Addr → Prop} {ι ι' : List Addr} {ow : List (Option Addr)} {H H' : Hp} (x : Step ι H ι' H') : ∀ {v : List V} {d : List D}, DRs ι (Of Oo ι ow) H v d → DRs ι' (Of Oo ι' ow) H' v d
  | _, _, .nil => .nil
  | _, _, .cons a b => .cons (DR.step x a) (DRs.step x b)
end
mutual
/-- fewer are barred -/
theorem DR.less {ι : List Addr} {O O' : Addr → Prop} {H : Hp} (x : ∀ a, O' a → O a) : ∀ {v : V} {d : D}, DR ι O H v d → DR ι O' H v d
  | _, _, .non => .non
  | _, _, .bl b => .bl b
  | _, _, .int i => .int i
  | _, _, .str s h h2 => .str s h h2
  | _, _, .tup r q => .tup r (DRs.less x q)
  | _, _, .lst r n q => .lst r (fun z => n (x _ z)) (DRs.less x q)
  | _, _, .ref e => .ref e
theorem DRs.less {ι : List Addr} {O O' : Addr → Prop} {H : Hp} (x : ∀ a, O' a → O a) : ∀ {v : List V} {d : List D}, DRs ι O H v d → DRs ι O' H v d
  | _, _, .nil => .nil
  | _, _, .cons a b => .cons (DR.less x a) (DRs.less x b)
end
mutual
/-- a barred list is changed, or a new one is laid: data stays, the new one barred or not -/
theorem DR.wr {ι : List Addr} {O O' : Addr → Prop} {H : Hp} {p : Addr} {o : HO} (hp : O p ∨ H p = none) (hO : ∀ a, O' a → O a ∨ H a = none) (hl : ∀ vs, H p ≠ some (.tup vs)) : ∀ {v : V} {d : D}, DR ι O H v d → DR ι O' (upd H p o) v d
  | _, _, .non => .non
  | _, _, .bl b => .bl b
  | _, _, .int i => .int i
  | _, _, .str s h h2 => .str s h h2
  | _, _, .tup (a := a) (vs := vs) r q => by
    have ne : a ≠ p := fun e => by subst e; exact hl vs r
    exact .tup (by rw [upd_ne ne]; exact r) (DRs.wr hp hO hl q)
  | _, _, .lst (a := a) (vs := vs) r n q => by
    have ne : a ≠ p := fun e => by
      subst e
      rcases hp with z | z
      · exact n z
      · rw [r] at z; cases z
    refine .lst (by rw [upd_ne ne]; exact r) (fun z => ?_) (DRs.wr hp hO hl q)
    rcases hO _ z with z | z
    · exact n z
    · rw [r] at z; cases z
  | _, _, .ref e => .ref e
theorem DRs.wr {ι : List Addr} {O O' : Addr → Prop} {H : Hp} {p : Addr} {o : HO} (hp : O p ∨ H p = none) (hO : ∀ a, O' a → O a ∨ H a = none) (hl : ∀ vs, H p ≠ some (.tup vs)) : ∀ {v : List V} {d : List D}, DRs ι O H v d → DRs ι O' (L2.upd H p o) v d
  | _, _, .nil => .nil
  | _, _, .cons a b => .cons (DR.wr hp hO hl a) (DRs.wr hp hO hl b)
end
theorem DRs.length {ι : List Addr} {O : Addr → Prop} {H : Hp} : ∀ {vs : List V} {ds : List D}, DRs ι O H vs ds → vs.length = ds.length
  | _, _, .nil => rfl
  | _, _, .cons _ b => by rw [List.length_cons, List.length_cons, b.length]
theorem DRs.get {ι : List Addr} {O : Addr → Prop} {H : Hp} : ∀ {vs : List V} {ds : List D} {i : Nat} {d : D}, DRs ι O H vs ds → ds[i]? = some d → ∃ v, vs[i]? = some v ∧ DR ι O H v d
  | _, _, _, _, .nil, e => by simp at e
  | _, _, 0, _, .cons a _, e => by simp at e; subst e; exact ⟨_, rfl, a⟩
  | _, _, i + 1, d, .cons _ b, e => by
    obtain ⟨v, h1, h2⟩ := DRs.get (i := i) (d := d) b (by simpa using e)
    exact ⟨v, by simpa using h1, h2⟩
theorem DRs.append {ι : List Addr} {O : Addr → Prop} {H : Hp} : ∀ {vs ws : List V} {ds es : List D}, DRs ι O H vs ds → DRs ι O H ws es → DRs ι O H (vs ++ ws) (ds ++ es)
  | _, _, _, _, .nil, s => s
  | _, _, _, _, .cons r t, s => .cons r (DRs.append t s)
theorem DRs.take {ι : List Addr} {O : Addr → Prop} {H : Hp} : ∀ {vs : List V} {ds : List D} (n : Nat), DRs ι O H vs ds → DRs ι O H (vs.take n) (ds.take n)
  | _, _, 0, _ => by simp; exact .nil
  | _, _, _ + 1, .nil => by simp; exact .nil
  | _, _, n + 1, .cons r t => by simp; exact .cons r (DRs.take n t)
theorem DRs.drop {ι : List Addr} {O : Addr → Prop} {H : Hp} : ∀ {vs : List V} {ds : List D} (n : Nat), DRs ι O H vs ds → DRs ι O H (vs.drop n) (ds.drop n)
  | _, _, 0, r => r
  | _, _, _ + 1, .nil => by simp; exact .nil
  | _, _, n + 1, .cons _ t => by simp; exact DRs.drop n t
theorem DRs.reverse {ι : List Addr} {O : Addr → Prop} {H : Hp} : ∀ {vs : List V} {ds : List D}, DRs ι O H vs ds → DRs ι O H vs.reverse ds.reverse
  | _, _, .nil => by simp; exact .nil
  | _, _, .cons r t => by rw [List.reverse_cons, List.reverse_cons]; exact DRs.append (DRs.reverse t) (.cons r .nil)
theorem DRs.set {ι : List Addr} {O : Addr → Prop} {H : Hp} {v : V} {d : D} (r : DR ι O H v d) : ∀ {vs : List V} {ds : List D} (i : Nat), DRs ι O H vs ds → DRs ι O H (vs.set i v) (ds.set i d)
  | _, _, _, .nil => by simp; exact .nil
  | _, _, 0, .cons _ t => .cons r t
  | _, _, i + 1, .cons q t => .cons q (DRs.set r i t)

def CellR (ι : List Addr) (O : Addr → Prop) (H : Hp) (a : Addr) : Cell → Prop
  | .lst xs => ∃ vs, H a = some (.lst vs) ∧ DRs ι O H vs xs
structure Cells (ι : List Addr) (O : Addr → Prop) (H : Hp) (h : List Cell) : Prop where
  len : ι.length = h.length
  nd : ι.Nodup
  at_ : ∀ (r : Nat) (a : Addr) (c : Cell), ι[r]? = some a → h[r]? = some c → CellR ι O H a c
def RVR (ι : List Addr) (O : Addr → Prop) (H : Hp) (v : V) : RV → Prop
  | .val d => DR ι O H v d
  | .bor xs => ∃ a vs, v = .ref a ∧ O a ∧ a ∉ ι ∧ Rd H a (.lst vs) ∧ DRs ι O H vs xs
def SlotR (Oo : Addr → Prop) (ι : List Addr) (ow : List (Option Addr)) (σ : St) (H : Hp) (i : Nat) : SV → Prop
  | .val d => ∃ v, σ[i]? = some (some v) ∧ DR ι (Of Oo ι ow) H v d
  | .bor xs => ∃ a vs, σ[i]? = some (some (.ref a)) ∧ Oo a ∧ Rd H a (.lst vs) ∧ DRs ι (Of Oo ι ow) H vs xs
  | .own xs => ∃ a vs, σ[i]? = some (some (.ref a)) ∧ ow[i]? = some (some a) ∧ H a = some (.lst vs) ∧ DRs ι (Of Oo ι ow) H vs xs
structure FR (Oo : Addr → Prop) (ι : List Addr) (ow : List (Option Addr)) (σ : St) (H : Hp) (ρ : En) (h : List Cell) : Prop where
  len : ρ.length = σ.length
  lenO : σ.length ≤ ow.length
  slot : ∀ (i : Nat) (sv : SV), ρ[i]? = some (some sv) → SlotR Oo ι ow σ H i sv
  inj : ∀ (i j : Nat) (a : Addr), ow[i]? = some (some a) → ow[j]? = some (some a) → i = j
  own : ∀ (i : Nat) (a : Addr), ow[i]? = some (some a) → ¬ Oo a ∧ a ∉ ι ∧ ∃ vs, H a = some (.lst vs)
  real : ∀ (i : Nat) (a : Addr), i < ρ.length → ow[i]? = some (some a) → ∃ xs, ρ[i]? = some (some (.own xs))
  cells : Cells ι (Of Oo ι ow) H h
  dis : ∀ a ∈ ι, ¬ Oo a
  trk : ∀ a, Oo a → H a ≠ none
theorem FR.step {Oo : Addr → Prop} {ι ι' : List Addr} {ow : List (Option Addr)} {σ : St} {H H' : Hp} {ρ : En} {h h' : List Cell} (f : FR Oo ι ow σ H ρ h) (x : Step ι H ι' H') (c : Cells ι' (Of Oo ι' ow) H' h') : FR Oo ι' ow σ H' ρ h' where
  len := f.len
  lenO := f.lenO
  slot := fun i sv e => by
    have q := f.slot i sv e
    cases sv with
    | val d =>
      obtain ⟨v, h1, h2⟩ := q
      exact ⟨v, h1, h2.step x⟩
    | bor xs =>
      obtain ⟨a, vs, h1, h2, h3, h4⟩ := q
      exact ⟨a, vs, h1, h2, x.rd h3 (.inl fun z => f.dis a z h2), h4.step x⟩
    | own xs =>
      obtain ⟨a, vs, h1, h2, h3, h4⟩ := q
      exact ⟨a, vs, h1, h2, x.keep a _ h3 (.inl (f.own i a h2).2.1), h4.step x⟩
  inj := f.inj
  own := fun i a e => by
    obtain ⟨h1, h2, vs, h3⟩ := f.own i a e
    exact ⟨h1, fun z => h2 (x.new (by rw [h3]; simp) z), vs, x.keep a _ h3 (.inl h2)⟩
  real := f.real
  cells := c
  dis := fun a z q => f.dis a (x.new (f.trk a q) z) q
  trk := fun a z => x.dom a (f.trk a z)
theorem FR.trkO {Oo : Addr → Prop} {ι : List Addr} {ow : List (Option Addr)} {σ : St} {H : Hp} {ρ : En} {h : List Cell} (f : FR Oo ι ow σ H ρ h) : ∀ a, Of Oo ι ow a → H a ≠ none := fun a z => by
  rcases z with z | z | z
  · exact f.trk a z
  · obtain ⟨r, hr⟩ := List.mem_iff_getElem?.mp z
    have hl := (List.getElem?_eq_some_iff.mp hr).1
    rw [f.cells.len] at hl
    have q := f.cells.at_ r a _ hr (List.getElem?_eq_getElem hl)
    cases hc : h[r] with
    | lst xs =>
      rw [hc] at q
      obtain ⟨vs, e, _⟩ := q
      rw [e]; simp
  · obtain ⟨i, hi⟩ := List.mem_iff_getElem?.mp z
    obtain ⟨_, _, vs, e⟩ := f.own i a hi
    rw [e]; simp
theorem Cells.same {ι : List Addr} {Oo : Addr → Prop} {ow : List (Option Addr)} {H H' : Hp} {h : List Cell} (c : Cells ι (Of Oo ι ow) H h) (s : Same H H') : Cells ι (Of Oo ι ow) H' h :=
  ⟨c.len, c.nd, fun r a cl h1 h2 => by
    have q := c.at_ r a cl h1 h2
    cases cl with
    | lst xs =>
      obtain ⟨vs, e, z⟩ := q
      exact ⟨vs, s _ _ e, z.step (Step.same s)⟩⟩
theorem FR.same {Oo : Addr → Prop} {ι : List Addr} {ow : List (Option Addr)} {σ : St} {H H' : Hp} {ρ : En} {h : List Cell} (f : FR Oo ι ow σ H ρ h) (s : Same H H') : FR Oo ι ow σ H' ρ h := f.step (Step.same s) (f.cells.same s)
theorem RVR.step {Oo : Addr → Prop} {ι ι' : List Addr} {ow : List (Option Addr)} {H H' : Hp} (x : Step ι H ι' H') {v : V} {r : RV} (q : RVR ι (Of Oo ι ow) H v r) : RVR ι' (Of Oo ι' ow) H' v r := by
  cases r with
  | val d => exact DR.step x q
  | bor xs =>
    obtain ⟨a, vs, e, h1, h2, h3, h4⟩ := q
    refine ⟨a, vs, e, ?_, fun z => h2 (x.new (Rd.ne h3) z), x.rd h3 (.inl h2), h4.step x⟩
    rcases h1 with z | z | z
    · exact .inl z
    · exact absurd z h2
    · exact .inr (.inr z)
end Kb
namespace Kb
open PySem L2

abbrev EM := En → List Cell → Option (Res RV)
abbrev TM := En → List Cell → Option (Res Bool)
abbrev AM := En → List Cell → Option (Res (List RV))
/-- one after the other -/
def bd {α β : Type} (x : Option (Res α)) (f : α → List Cell → Option (Res β)) : Option (Res β) :=
  match x with
  | none => none
  | some (.exc c h) => some (.exc c h)
  | some (.ok a h) => f a h
def ret {α : Type} (a : α) (h : List Cell) : Option (Res α) := some (.ok a h)
def lift {α : Type} (x : Option α) (h : List Cell) : Option (Res α) :=
  match x with
  | none => none
  | some a => some (.ok a h)

/-- what is wanted behind -/
def Post {α : Type} (xa : Nat → Addr) (W : WX) (Oo : Addr → Prop) (ι : List Addr) (ow : List (Option Addr)) (σ : St) (H : Hp) (G : α → List Cell → List Addr → Hp → Prop) : Option (Res α) → Prop
  | none => False
  | some (.exc c h') => ∀ H' ι', Step ι H ι' H' → Cells ι' (Of Oo ι' ow) H' h' → W (.ref (xa c)) none σ H'
  | some (.ok r h') => ∀ H' ι', Step ι H ι' H' → Cells ι' (Of Oo ι' ow) H' h' → G r h' ι' H'
section
variable {α β : Type} {xa : Nat → Addr} {W : WX} {Oo : Addr → Prop} {ι ι' : List Addr} {ow : List (Option Addr)} {σ : St} {H H' : Hp} {G G' : α → List Cell → List Addr → Hp → Prop} {K : β → List Cell → List Addr → Hp → Prop}
theorem Post.from {y : Option (Res α)} (p : Post xa W Oo ι ow σ H G y) (st : Step ι H ι' H') : Post xa W Oo ι' ow σ H' G y := by
  cases y with
  | none => exact p
  | some r =>
    cases r with
    | ok a h => exact fun H2 ι2 s2 c => p H2 ι2 (st.trans s2) c
    | exc c h => exact fun H2 ι2 s2 c => p H2 ι2 (st.trans s2) c
theorem Post.imp {y : Option (Res α)} (p : Post xa W Oo ι ow σ H G y) (h : ∀ r h' H' ι', Step ι H ι' H' → Cells ι' (Of Oo ι' ow) H' h' → G r h' ι' H' → G' r h' ι' H') : Post xa W Oo ι ow σ H G' y := by
  cases y with
  | none => exact p
  | some r =>
    cases r with
    | ok a h2 => exact fun H2 ι2 s2 c => h _ _ _ _ s2 c (p H2 ι2 s2 c)
    | exc c h2 => exact p
theorem Post.bd {x : Option (Res α)} {f : α → List Cell → Option (Res β)} (p : Post xa W Oo ι ow σ H K (bd x f)) :
    Post xa W Oo ι ow σ H (fun r h' ι' H' => Post xa W Oo ι' ow σ H' K (f r h')) x := by
  cases x with
  | none => exact p
  | some r =>
    cases r with
    | ok a h2 => exact fun H2 ι2 s2 c => p.from s2
    | exc c h2 => exact p
theorem Post.lift {x : Option α} {h : List Cell} (c : Cells ι (Of Oo ι ow) H h) (p : Post xa W Oo ι ow σ H G (lift x h)) : ∃ a, x = some a ∧ ∀ H', Same H H' → G a h ι H' := by
  cases x with
  | none => exact p.elim
  | some a => exact ⟨a, rfl, fun H' s => p H' ι (Step.same s) (c.same s)⟩
end

/-- an expression's reading by its meaning -/
def TEv (xa : Nat → Addr) (W : WX) (m : EM) : TE := fun σ H Q => ∃ Oo ι ow ρ h, FR Oo ι ow σ H ρ h ∧ Post xa W Oo ι ow σ H (fun r _ ι' H' => ∀ v, RVR ι' (Of Oo ι' ow) H' v r → Q v H') (m ρ h)
def TTv (xa : Nat → Addr) (W : WX) (m : TM) : TT := fun σ H Q => ∃ Oo ι ow ρ h, FR Oo ι ow σ H ρ h ∧ Post xa W Oo ι ow σ H (fun b _ _ H' => Q b H') (m ρ h)
inductive RVRs (ι : List Addr) (O : Addr → Prop) (H : Hp) : List V → List RV → Prop
  | nil : RVRs ι O H [] []
  | cons {v : V} {vs : List V} {r : RV} {rs : List RV} : RVR ι O H v r → RVRs ι O H vs rs → RVRs ι O H (v :: vs) (r :: rs)
theorem RVRs.step {Oo : Addr → Prop} {ι ι' : List Addr} {ow : List (Option Addr)} {H H' : Hp} (x : Step ι H ι' H') : ∀ {vs : List V} {rs : List RV}, RVRs ι (Of Oo ι ow) H vs rs → RVRs ι' (Of Oo ι' ow) H' vs rs
  | _, _, .nil => .nil
  | _, _, .cons a b => .cons (RVR.step x a) (RVRs.step x b)
theorem RVRs.length {ι : List Addr} {O : Addr → Prop} {H : Hp} : ∀ {vs : List V} {rs : List RV}, RVRs ι O H vs rs → vs.length = rs.length
  | _, _, .nil => rfl
  | _, _, .cons _ b => by rw [List.length_cons, List.length_cons, b.length]
def TAv (xa : Nat → Addr) (W : WX) (m : AM) : TA := fun σ H Q => ∃ Oo ι ow ρ h, FR Oo ι ow σ H ρ h ∧ Post xa W Oo ι ow σ H (fun rs _ ι' H' => ∀ vs, RVRs ι' (Of Oo ι' ow) H' vs rs → Q vs H') (m ρ h)

theorem _root_.L2.PE.imp {X : Cx} {e : Expr} {t t' : TE} (p : PE X e t) (h : ∀ σ H Q, t' σ H Q → t σ H Q) : PE X e t' := ⟨fun pins s σ H Q I q => p.run pins s σ H Q I (h σ H Q q)⟩
theorem _root_.L2.PT.imp {X : Cx} {e : Expr} {t t' : TT} (p : PT X e t) (h : ∀ σ H Q, t' σ H Q → t σ H Q) : PT X e t' := ⟨fun pins s σ H Q I q => p.run pins s σ H Q I (h σ H Q q)⟩
theorem _root_.L2.PA.imp {X : Cx} {e : List Expr} {t t' : TA} (p : PA X e t) (h : ∀ σ H Q, t' σ H Q → t σ H Q) : PA X e t' := ⟨fun pos pins s σ H Q I q => p.run pos pins s σ H Q I (h σ H Q q)⟩
theorem _root_.L2.PS.imp {X : Cx} {e : Stmt} {t t' : TS} (p : PS X e t) (h : ∀ D σ H, t' D σ H → t D σ H) : PS X e t' := ⟨fun pins s σ H D I q => p.run pins s σ H D I (h D σ H q)⟩
theorem _root_.L2.PSs.imp {X : Cx} {e : List Stmt} {t t' : TS} (p : PSs X e t) (h : ∀ D σ H, t' D σ H → t D σ H) : PSs X e t' := ⟨fun pins s σ H D I q => p.run pins s σ H D I (h D σ H q)⟩

/-! ### a value as seen -/
def RV.view : RV → D
  | .val d => d
  | .bor xs => .lst xs
def VW (ι : List Addr) (O : Addr → Prop) (H : Hp) (v : V) (d : D) : Prop :=
  DR ι O H v d ∨ ∃ a vs xs, v = .ref a ∧ d = .lst xs ∧ Rd H a (.lst vs) ∧ DRs ι O H vs xs
theorem RVR.vw {ι : List Addr} {O : Addr → Prop} {H : Hp} {v : V} {r : RV} (q : RVR ι O H v r) : VW ι O H v r.view := by
  cases r with
  | val d => exact .inl q
  | bor xs =>
    obtain ⟨a, vs, e, _, _, h3, h4⟩ := q
    exact .inr ⟨a, vs, xs, e, rfl, h3, h4⟩
section
variable {ι : List Addr} {O : Addr → Prop} {H : Hp} {v : V}
theorem VW.int {i : Int} (q : VW ι O H v (.int i)) : v = .int i := by
  rcases q with q | ⟨_, _, _, _, e, _⟩
  · cases q; rfl
  · cases e
theorem VW.bl {b : Bool} (q : VW ι O H v (.bl b)) : v = .bl b := by
  rcases q with q | ⟨_, _, _, _, e, _⟩
  · cases q; rfl
  · cases e
theorem VW.non (q : VW ι O H v .non) : v = .non := by
  rcases q with q | ⟨_, _, _, _, e, _⟩
  · cases q; rfl
  · cases e
theorem VW.str {x : Str} (q : VW ι O H v (.str x)) : v = .str x ∧ PyData.strOk x = true ∧ x.length ≤ sizeLine := by
  rcases q with q | ⟨_, _, _, _, e, _⟩
  · cases q; exact ⟨rfl, by assumption, by assumption⟩
  · cases e
theorem VW.tup {ds : List D} (q : VW ι O H v (.tup ds)) : ∃ a vs, v = .ref a ∧ H a = some (.tup vs) ∧ DRs ι O H vs ds := by
  rcases q with q | ⟨_, _, _, _, e, _⟩
  · cases q; exact ⟨_, _, rfl, by assumption, by assumption⟩
  · cases e
theorem VW.lst {ds : List D} (q : VW ι O H v (.lst ds)) : ∃ a vs, v = .ref a ∧ Rd H a (.lst vs) ∧ DRs ι O H vs ds := by
  rcases q with q | ⟨_, _, _, e1, e, h1, h2⟩
  · cases q; exact ⟨_, _, rfl, .inl (by assumption), by assumption⟩
  · cases e; exact ⟨_, _, e1, h1, h2⟩
end

/-- .. a cell by what stands in it -/
def D.see (h : List Cell) : D → D
  | .ref r => match h[r]? with
    | some (.lst xs) => .lst xs
    | _ => .ref r
  | d => d
def RV.see (h : List Cell) : RV → D
  | .val d => d.see h
  | .bor xs => .lst xs
theorem RVR.vs {ι : List Addr} {O : Addr → Prop} {H : Hp} {h : List Cell} {v : V} {r : RV} (q : RVR ι O H v r) (c : Cells ι O H h) : VW ι O H v (r.see h) := by
  cases r with
  | bor xs =>
    obtain ⟨a, vs, e, _, _, h3, h4⟩ := q
    exact .inr ⟨a, vs, xs, e, rfl, h3, h4⟩
  | val d =>
    cases d with
    | ref r =>
      have q' : DR ι O H v (.ref r) := q
      show VW ι O H v (match h[r]? with | some (.lst xs) => D.lst xs | _ => D.ref r)
      cases e : h[r]? with
      | none => exact .inl q
      | some cl =>
        cases cl with
        | lst xs =>
          cases q' with
          | ref er =>
            obtain ⟨vs, h1, h2⟩ := c.at_ r _ _ er e
            exact .inr ⟨_, vs, xs, rfl, rfl, .inl h1, h2⟩
    | _ => exact .inl q
/-! ### operations by values -/
def rV2 (g : D → D → Option D) : R2 := fun x y H Q => ∃ ι O d e r, (∀ a, O a → H a ≠ none) ∧ VW ι O H x d ∧ VW ι O H y e ∧ g d e = some r ∧ ∀ v H', Same H H' → DR ι O H' v r → Q v H'
abbrev OpV (X : Cx) (f : Value → Value → Sem Value) (g : D → D → Option D) : Prop := OpR X f (rV2 g)
def rV1 (g : D → Option D) : V → Hp → VK → Prop := fun x H Q => ∃ ι O d r, (∀ a, O a → H a ≠ none) ∧ VW ι O H x d ∧ g d = some r ∧ ∀ v H', Same H H' → DR ι O H' v r → Q v H'
abbrev UnV (X : Cx) (f : Value → Sem Value) (g : D → Option D) : Prop := UnR X f (rV1 g)
inductive VWs (ι : List Addr) (O : Addr → Prop) (H : Hp) : List V → List D → Prop
  | nil : VWs ι O H [] []
  | cons {v : V} {vs : List V} {d : D} {ds : List D} : VW ι O H v d → VWs ι O H vs ds → VWs ι O H (v :: vs) (d :: ds)
theorem RVRs.vws {ι : List Addr} {O : Addr → Prop} {H : Hp} : ∀ {vs : List V} {rs : List RV}, RVRs ι O H vs rs → VWs ι O H vs (rs.map RV.view)
  | _, _, .nil => .nil
  | _, _, .cons a b => .cons a.vw (RVRs.vws b)
theorem RVRs.vss {ι : List Addr} {O : Addr → Prop} {H : Hp} {h : List Cell} (c : Cells ι O H h) : ∀ {vs : List V} {rs : List RV}, RVRs ι O H vs rs → VWs ι O H vs (rs.map (RV.see h))
  | _, _, .nil => .nil
  | _, _, .cons a b => .cons (a.vs c) (RVRs.vss c b)
def rVn (g : List D → Option D) : List V → Hp → VK → Prop := fun xs H Q => ∃ ι O ds r, (∀ a, O a → H a ≠ none) ∧ VWs ι O H xs ds ∧ g ds = some r ∧ ∀ v H', Same H H' → DR ι O H' v r → Q v H'
abbrev CallV (X : Cx) (f : Value) (g : List D → Option D) : Prop := CallR X f (rVn g)

/-! ### meanings of expressions -/
def mBin (g : D → D → Option D) (a b : EM) : EM := fun ρ h => bd (a ρ h) fun x h1 => bd (b ρ h1) fun y h2 => bd (lift (g (x.see h2) (y.see h2)) h2) fun d h3 => ret (.val d) h3
def mUn (g : D → Option D) (a : EM) : EM := fun ρ h => bd (a ρ h) fun x h1 => bd (lift (g (x.see h1)) h1) fun d h3 => ret (.val d) h3
def mC (d : D) : EM := fun _ h => ret (.val d) h
def mVar (i : Nat) : EM := fun ρ h =>
  match ρ[i]? with
  | some (some (.val d)) => ret (.val d) h
  | some (some (.bor xs)) => ret (.bor xs) h
  | some (some (.own xs)) => ret (.bor xs) h
  | _ => none
def mNil : AM := fun _ h => ret [] h
def mCons (a : EM) (r : AM) : AM := fun ρ h => bd (a ρ h) fun x h1 => bd (r ρ h1) fun xs h2 => ret (x :: xs) h2
def mCallB (g : List D → Option D) (as : AM) : EM := fun ρ h => bd (as ρ h) fun xs h1 => bd (lift (g (xs.map (RV.see h1))) h1) fun d h2 => ret (.val d) h2
def allVal : List RV → Option (List D)
  | [] => some []
  | .val d :: r => (allVal r).map (d :: ·)
  | .bor _ :: _ => none
def mTup (as : AM) : EM := fun ρ h => bd (as ρ h) fun xs h1 => bd (lift (allVal xs) h1) fun ds h2 => if ds.length ≤ sizeLine then ret (.val (.tup ds)) h2 else none
def mLst (as : AM) : EM := fun ρ h => bd (as ρ h) fun xs h1 => bd (lift (allVal xs) h1) fun ds h2 => if ds.length ≤ sizeLine then ret (.val (.lst ds)) h2 else none

section
variable {X : Cx} {xa : Nat → Addr} {W : WX} {a b c : Expr} {ma mb mc : EM} {pos : Pos}
theorem pd_var {i : Nat} {x : Str} (hN : X.N[i]? = some x) (hv : Vis X.env.scope x) (hd : (x == ("__debug__" : Str)) = false) (hcd : (x == ("__classdict__" : Str)) = false) : PE X (.Name x pos) (TEv xa W (mVar i)) := by
  refine (pe_var hN hv hd hcd).imp fun σ H Q h => ?_
  obtain ⟨Oo, ι, ow, ρ, hh, f, p⟩ := h
  unfold mVar at p
  have go : ∀ {v : V} {r : RV}, σ[i]? = some (some v) → RVR ι (Of Oo ι ow) H v r → Post xa W Oo ι ow σ H (fun r _ ι' H' => ∀ v, RVR ι' (Of Oo ι' ow) H' v r → Q v H') (ret r hh) → tVar i σ H Q := fun {v r} e q p =>
    ⟨v, e, p H ι (Step.refl _ _) f.cells v q⟩
  split at p
  · rename_i d e
    obtain ⟨v, h1, h2⟩ := f.slot i _ e
    exact go h1 (r := .val d) h2 p
  · rename_i xs e
    obtain ⟨a, vs, h1, h2, h3, h4⟩ := f.slot i _ e
    exact go h1 (r := .bor xs) ⟨a, vs, rfl, .inl h2, fun z => f.dis a z h2, h3, h4⟩ p
  · rename_i xs e
    obtain ⟨a, vs, h1, h2, h3, h4⟩ := f.slot i _ e
    exact go h1 (r := .bor xs) ⟨a, vs, rfl, .inr (.inr (List.mem_iff_getElem?.mpr ⟨i, h2⟩)), (f.own i a h2).2.1, .inl h3, h4⟩ p
  · exact p.elim
theorem tC_of {d : D} {v : V} (h : ∀ ι O H, DR ι O H v d) : ∀ σ H Q, TEv xa W (mC d) σ H Q → tC v σ H Q := fun σ H Q ⟨Oo, ι, ow, ρ, hh, f, p⟩ => p H ι (Step.refl _ _) f.cells v (h _ _ _)
theorem pd_int {i j} : PE X (.Constant (.int i) j pos) (TEv xa W (mC (.int i))) := pe_int.imp (tC_of fun _ _ _ => .int i)
theorem pd_bl {i j} : PE X (.Constant (.bool i) j pos) (TEv xa W (mC (.bl i))) := pe_bl.imp (tC_of fun _ _ _ => .bl i)
theorem pd_non {j} : PE X (.Constant .none j pos) (TEv xa W (mC .non)) := pe_non.imp (tC_of fun _ _ _ => .non)
theorem pd_str {x j} (h : PyData.strOk x = true) (h2 : x.length ≤ sizeLine) : PE X (.Constant (.str x) j pos) (TEv xa W (mC (.str x))) := pe_str.imp (tC_of fun _ _ _ => .str x h h2)
theorem tOp_of {g : D → D → Option D} : ∀ σ H Q, TEv xa W (mBin g ma mb) σ H Q → tOp (rV2 g) (TEv xa W ma) (TEv xa W mb) σ H Q := by
  intro σ H Q ⟨Oo, ι, ow, ρ, hh, f, p⟩
  refine ⟨Oo, ι, ow, ρ, hh, f, (Post.bd p).imp fun r h1 H1 ι1 s1 c1 p1 v rv => ?_⟩
  refine ⟨Oo, ι1, ow, ρ, h1, f.step s1 c1, (Post.bd p1).imp fun r2 h2 H2 ι2 s2 c2 p2 v2 rv2 => ?_⟩
  obtain ⟨d, e, q⟩ := Post.lift c2 (Post.bd p2)
  have f2 := (f.step s1 c1).step s2 c2
  exact ⟨ι2, Of Oo ι2 ow, _, _, d, f2.trkO, (rv.step s2).vs c2, rv2.vs c2, e, fun v' H' sm dr => q H' sm H' ι2 (Step.refl _ _) (c2.same sm) v' dr⟩
theorem pd_bin {op : Operator} {g : D → D → Option D} (ho : OpV X (binaryOp op) g) (ha : PE X a (TEv xa W ma)) (hb : PE X b (TEv xa W mb)) : PE X (.BinOp a op b pos) (TEv xa W (mBin g ma mb)) :=
  (pe_op ho ha hb).imp tOp_of
theorem pd_cmp {op : CmpOp} {g : D → D → Option D} (ho : OpV X (compareOp op) g) (ha : PE X a (TEv xa W ma)) (hb : PE X b (TEv xa W mb)) (hm : behindInMarks op b = false) : PE X (.Compare a [op] [b] pos) (TEv xa W (mBin g ma mb)) :=
  (pe_cmpR ho ha hb hm).imp tOp_of
theorem pd_un {op : UnaryOp} {g : D → Option D} (ho : UnV X (unaryOp op) g) (ha : PE X a (TEv xa W ma)) : PE X (.UnaryOp op a pos) (TEv xa W (mUn g ma)) := by
  refine (pe_un ho ha).imp fun σ H Q ⟨Oo, ι, ow, ρ, hh, f, p⟩ => ?_
  refine ⟨Oo, ι, ow, ρ, hh, f, (Post.bd p).imp fun r h1 H1 ι1 s1 c1 p1 v rv => ?_⟩
  obtain ⟨d, e, q⟩ := Post.lift c1 (Post.bd p1)
  have f2 := f.step s1 c1
  exact ⟨ι1, Of Oo ι1 ow, _, d, f2.trkO, rv.vs c1, e, fun v' H' sm dr => q H' sm H' ι1 (Step.refl _ _) (c1.same sm) v' dr⟩
/-- argument lists -/
theorem pd_nil : PA X [] (TAv xa W mNil) := pa_nil.imp fun σ H Q ⟨Oo, ι, ow, ρ, hh, f, p⟩ => p H ι (Step.refl _ _) f.cells [] .nil
theorem pd_cons {e : Expr} {es : List Expr} {me : EM} {ms : AM} (he : PE X e (TEv xa W me)) (hs : PA X es (TAv xa W ms)) (hst : starEach (e :: es) X.env = (false, eval e X.env) :: starEach es X.env) : PA X (e :: es) (TAv xa W (mCons me ms)) := by
  refine (pa_cons he hs hst).imp fun σ H Q ⟨Oo, ι, ow, ρ, hh, f, p⟩ => ?_
  refine ⟨Oo, ι, ow, ρ, hh, f, (Post.bd p).imp fun r h1 H1 ι1 s1 c1 p1 v rv => ?_⟩
  refine ⟨Oo, ι1, ow, ρ, h1, f.step s1 c1, (Post.bd p1).imp fun r2 h2 H2 ι2 s2 c2 p2 v2 rv2 => ?_⟩
  exact p2 H2 ι2 (Step.refl _ _) c2 _ (.cons (rv.step s2) rv2)
theorem allVal_of {ι : List Addr} {O : Addr → Prop} {H : Hp} : ∀ {vs : List V} {rs : List RV} {ds : List D}, RVRs ι O H vs rs → allVal rs = some ds → DRs ι O H vs ds
  | _, _, _, .nil, e => by cases e; exact .nil
  | _, .val d :: r, ds, .cons a b, e => by
    simp only [allVal, Option.map_eq_some_iff] at e
    obtain ⟨ds', e1, rfl⟩ := e
    exact .cons a (allVal_of b e1)
  | _, .bor _ :: _, _, _, e => by cases e
theorem DR.newTup {ι : List Addr} {Oo : Addr → Prop} {ow : List (Option Addr)} {H : Hp} {p : Addr} {vs : List V} {ds : List D} (hp : H p = none) (q : DRs ι (Of Oo ι ow) H vs ds) : DR ι (Of Oo ι ow) (upd H p (.tup vs)) (.ref p) (.tup ds) :=
  .tup upd_same (q.step (Step.same (same_new hp)))
theorem DR.newLst {ι : List Addr} {Oo : Addr → Prop} {ow : List (Option Addr)} {H : Hp} {p : Addr} {vs : List V} {ds : List D} (hp : H p = none) (ho : ∀ a, Of Oo ι ow a → H a ≠ none) (q : DRs ι (Of Oo ι ow) H vs ds) : DR ι (Of Oo ι ow) (upd H p (.lst vs)) (.ref p) (.lst ds) :=
  .lst upd_same (fun z => ho p z hp) (q.step (Step.same (same_new hp)))
theorem pd_tup {es : List Expr} {x1} {ms : AM} (h : PA X es (TAv xa W ms)) : PE X (.Tuple es x1 pos) (TEv xa W (mTup ms)) := by
  refine (pe_tup h).imp fun σ H Q ⟨Oo, ι, ow, ρ, hh, f, p⟩ => ?_
  refine ⟨Oo, ι, ow, ρ, hh, f, (Post.bd p).imp fun r h1 H1 ι1 s1 c1 p1 vs rv => ?_⟩
  obtain ⟨ds, e, q⟩ := Post.lift c1 (Post.bd p1)
  have f1 := f.step s1 c1
  have dr := allVal_of rv e
  have q1 := q H1 (Same.refl _)
  by_cases hl : ds.length ≤ sizeLine
  · rw [if_pos hl] at q1
    refine ⟨by rw [dr.length]; exact hl, fun a ha => ?_⟩
    exact q1 _ ι1 (Step.same (same_new ha)) (c1.same (same_new ha)) _ (DR.newTup ha dr)
  · rw [if_neg hl] at q1
    exact q1.elim
theorem pd_lst {es : List Expr} {ms : AM} (h : PA X es (TAv xa W ms)) : PE X (.List es pos) (TEv xa W (mLst ms)) := by
  refine (pe_lst h).imp fun σ H Q ⟨Oo, ι, ow, ρ, hh, f, p⟩ => ?_
  refine ⟨Oo, ι, ow, ρ, hh, f, (Post.bd p).imp fun r h1 H1 ι1 s1 c1 p1 vs rv => ?_⟩
  obtain ⟨ds, e, q⟩ := Post.lift c1 (Post.bd p1)
  have f1 := f.step s1 c1
  have dr := allVal_of rv e
  have q1 := q H1 (Same.refl _)
  by_cases hl : ds.length ≤ sizeLine
  · rw [if_pos hl] at q1
    refine ⟨by rw [dr.length]; exact hl, fun a ha => ?_⟩
    exact q1 _ ι1 (Step.same (same_new ha)) (c1.same (same_new ha)) _ (DR.newLst ha f1.trkO dr)
  · rw [if_neg hl] at q1
    exact q1.elim
theorem tCB_of {g : List D → Option D} {ms : AM} : ∀ σ H Q, TEv xa W (mCallB g ms) σ H Q → tCB (rVn g) (TAv xa W ms) σ H Q := by
  intro σ H Q ⟨Oo, ι, ow, ρ, hh, f, p⟩
  refine ⟨Oo, ι, ow, ρ, hh, f, (Post.bd p).imp fun r h1 H1 ι1 s1 c1 p1 v rv => ?_⟩
  obtain ⟨d, e, q⟩ := Post.lift c1 (Post.bd p1)
  have f2 := f.step s1 c1
  exact ⟨ι1, Of Oo ι1 ow, _, d, f2.trkO, RVRs.vss c1 rv, e, fun v' H' sm dr => q H' sm H' ι1 (Step.refl _ _) (c1.same sm) v' dr⟩
theorem pd_callB {x : Str} {id : String} {e : Expr} {es : List Expr} {p : Pos} {g : List D → Option D} {ms : AM} (hc : CallV X (.builtin id) g) (hg : Gl X x) (hm : X.mg x = none) (hv : bootBuiltins x = some (.builtin id)) (ha : PA X (e :: es) (TAv xa W ms)) (hn : x ≠ "__name__") (hdb : (x == ("__debug__" : Str)) = false)
    (he : starEach (e :: es) X.env = (false, eval e X.env) :: starEach es X.env) (hpl : (backTo pos (starEach es X.env)).any (·.1) = false) : PE X (.Call (.Name x p) (e :: es) [] pos) (TEv xa W (mCallB g ms)) :=
  (pe_callB hc hg hm hv ha hn hdb he hpl).imp tCB_of
theorem pd_callTy {x : Str} {T : String} {e : Expr} {es : List Expr} {p : Pos} {g : List D → Option D} {ms : AM} (hc : CallV X (.type T) g) (hg : Gl X x) (hm : X.mg x = none) (hv : bootBuiltins x = some (.type T)) (ha : PA X (e :: es) (TAv xa W ms)) (hn : x ≠ "__name__") (hdb : (x == ("__debug__" : Str)) = false)
    (he : starEach (e :: es) X.env = (false, eval e X.env) :: starEach es X.env) (hpl : (backTo pos (starEach es X.env)).any (·.1) = false) : PE X (.Call (.Name x p) (e :: es) [] pos) (TEv xa W (mCallB g ms)) :=
  (pe_callTy hc hg hm hv ha hn hdb he hpl).imp tCB_of
end
end Kb
namespace Kb
open PySem L2

mutual
theorem DR.same {ι : List Addr} {O : Addr → Prop} {H H' : Hp} (s : Same H H') : ∀ {v : V} {d : D}, DR ι O H v d → DR ι O H' v d
  | _, _, .non => .non
  | _, _, .bl b => .bl b
  | _, _, .int i => .int i
  | _, _, .str s h h2 => .str s h h2
  | _, _, .tup r q => .tup (s _ _ r) (DRs.same s q)
  | _, _, .lst r n q => .lst (s _ _ r) n (DRs.same s q)
  | _, _, .ref e => .ref e
theorem DRs.same {ι : List Addr} {O : Addr → Prop} {H H' : Hp} (s : Same H H') : ∀ {v : List V} {d : List D}, DRs ι O H v d → DRs ι O H' v d
  | _, _, .nil => .nil
  | _, _, .cons a b => .cons (DR.same s a) (DRs.same s b)
end

/-! ### data: equality, depth -/
mutual
def D.eq : D → D → Bool
  | .non, .non => true
  | .bl a, .bl b => a == b
  | .bl a, .int j => (if a then 1 else 0) == j
  | .int i, .bl b => i == (if b then 1 else 0)
  | .int i, .int j => i == j
  | .str x, .str y => x == y
  | .lst xs, .lst ys => D.eqs xs ys
  | .tup xs, .tup ys => D.eqs xs ys
  | _, _ => false
def D.eqs : List D → List D → Bool
  | [], [] => true
  | x :: xs, y :: ys => D.eq x y && D.eqs xs ys
  | _, _ => false
end
mutual
def D.dep : D → Nat
  | .lst xs => D.deps xs + 1
  | .tup xs => D.deps xs + 1
  | .ref _ => 1000
  | _ => 0
def D.deps : List D → Nat
  | [] => 0
  | x :: xs => max (D.dep x) (D.deps xs)
end
mutual
def D.py : D → PyData
  | .non => .none
  | .bl b => .bool b
  | .int i => .int i
  | .str x => .str x
  | .lst xs => .list (D.pys xs)
  | .tup xs => .tuple (D.pys xs)
  | .ref _ => .none
def D.pys : List D → List PyData
  | [] => []
  | x :: xs => D.py x :: D.pys xs
end
mutual
theorem D.py_eq : ∀ (d e : D), d.dep ≤ 64 → e.dep ≤ 64 → PyData.eqv d.py e.py = D.eq d e
  | .non, e, _, h => by cases e <;> first | (simp [D.dep] at h; done) | simp [D.py, PyData.eqv, D.eq]
  | .bl _, e, _, h => by cases e <;> first | (simp [D.dep] at h; done) | simp [D.py, PyData.eqv, D.eq]
  | .int _, e, _, h => by cases e <;> first | (simp [D.dep] at h; done) | simp [D.py, PyData.eqv, D.eq]
  | .str _, e, _, h => by cases e <;> first | (simp [D.dep] at h; done) | simp [D.py, PyData.eqv, D.eq]
  | .ref _, _, h, _ => by simp [D.dep] at h
  | .lst xs, e, h0, h => by
    cases e <;> first
      | (simp [D.dep] at h; done)
      | (simp [D.py, PyData.eqv, D.eq]; done)
      | (simp only [D.py, PyData.eqv, D.eq]; simp only [D.dep] at h0 h; exact D.pys_eq _ _ (by omega) (by omega))
  | .tup xs, e, h0, h => by
    cases e <;> first
      | (simp [D.dep] at h; done)
      | (simp [D.py, PyData.eqv, D.eq]; done)
      | (simp only [D.py, PyData.eqv, D.eq]; simp only [D.dep] at h0 h; exact D.pys_eq _ _ (by omega) (by omega))
theorem D.pys_eq : ∀ (d e : List D), D.deps d ≤ 64 → D.deps e ≤ 64 → PyData.eqvAll (D.pys d) (D.pys e) = D.eqs d e
  | [], [], _, _ => by simp [D.pys, PyData.eqvAll, D.eqs]
  | [], _ :: _, _, _ => by simp [D.pys, PyData.eqvAll, D.eqs]
  | _ :: _, [], _, _ => by simp [D.pys, PyData.eqvAll, D.eqs]
  | x :: xs, y :: ys, h, h' => by
    simp only [D.deps] at h h'
    simp only [D.pys, PyData.eqvAll, D.eqs]
    rw [D.py_eq x y (by omega) (by omega), D.pys_eq xs ys (by omega) (by omega)]
end
mutual
theorem D.py_dep : ∀ (d : D), d.dep ≤ 64 → d.py.depth ≤ d.dep
  | .non, _ => by simp [D.py, PyData.depth]
  | .bl _, _ => by simp [D.py, PyData.depth]
  | .int _, _ => by simp [D.py, PyData.depth]
  | .str _, _ => by simp [D.py, PyData.depth]
  | .ref _, _ => by simp [D.py, PyData.depth]
  | .lst xs, h => by
    simp only [D.dep] at h
    have := D.pys_dep xs (by omega)
    simp only [D.py, PyData.depth, D.dep]
    omega
  | .tup xs, h => by
    simp only [D.dep] at h
    have := D.pys_dep xs (by omega)
    simp only [D.py, PyData.depth, D.dep]
    omega
theorem D.pys_dep : ∀ (d : List D), D.deps d ≤ 64 → PyData.depthAll (D.pys d) ≤ D.deps d
  | [], _ => by simp [D.pys, PyData.depthAll]
  | x :: xs, h => by
    simp only [D.deps] at h
    have h1 := D.py_dep x (by omega)
    have h2 := D.pys_dep xs (by omega)
    simp only [D.pys, PyData.depthAll, D.deps]
    omega
end
mutual
theorem DR.dp {ι : List Addr} {O : Addr → Prop} {H : Hp} {K : PySem.W.Frag} : ∀ {v : V} {d : D}, DR ι O H v d → d.dep ≤ 64 → Dp K H v d.py ∧ d.py.canLay0 = true
  | _, _, .non, _ => ⟨by simp only [D.py]; exact .non, by simp [D.py, PyData.canLay0]⟩
  | _, _, .bl b, _ => ⟨by simp only [D.py]; exact .bl b, by simp [D.py, PyData.canLay0]⟩
  | _, _, .int i, _ => ⟨by simp only [D.py]; exact .int i, by simp [D.py, PyData.canLay0]⟩
  | _, _, .str s h h2, _ => ⟨by simp only [D.py]; exact .str s, by simp only [D.py, PyData.canLay0]; exact h⟩
  | _, _, .tup (ds := ds) r q, hd => by
    simp only [D.dep] at hd
    obtain ⟨h1, h2⟩ := DRs.dp (K := K) q (by omega)
    exact ⟨by simp only [D.py]; exact .tup (.inl (.inl r)) h1, by simp only [D.py, PyData.canLay0]; exact h2⟩
  | _, _, .lst r n q, hd => by
    simp only [D.dep] at hd
    obtain ⟨h1, h2⟩ := DRs.dp (K := K) q (by omega)
    exact ⟨by simp only [D.py]; exact .lst (.inl (.inl r)) h1, by simp only [D.py, PyData.canLay0]; exact h2⟩
  | _, _, .ref e, hd => by simp [D.dep] at hd
theorem DRs.dp {ι : List Addr} {O : Addr → Prop} {H : Hp} {K : PySem.W.Frag} : ∀ {v : List V} {d : List D}, DRs ι O H v d → D.deps d ≤ 64 → DpAll K H v (D.pys d) ∧ PyData.canLayAll0 (D.pys d) = true
  | _, _, .nil, _ => ⟨by simp only [D.pys]; exact .nil, by simp [D.pys, PyData.canLayAll0]⟩
  | _, _, .cons a b, hd => by
    simp only [D.deps] at hd
    obtain ⟨h1, h2⟩ := DR.dp (K := K) a (by omega)
    obtain ⟨h3, h4⟩ := DRs.dp (K := K) b (by omega)
    exact ⟨by simp only [D.pys]; exact .cons h1 h3, by simp only [D.pys, PyData.canLayAll0, h2, h4]; rfl⟩
end
theorem VW.dp {ι : List Addr} {O : Addr → Prop} {H : Hp} {K : PySem.W.Frag} {v : V} {d : D} (q : VW ι O H v d) (hd : d.dep ≤ 64) : Dp K H v d.py ∧ SeqAt.shaped d.py = true := by
  have sh : d.py.canLay0 = true → SeqAt.shaped d.py = true := fun z => by
    have := D.py_dep d hd
    unfold SeqAt.shaped
    rw [z, Bool.true_and]
    exact decide_eq_true (by omega)
  rcases q with q | ⟨a, vs, xs, rfl, rfl, h3, h4⟩
  · obtain ⟨h1, h2⟩ := q.dp (K := K) hd
    exact ⟨h1, sh h2⟩
  · simp only [D.dep] at hd
    obtain ⟨h1, h2⟩ := h4.dp (K := K) (by omega)
    refine ⟨by simp only [D.py]; exact .lst (.inl h3) h1, sh (by simp only [D.py, PyData.canLay0]; exact h2)⟩

/-! ### the operations -/
def D.add : D → D → Option D
  | .int i, .int j => some (.int (i + j))
  | .str x, .str y => if x.length + y.length ≤ sizeLine then some (.str (x ++ y)) else none
  | .lst xs, .lst ys => if xs.length + ys.length ≤ sizeLine then some (.lst (xs ++ ys)) else none
  | .tup xs, .tup ys => if xs.length + ys.length ≤ sizeLine then some (.tup (xs ++ ys)) else none
  | _, _ => none
def D.sub : D → D → Option D
  | .int i, .int j => some (.int (i - j))
  | _, _ => none
def D.mul : D → D → Option D
  | .int i, .int j => if (-(2 ^ 64) < i ∧ i < 2 ^ 64) ∨ (-(2 ^ 64) < j ∧ j < 2 ^ 64) then some (.int (i * j)) else none
  | .lst xs, .int k => if -(2 ^ 63) ≤ k ∧ k < 2 ^ 63 ∧ xs.length * k.toNat ≤ sizeLine then some (.lst (List.replicate k.toNat xs).flatten) else none
  | _, _ => none
def D.fdiv : D → D → Option D
  | .int i, .int j => if 0 < j ∧ j < 1073741824 then some (.int (i / j)) else none
  | _, _ => none
def D.mod : D → D → Option D
  | .int i, .int j => if 0 < j then some (.int (i % j)) else none
  | _, _ => none
def D.neg : D → Option D
  | .int i => some (.int (-i))
  | _ => none
def D.cmpI (p : Int → Int → Bool) : D → D → Option D
  | .int i, .int j => some (.bl (p i j))
  | _, _ => none
def D.eqO (d e : D) : Option D := if d.dep ≤ 64 ∧ e.dep ≤ 64 then some (.bl (D.eq d e)) else none
def D.neO (d e : D) : Option D := if d.dep ≤ 64 ∧ e.dep ≤ 64 then some (.bl (!D.eq d e)) else none
def D.items : D → Option (List D)
  | .lst xs => some xs
  | .tup xs => some xs
  | _ => none
def D.inO (d e : D) : Option D := if d.dep ≤ 64 ∧ e.dep ≤ 64 then e.items.map fun ys => .bl (ys.any fun z => D.eq z d) else none
def D.ninO (d e : D) : Option D := if d.dep ≤ 64 ∧ e.dep ≤ 64 then e.items.map fun ys => .bl (!ys.any fun z => D.eq z d) else none
def D.isN : D → Option D
  | .non => some (.bl true)
  | .ref _ => some (.bl false)
  | _ => some (.bl false)
def D.at_ : D → D → Option D
  | .lst xs, .int i => atI xs i
  | .tup xs, .int i => atI xs i
  | _, _ => none

section
variable {X : Cx}
theorem strOk_app {x y : Str} (h1 : PyData.strOk x = true) (h2 : PyData.strOk y = true) : PyData.strOk (x ++ y) = true := by
  unfold PyData.strOk at *
  rw [Array.all_eq_true'] at *
  intro c hc
  have hc' : c ∈ x.cps ++ y.cps := hc
  rcases Array.mem_append.mp hc' with h | h
  · exact h1 c h
  · exact h2 c h
theorem rd_lst {pins : List (Addr × Obj)} {σ : St} {H : Hp} {s : Shared} {l : Addr} {xs : List V} (I : Inv X pins σ H s) (r : Rd H l (.lst xs)) : xs.length ≤ sizeLine ∧ ∃ (its : List Value) (n : Nat), Vals xs its ∧ xs.length = its.length ∧ s.heap.get? l = some { cls := .type "list", data := .seq its.toArray n } := by
  obtain ⟨z, its, n, r, e⟩ := r.ok I.hok
  exact ⟨z, its, n, r, r.length, e⟩
theorem ov_add : OpV X (binaryOp .Add) D.add := by
  intro pins s σ H x y v u Q I rx ry h
  obtain ⟨ι, O, d, e, r, ho, hx, hy, hg, q⟩ := h
  unfold D.add at hg
  split at hg
  · cases hg
    obtain rfl := hx.int
    obtain rfl := hy.int
    exact op_add pins s σ H _ _ v u Q I rx ry ⟨_, _, rfl, rfl, q _ H (Same.refl _) (.int _)⟩
  · split at hg
    · rename_i hl
      cases hg
      obtain ⟨rfl, h1, _⟩ := hx.str
      obtain ⟨rfl, h2, _⟩ := hy.str
      refine op_add_str pins s σ H _ _ v u Q I rx ry ⟨_, _, rfl, rfl, hl, q _ H (Same.refl _) (.str _ (strOk_app h1 h2) ?_)⟩
      have e : ∀ a b : Str, (a ++ b).length = a.length + b.length := fun a b => by
        show (a.cps ++ b.cps).size = a.cps.size + b.cps.size
        rw [Array.size_append]
      rw [e]
      exact hl
    · cases hg
  · split at hg
    · rename_i hl
      cases hg
      obtain ⟨a, vs, rfl, r1, q1⟩ := hx.lst
      obtain ⟨b, ws, rfl, r2, q2⟩ := hy.lst
      have hl' : vs.length + ws.length ≤ sizeLine := by rw [q1.length, q2.length]; exact hl
      cases rx
      cases ry
      obtain ⟨z, its, n, rr, hl1, e⟩ := rd_lst I r1
      obtain ⟨z2, its2, n2, rr2, hl2, e2⟩ := rd_lst I r2
      refine PySem.P.add_list e e2 ?_ (by rw [List.size_toArray, List.size_toArray]; omega)
      have ea : its.toArray ++ its2.toArray = (its ++ its2).toArray := by simp
      rw [ea]
      refine ⟨.ref _, _, I.lnew (t' := s.toks) (rr.append rr2) (by rw [List.length_append]; omega), rfl, q _ _ (same_new I.fresh) (.lst upd_same (fun z => ho _ z I.fresh) ((q1.append q2).same (same_new I.fresh)))⟩
    · cases hg
  · split at hg
    · rename_i hl
      cases hg
      obtain ⟨a, vs, rfl, r1, q1⟩ := hx.tup
      obtain ⟨b, ws, rfl, r2, q2⟩ := hy.tup
      have hl' : vs.length + ws.length ≤ sizeLine := by rw [q1.length, q2.length]; exact hl
      refine op_catA pins s σ H _ _ v u Q I rx ry ⟨a, b, vs, ws, rfl, rfl, .inl (.inl r1), .inl (.inl r2), hl', fun e0 => ?_, fun e0 e1 => ?_, fun e0 e1 p hp => ?_⟩
      · subst e0
        cases q1
        exact q _ H (Same.refl _) (.tup r2 q2)
      · subst e1
        cases q2
        rw [List.append_nil] at q
        exact q _ H (Same.refl _) (.tup r1 q1)
      · exact q _ _ (same_new hp) (.tup upd_same ((q1.append q2).same (same_new hp)))
    · cases hg
  · cases hg
theorem ov_sub : OpV X (binaryOp .Sub) D.sub := by
  intro pins s σ H x y v u Q I rx ry h
  obtain ⟨ι, O, d, e, r, ho, hx, hy, hg, q⟩ := h
  unfold D.sub at hg
  split at hg
  · cases hg
    obtain rfl := hx.int
    obtain rfl := hy.int
    exact op_sub pins s σ H _ _ v u Q I rx ry ⟨_, _, rfl, rfl, q _ H (Same.refl _) (.int _)⟩
  · cases hg
theorem DRs.rep {ι : List Addr} {O : Addr → Prop} {H : Hp} {vs : List V} {ds : List D} (q : DRs ι O H vs ds) : ∀ n : Nat, DRs ι O H (List.replicate n vs).flatten (List.replicate n ds).flatten
  | 0 => by simp; exact .nil
  | n + 1 => by rw [List.replicate_succ, List.replicate_succ, List.flatten_cons, List.flatten_cons]; exact q.append (DRs.rep q n)
theorem rep_rd {pins : List (Addr × Obj)} {s : Shared} {σ : St} {H : Hp} {l : Addr} {vs : List V} {k : Int} {t : Tok} {Q : VK} (I : Inv X pins σ H s) (r0 : Rd H l (.lst vs)) (h1 : -(2 ^ 63) ≤ k) (h2 : k < 2 ^ 63) (hz : vs.length * k.toNat ≤ sizeLine)
    (q : ∀ p, H p = none → Q (.ref p) (upd H p (.lst (List.replicate k.toNat vs).flatten))) : wpAny (model X.prog X.w) X.A (binaryOp .Mult (.ref l) (.int k t)) (EP X pins σ Q) X.xe s := by
  obtain ⟨z, its, n, r, hl, e⟩ := rd_lst I r0
  have a1 : its.toArray.size * k.toNat ≤ sizeLine := by rw [List.size_toArray, ← hl]; exact hz
  have a2 : (sizeLine : Nat) ≤ (2 ^ 63 - 1) / 8 := by decide
  have a3 : ¬ (!Builtin.List.listFitsIndex k) = true := by rw [fitsIndex_both h1 h2]; decide
  have a4 : ¬ Builtin.List.listTooLong (its.toArray.size * k.toNat) = true := by rw [notLongL a1]; decide
  have a5 : List.foldl (fun x1 x2 => x1 ++ x2) #[] (List.replicate (if its.toArray.isEmpty = true then 0 else k.toNat) its.toArray) = (List.replicate k.toNat its).flatten.toArray := by
    cases its with
    | nil => simp
    | cons a b =>
      rw [if_neg (by simp)]
      exact foldl_rep (a :: b) k.toNat []
  refine wpAny_binaryOp_repeat_ref (T := "list") (U := "int") (by decide) ⟨_, e, rfl⟩ (fun s' => typeIs_int s' k t) noFill_list_mul F.fills_int_mul F.slot_int_rmul repeat_list F.slot_int_index.lookup ?_
  refine call_meets F.slot_int_rmul (typeIs_int s k t) F.entry_int_rmul (F.args_int_rmul_2 _ _) (int___rmul___int_list k t l its.toArray n) ⟨e, rfl, ⟨_, e, rfl⟩, ?_⟩
  refine call_meets F.slot_list_mul ⟨_, e, rfl⟩ F.entry_list_mul (F.args_list_mul_2 _ _) (AutoListH.list___mul___list_int_3 l its.toArray n k t a3 (by omega) a4) ⟨e, ?_⟩
  rw [a5]
  exact ⟨.ref _, _, I.lnew (t' := s.toks) (r.rep k.toNat) (by rw [PyProof.Rows.lm_len_rep_flat, Nat.mul_comm]; exact hz), rfl, q _ I.fresh⟩
theorem ov_mul : OpV X (binaryOp .Mult) D.mul := by
  intro pins s σ H x y v u Q I rx ry h
  obtain ⟨ι, O, d, e, r, ho, hx, hy, hg, q⟩ := h
  unfold D.mul at hg
  split at hg
  · split at hg
    · rename_i hl
      cases hg
      obtain rfl := hx.int
      obtain rfl := hy.int
      exact op_mul pins s σ H _ _ v u Q I rx ry ⟨_, _, rfl, rfl, hl, q _ H (Same.refl _) (.int _)⟩
    · cases hg
  · split at hg
    · rename_i xs k hl
      cases hg
      obtain ⟨a, vs, rfl, r1, q1⟩ := hx.lst
      obtain rfl := hy.int
      cases rx
      obtain ⟨t, rfl⟩ := ry
      exact rep_rd I r1 hl.1 hl.2.1 (by rw [q1.length]; exact hl.2.2) fun p hp => q _ _ (same_new hp) (.lst upd_same (fun z => ho _ z hp) ((q1.rep k.toNat).same (same_new hp)))
    · cases hg
  · cases hg
theorem ov_fdiv : OpV X (binaryOp .FloorDiv) D.fdiv := by
  intro pins s σ H x y v u Q I rx ry h
  obtain ⟨ι, O, d, e, r, ho, hx, hy, hg, q⟩ := h
  unfold D.fdiv at hg
  split at hg
  · split at hg
    · rename_i hl
      cases hg
      obtain rfl := hx.int
      obtain rfl := hy.int
      exact op_fdiv pins s σ H _ _ v u Q I rx ry ⟨_, _, rfl, rfl, hl, q _ H (Same.refl _) (.int _)⟩
    · cases hg
  · cases hg
theorem ov_mod : OpV X (binaryOp .Mod) D.mod := by
  intro pins s σ H x y v u Q I rx ry h
  obtain ⟨ι, O, d, e, r, ho, hx, hy, hg, q⟩ := h
  unfold D.mod at hg
  split at hg
  · split at hg
    · rename_i hl
      cases hg
      obtain rfl := hx.int
      obtain rfl := hy.int
      exact op_mod pins s σ H _ _ v u Q I rx ry ⟨_, _, rfl, rfl, hl, q _ H (Same.refl _) (.int _)⟩
    · cases hg
  · cases hg
theorem ov_neg : UnV X (unaryOp .USub) D.neg := by
  intro pins s σ H x v Q I rx h
  obtain ⟨ι, O, d, r, ho, hx, hg, q⟩ := h
  unfold D.neg at hg
  split at hg
  · cases hg
    obtain rfl := hx.int
    exact un_neg pins s σ H _ v Q I rx ⟨_, rfl, q _ H (Same.refl _) (.int _)⟩
  · cases hg
theorem ov_cmpI {op : CmpOp} {p : Int → Int → Bool} (hop : OpR X (compareOp op) (rI0 fun i j => .bl (p i j))) : OpV X (compareOp op) (D.cmpI p) := by
  intro pins s σ H x y v u Q I rx ry h
  obtain ⟨ι, O, d, e, r, ho, hx, hy, hg, q⟩ := h
  unfold D.cmpI at hg
  split at hg
  · cases hg
    obtain rfl := hx.int
    obtain rfl := hy.int
    exact hop pins s σ H _ _ v u Q I rx ry ⟨_, _, rfl, rfl, q _ H (Same.refl _) (.bl _)⟩
  · cases hg
theorem ov_lt : OpV X (compareOp .Lt) (D.cmpI fun i j => decide (i < j)) := ov_cmpI op_lt
theorem ov_le : OpV X (compareOp .LtE) (D.cmpI fun i j => decide (i ≤ j)) := ov_cmpI op_le
theorem ov_gt : OpV X (compareOp .Gt) (D.cmpI fun i j => decide (j < i)) := ov_cmpI op_gt
theorem ov_ge : OpV X (compareOp .GtE) (D.cmpI fun i j => decide (j ≤ i)) := ov_cmpI op_ge
theorem ov_eq (hu : X.A.units + 64 < cLine) : OpV X (compareOp .Eq) D.eqO := by
  intro pins s σ H x y v u Q I rx ry h
  obtain ⟨ι, O, d, e, r, ho, hx, hy, hg, q⟩ := h
  unfold D.eqO at hg
  split at hg
  · rename_i hl
    cases hg
    obtain ⟨h1, h2⟩ := hx.dp (K := X.K) hl.1
    obtain ⟨h3, h4⟩ := hy.dp (K := X.K) hl.2
    refine op_eqD hu pins s σ H _ _ v u Q I rx ry ⟨_, _, h1, h3, h2, h4, ?_⟩
    rw [D.py_eq _ _ hl.1 hl.2]
    exact q _ H (Same.refl _) (.bl _)
  · cases hg
theorem ov_ne (hu : X.A.units + 64 < cLine) : OpV X (compareOp .NotEq) D.neO := by
  intro pins s σ H x y v u Q I rx ry h
  obtain ⟨ι, O, d, e, r, ho, hx, hy, hg, q⟩ := h
  unfold D.neO at hg
  split at hg
  · rename_i hl
    cases hg
    obtain ⟨h1, h2⟩ := hx.dp (K := X.K) hl.1
    obtain ⟨h3, h4⟩ := hy.dp (K := X.K) hl.2
    refine op_neD hu pins s σ H _ _ v u Q I rx ry ⟨_, _, h1, h3, h2, h4, ?_⟩
    rw [D.py_eq _ _ hl.1 hl.2]
    exact q _ H (Same.refl _) (.bl _)
  · cases hg
theorem any_pys (d : D) (hd : d.dep ≤ 64) : ∀ (ys : List D), D.deps ys ≤ 64 → ((D.pys ys).any fun z => PyData.eqv z d.py) = ys.any fun z => D.eq z d
  | [], _ => by simp [D.pys]
  | y :: ys, h => by
    simp only [D.deps] at h
    simp only [D.pys, List.any_cons]
    rw [D.py_eq y d (by omega) hd, any_pys d hd ys (by omega)]
theorem ov_in (hu : X.A.units + 65 < cLine) : OpV X (compareOp .In) D.inO := by
  intro pins s σ H x y v u Q I rx ry h
  obtain ⟨ι, O, d, e, r, ho, hx, hy, hg, q⟩ := h
  unfold D.inO at hg
  split at hg
  · rename_i hl
    obtain ⟨hl1, hl2⟩ := hl
    obtain ⟨h1, h2⟩ := hx.dp (K := X.K) hl1
    obtain ⟨h3, h4⟩ := hy.dp (K := X.K) hl2
    obtain ⟨as, r1⟩ := Dp.reads I _ x v h1 rx
    obtain ⟨bs, r2⟩ := Dp.reads I _ y u h3 ry
    have hd := D.py_dep d hl1
    cases e with
    | lst ys =>
      cases hg
      simp only [D.dep] at hl2
      simp only [D.py] at r2 h4
      refine SeqAt.in_list_reads r2 r1 (SeqAt.canLay_of_shaped h4) (SeqAt.canLay_of_shaped h2) (by have := Nat.min_le_right (PyData.depthAll (D.pys ys)) d.py.depth; omega) ⟨.bl _, H, I, rfl, ?_⟩
      rw [any_pys d hl1 ys (by omega)]
      exact q _ H (Same.refl _) (.bl _)
    | tup ys =>
      cases hg
      simp only [D.dep] at hl2
      simp only [D.py] at r2 h4
      refine SeqAt.in_tuple_reads r2 r1 (SeqAt.canLay_of_shaped h4) (SeqAt.canLay_of_shaped h2) (by have := Nat.min_le_right (PyData.depthAll (D.pys ys)) d.py.depth; omega) ⟨.bl _, H, I, rfl, ?_⟩
      rw [any_pys d hl1 ys (by omega)]
      exact q _ H (Same.refl _) (.bl _)
    | _ => cases hg
  · cases hg
theorem ov_nin (hu : X.A.units + 65 < cLine) : OpV X (compareOp .NotIn) D.ninO := by
  intro pins s σ H x y v u Q I rx ry h
  obtain ⟨ι, O, d, e, r, ho, hx, hy, hg, q⟩ := h
  unfold D.ninO at hg
  split at hg
  · rename_i hl
    obtain ⟨hl1, hl2⟩ := hl
    obtain ⟨h1, h2⟩ := hx.dp (K := X.K) hl1
    obtain ⟨h3, h4⟩ := hy.dp (K := X.K) hl2
    obtain ⟨as, r1⟩ := Dp.reads I _ x v h1 rx
    obtain ⟨bs, r2⟩ := Dp.reads I _ y u h3 ry
    have hd := D.py_dep d hl1
    cases e with
    | lst ys =>
      cases hg
      simp only [D.dep] at hl2
      simp only [D.py] at r2 h4
      refine SeqAt.notIn_list_reads r2 r1 (SeqAt.canLay_of_shaped h4) (SeqAt.canLay_of_shaped h2) (by have := Nat.min_le_right (PyData.depthAll (D.pys ys)) d.py.depth; omega) ⟨.bl _, H, I, rfl, ?_⟩
      rw [any_pys d hl1 ys (by omega)]
      exact q _ H (Same.refl _) (.bl _)
    | tup ys =>
      cases hg
      simp only [D.dep] at hl2
      simp only [D.py] at r2 h4
      refine SeqAt.notIn_tuple_reads r2 r1 (SeqAt.canLay_of_shaped h4) (SeqAt.canLay_of_shaped h2) (by have := Nat.min_le_right (PyData.depthAll (D.pys ys)) d.py.depth; omega) ⟨.bl _, H, I, rfl, ?_⟩
      rw [any_pys d hl1 ys (by omega)]
      exact q _ H (Same.refl _) (.bl _)
    | _ => cases hg
  · cases hg
end
end Kb
namespace Kb
open PySem L2

/-! ### items -/
theorem atI_some {α : Type} {xs : List α} {i : Int} {d : α} (h : atI xs i = some d) : ∃ j, ixN xs.length i = some j ∧ xs[j]? = some d := by
  unfold atI at h
  cases e : ixN xs.length i with
  | none => rw [e] at h; cases h
  | some j => rw [e] at h; exact ⟨j, rfl, h⟩
theorem DRs.atI {ι : List Addr} {O : Addr → Prop} {H : Hp} {vs : List V} {ds : List D} {i : Int} {d : D} (q : DRs ι O H vs ds) (h : L2.atI ds i = some d) : ∃ v, L2.atI vs i = some v ∧ DR ι O H v d := by
  obtain ⟨j, h1, h2⟩ := atI_some h
  obtain ⟨v, h3, h4⟩ := q.get h2
  refine ⟨v, ?_, h4⟩
  unfold L2.atI
  rw [q.length, h1]
  exact h3
section
variable {X : Cx}
theorem iv_at : IxR X (rV2 D.at_) := by
  intro value slice pins s σ H x y v u Q I rx ry h hs
  obtain ⟨ι, O, d, e, r, ho, hx, hy, hg, q⟩ := h
  unfold D.at_ at hg
  split at hg
  · obtain ⟨a, vs, rfl, r1, q1⟩ := hx.lst
    obtain rfl := hy.int
    obtain ⟨w, h3, h4⟩ := q1.atI hg
    exact ix_list value slice pins s σ H _ _ v u Q I rx ry ⟨a, vs, _, w, rfl, rfl, .inl r1, h3, q _ H (Same.refl _) h4⟩ hs
  · obtain ⟨a, vs, rfl, r1, q1⟩ := hx.tup
    obtain rfl := hy.int
    obtain ⟨w, h3, h4⟩ := q1.atI hg
    exact ix_tup value slice pins s σ H _ _ v u Q I rx ry ⟨a, vs, _, w, rfl, rfl, .inl (.inl r1), h3, q _ H (Same.refl _) h4⟩ hs
  · cases hg
end
/-! ### slices -/
def cutD {α : Type} (xs : List α) (lo hi : Option Int) : List α := (xs.drop (HT.sIx xs.length 0 lo)).take (HT.sIx xs.length xs.length hi - HT.sIx xs.length 0 lo)
def D.cut : D → Option Int → Option Int → Option D
  | .lst xs, lo, hi => some (.lst (cutD xs lo hi))
  | .tup xs, lo, hi => some (.tup (cutD xs lo hi))
  | _, _, _ => none
theorem DRs.cut {ι : List Addr} {O : Addr → Prop} {H : Hp} {vs : List V} {ds : List D} (q : DRs ι O H vs ds) (lo hi : Option Int) : DRs ι O H (cutV vs lo hi) (cutD ds lo hi) := by
  unfold cutV cutD
  rw [q.length]
  exact (q.drop _).take _
def rSlD (g : D → Option Int → Option Int → Option D) : V → Option Int → Option Int → Hp → VK → Prop := fun x lo hi H Q => ∃ ι O d r, (∀ a, O a → H a ≠ none) ∧ VW ι O H x d ∧ g d lo hi = some r ∧ ∀ v H', Same H H' → DR ι O H' v r → Q v H'
theorem cutD_whole {α : Type} (xs : List α) (lo hi : Option Int) (h : HT.sIx xs.length 0 lo = 0 ∧ HT.sIx xs.length xs.length hi = xs.length) : cutD xs lo hi = xs := by
  unfold cutD
  rw [h.1, h.2, Nat.sub_zero, List.drop_zero, List.take_length]
theorem sv_cut {X : Cx} : SlR X (rSlD D.cut) := by
  intro pins s σ H x v vl vu lo hi sl Q I rx hs pl pu h
  obtain ⟨ι, O, d, r, ho, hx, hg, q⟩ := h
  unfold D.cut at hg
  split at hg
  · cases hg
    obtain ⟨a, vs, rfl, r1, q1⟩ := hx.lst
    exact sl_list pins s σ H _ v vl vu _ _ sl Q I rx hs pl pu ⟨a, vs, rfl, .inl r1, fun p hp => q _ _ (same_new hp) (.lst upd_same (fun z => ho _ z hp) ((q1.cut _ _).same (same_new hp)))⟩
  · cases hg
    obtain ⟨a, vs, rfl, r1, q1⟩ := hx.tup
    refine sl_tupA pins s σ H _ v vl vu _ _ sl Q I rx hs pl pu ⟨a, vs, rfl, .inl (.inl r1), fun hw => ?_, fun _ p hp => q _ _ (same_new hp) (.tup upd_same ((q1.cut _ _).same (same_new hp)))⟩
    rw [q1.length] at hw
    rw [cutD_whole _ _ _ hw] at q
    exact q _ H (Same.refl _) (.tup r1 q1)
  · cases hg
abbrev OM := En → List Cell → Option (Res (Option Int))
def mNoPart : OM := fun _ h => ret none h
def D.toInt : D → Option Int
  | .int i => some i
  | _ => none
def mPart (a : EM) : OM := fun ρ h => bd (a ρ h) fun x h1 => bd (lift ((x.see h1).toInt) h1) fun i h2 => ret (some i) h2
def mCut (a : EM) (lo hi : OM) : EM := fun ρ h => bd (a ρ h) fun x h1 => bd (lo ρ h1) fun l h2 => bd (hi ρ h2) fun u h3 => bd (lift (D.cut (x.see h3) l u) h3) fun d h4 => ret (.val d) h4
def TOv (xa : Nat → Addr) (W : WX) (m : OM) : TO := fun σ H Q => ∃ Oo ι ow ρ h, FR Oo ι ow σ H ρ h ∧ Post xa W Oo ι ow σ H (fun b _ _ H' => Q b H') (m ρ h)
theorem _root_.L2.PO.imp {X : Cx} {e : Option Expr} {t t' : TO} (p : PO X e t) (h : ∀ σ H Q, t' σ H Q → t σ H Q) : PO X e t' := ⟨fun pins s σ H Q I q => p.run pins s σ H Q I (h σ H Q q)⟩
section
variable {X : Cx} {xa : Nat → Addr} {W : WX} {a b c : Expr} {ma mb mc : EM} {pos p2 : Pos}
theorem pd_noPart : PO X none (TOv xa W mNoPart) := po_none.imp fun σ H Q ⟨Oo, ι, ow, ρ, hh, f, p⟩ => p H ι (Step.refl _ _) f.cells
theorem pd_part (ha : PE X a (TEv xa W ma)) : PO X (some a) (TOv xa W (mPart ma)) := by
  refine (po_some ha).imp fun σ H Q ⟨Oo, ι, ow, ρ, hh, f, p⟩ => ?_
  refine ⟨Oo, ι, ow, ρ, hh, f, (Post.bd p).imp fun r h1 H1 ι1 s1 c1 p1 v rv => ?_⟩
  obtain ⟨i, e, q⟩ := Post.lift c1 (Post.bd p1)
  have w := rv.vs c1
  unfold D.toInt at e
  split at e
  · rename_i i' hi
    cases e
    rw [hi] at w
    obtain rfl := w.int
    exact ⟨_, rfl, q H1 (Same.refl _) H1 ι1 (Step.refl _ _) c1⟩
  · cases e
theorem pd_cut {lo hi : Option Expr} {ml mh : OM} (ha : PE X a (TEv xa W ma)) (hl : PO X lo (TOv xa W ml)) (hh : PO X hi (TOv xa W mh)) : PE X (.Subscript a (.Slice lo hi none p2) pos) (TEv xa W (mCut ma ml mh)) := by
  refine (pe_slice sv_cut ha hl hh).imp fun σ H Q ⟨Oo, ι, ow, ρ, hh, f, p⟩ => ?_
  refine ⟨Oo, ι, ow, ρ, hh, f, (Post.bd p).imp fun r h1 H1 ι1 s1 c1 p1 v rv => ?_⟩
  refine ⟨Oo, ι1, ow, ρ, h1, f.step s1 c1, (Post.bd p1).imp fun l h2 H2 ι2 s2 c2 p2 => ?_⟩
  refine ⟨Oo, ι2, ow, ρ, h2, (f.step s1 c1).step s2 c2, (Post.bd p2).imp fun u h3 H3 ι3 s3 c3 p3 => ?_⟩
  obtain ⟨d, e, q⟩ := Post.lift c3 (Post.bd p3)
  have f3 := ((f.step s1 c1).step s2 c2).step s3 c3
  exact ⟨ι3, Of Oo ι3 ow, _, d, f3.trkO, (rv.step (s2.trans s3)).vs c3, e, fun v' H' sm dr => q H' sm H' ι3 (Step.refl _ _) (c3.same sm) v' dr⟩
theorem pd_ix (ha : PE X a (TEv xa W ma)) (hb : PE X b (TEv xa W mb)) (hs : PlainIx b) : PE X (.Subscript a b pos) (TEv xa W (mBin D.at_ ma mb)) :=
  (pe_ix iv_at ha hb hs).imp tOp_of
end

/-! ### truth, tests -/
def D.truth : D → Option Bool
  | .non => some false
  | .bl b => some b
  | .int i => some (i != 0)
  | .str x => some ((x.length : Int) != 0)
  | .tup xs => some (!xs.isEmpty)
  | .lst xs => some (!xs.isEmpty)
  | .ref _ => none
theorem DRs.emp {ι : List Addr} {O : Addr → Prop} {H : Hp} {vs : List V} {ds : List D} (q : DRs ι O H vs ds) : (!ds.isEmpty) = !vs.isEmpty := by cases q <;> rfl
theorem VW.tru {ι : List Addr} {O : Addr → Prop} {H : Hp} {K : PySem.W.Frag} {v : V} {d : D} {k : Bool} (q : VW ι O H v d) (h : d.truth = some k) : TruV K v H k := by
  cases d with
  | non => obtain rfl := q.non; cases h; rfl
  | bl b => obtain rfl := q.bl; cases h; rfl
  | int i => obtain rfl := q.int; cases h; rfl
  | str x => obtain ⟨rfl, _, h3⟩ := q.str; cases h; exact ⟨h3, rfl⟩
  | tup xs =>
    obtain ⟨a, vs, rfl, r1, q1⟩ := q.tup
    cases h
    exact .inr (.inl ⟨vs, .inl (.inl r1), q1.emp⟩)
  | lst xs =>
    obtain ⟨a, vs, rfl, r1, q1⟩ := q.lst
    cases h
    exact .inl ⟨vs, .inl r1, q1.emp⟩
  | ref _ => cases h
def mTru (a : EM) : TM := fun ρ h => bd (a ρ h) fun x h1 => lift (x.see h1).truth h1
def mIsB (a : EM) : TM := fun ρ h => bd (a ρ h) fun x h1 => match x with
  | .val (.bl b) => ret b h1
  | _ => none
def mTAnd (a b : TM) : TM := fun ρ h => bd (a ρ h) fun c h1 => if c = true then b ρ h1 else ret false h1
def mTOr (a b : TM) : TM := fun ρ h => bd (a ρ h) fun c h1 => if c = true then ret true h1 else b ρ h1
def mTNot (a : TM) : TM := fun ρ h => bd (a ρ h) fun c h1 => ret (!c) h1
def mAnd (a b : EM) : EM := fun ρ h => bd (a ρ h) fun x h1 => match x with
  | .val (.bl c) => if c = true then b ρ h1 else ret (.val (.bl false)) h1
  | _ => none
def mOr (a b : EM) : EM := fun ρ h => bd (a ρ h) fun x h1 => match x with
  | .val (.bl c) => if c = true then ret (.val (.bl true)) h1 else b ρ h1
  | _ => none
def mNot (a : EM) : EM := fun ρ h => bd (a ρ h) fun x h1 => match x with
  | .val (.bl c) => ret (.val (.bl (!c))) h1
  | _ => none
def mIf (c : TM) (a b : EM) : EM := fun ρ h => bd (c ρ h) fun k h1 => if k = true then a ρ h1 else b ρ h1
def mChain (g g' : D → D → Option D) (a b c : EM) : EM := fun ρ h => bd (a ρ h) fun x h1 => bd (b ρ h1) fun y h2 => bd (lift (g (x.see h2) (y.see h2)) h2) fun z h3 => match z with
  | .bl k => if k = true then bd (c ρ h3) fun w h4 => bd (lift (g' (y.see h4) (w.see h4)) h4) fun d h5 => ret (.val d) h5 else ret (.val (.bl false)) h3
  | _ => none
section
variable {X : Cx} {xa : Nat → Addr} {W : WX} {a b c : Expr} {ma mb mc : EM} {ta tb tc : TM} {pos : Pos} {rest : List Expr}
theorem pt_tru (ha : PE X a (TEv xa W ma)) (he : ∀ whole, isTrue a X.env whole = (do let v ← whole; standAt a.pos; holding [v] (truthy v))) : PT X a (TTv xa W (mTru ma)) := by
  refine (pt_truth ha he).imp fun σ H Q ⟨Oo, ι, ow, ρ, hh, f, p⟩ => ?_
  refine ⟨Oo, ι, ow, ρ, hh, f, (Post.bd p).imp fun r h1 H1 ι1 s1 c1 p1 v rv => ?_⟩
  obtain ⟨k, e, q⟩ := Post.lift c1 p1
  exact ⟨k, (rv.vs c1).tru e, q H1 (Same.refl _)⟩
theorem tTest_of {m : EM} : ∀ σ H Q, TTv xa W (mIsB m) σ H Q → tTest (TEv xa W m) σ H Q := by
  intro σ H Q ⟨Oo, ι, ow, ρ, hh, f, p⟩
  refine ⟨Oo, ι, ow, ρ, hh, f, (Post.bd p).imp fun r h1 H1 ι1 s1 c1 p1 v rv => ?_⟩
  split at p1
  · rename_i k
    have rv' : DR ι1 (Of Oo ι1 ow) H1 v (.bl k) := rv
    cases rv'
    exact ⟨_, rfl, p1 H1 ι1 (Step.refl _ _) c1⟩
  · exact p1.elim
theorem tTest_op {g : D → D → Option D} {σ : St} {H : Hp} {Q : Bool → Hp → Prop} (h : TTv xa W (mIsB (mBin g ma mb)) σ H Q) : tTest (tOp (rV2 g) (TEv xa W ma) (TEv xa W mb)) σ H Q := by
  have z := tTest_of σ H Q h
  exact tOp_of σ H _ z
theorem pt_cmpD {op : CmpOp} {g : D → D → Option D} (ho : OpV X (compareOp op) g) (ha : PE X a (TEv xa W ma)) (hb : PE X b (TEv xa W mb)) (hm : behindInMarks op b = false) : PT X (.Compare a [op] [b] pos) (TTv xa W (mIsB (mBin g ma mb))) :=
  (pt_cmpR ho ha hb hm).imp fun σ H Q h => tTest_op h
theorem tChain_of {g g' : D → D → Option D} : ∀ σ H Q, TEv xa W (mChain g g' ma mb mc) σ H Q → tChain (rV2 g) (rV2 g') (TEv xa W ma) (TEv xa W mb) (TEv xa W mc) σ H Q := by
  intro σ H Q ⟨Oo, ι, ow, ρ, hh, f, p⟩
  refine ⟨Oo, ι, ow, ρ, hh, f, (Post.bd p).imp fun r h1 H1 ι1 s1 c1 p1 v rv => ?_⟩
  refine ⟨Oo, ι1, ow, ρ, h1, f.step s1 c1, (Post.bd p1).imp fun r2 h2 H2 ι2 s2 c2 p2 v2 rv2 => ?_⟩
  obtain ⟨d, e, q⟩ := Post.lift c2 (Post.bd p2)
  have f2 := (f.step s1 c1).step s2 c2
  refine ⟨ι2, Of Oo ι2 ow, _, _, d, f2.trkO, (rv.step s2).vs c2, rv2.vs c2, e, fun v' H' sm dr => ?_⟩
  have q1 := q H' sm
  cases d with
  | bl k =>
    cases dr
    refine ⟨k, rfl, ?_⟩
    have c3 := c2.same sm
    have f3 := f2.same sm
    cases k with
    | true =>
      dsimp only at q1
      rw [if_pos rfl] at q1 ⊢
      refine ⟨Oo, ι2, ow, ρ, h2, f3, (Post.bd q1).imp fun r4 h4 H4 ι4 s4 c4 p4 w rw4 => ?_⟩
      obtain ⟨d4, e4, q4⟩ := Post.lift c4 (Post.bd p4)
      have f4 := f3.step s4 c4
      exact ⟨ι4, Of Oo ι4 ow, _, _, d4, f4.trkO, ((rv2.step (Step.same sm)).step s4).vs c4, rw4.vs c4, e4, fun v5 H5 sm5 dr5 => q4 H5 sm5 H5 ι4 (Step.refl _ _) (c4.same sm5) v5 dr5⟩
    | false =>
      dsimp only at q1
      rw [if_neg Bool.false_ne_true] at q1 ⊢
      exact q1 H' ι2 (Step.refl _ _) c3 _ (.bl false)
  | _ => exact q1.elim
theorem pd_chain {op op' : CmpOp} {g g' : D → D → Option D} (ho : OpV X (compareOp op) g) (ho' : OpV X (compareOp op') g') (ha : PE X a (TEv xa W ma)) (hb : PE X b (TEv xa W mb)) (hc : PE X c (TEv xa W mc))
    (hm : lastMarks [op, op'] [b, c] = false) : PE X (.Compare a [op, op'] [b, c] pos) (TEv xa W (mChain g g' ma mb mc)) := (pe_chain ho ho' ha hb hc hm).imp tChain_of
theorem pt_chainD {op op' : CmpOp} {g g' : D → D → Option D} (ho : OpV X (compareOp op) g) (ho' : OpV X (compareOp op') g') (ha : PE X a (TEv xa W ma)) (hb : PE X b (TEv xa W mb)) (hc : PE X c (TEv xa W mc))
    (hm : lastMarks [op, op'] [b, c] = false) : PT X (.Compare a [op, op'] [b, c] pos) (TTv xa W (mIsB (mChain g g' ma mb mc))) :=
  (pt_chain ho ho' ha hb hc hm).imp fun σ H Q h => tChain_of σ H _ (tTest_of σ H Q h)
theorem tAnd_of : ∀ σ H Q, TTv xa W (mTAnd ta tb) σ H Q → tAnd (TTv xa W ta) (TTv xa W tb) σ H Q := by
  intro σ H Q ⟨Oo, ι, ow, ρ, hh, f, p⟩
  refine ⟨Oo, ι, ow, ρ, hh, f, (Post.bd p).imp fun k h1 H1 ι1 s1 c1 p1 => ?_⟩
  cases k with
  | true => rw [if_pos rfl] at p1 ⊢; exact ⟨Oo, ι1, ow, ρ, h1, f.step s1 c1, p1⟩
  | false => rw [if_neg Bool.false_ne_true] at p1 ⊢; exact p1 H1 ι1 (Step.refl _ _) c1
theorem tOr_of : ∀ σ H Q, TTv xa W (mTOr ta tb) σ H Q → tOr (TTv xa W ta) (TTv xa W tb) σ H Q := by
  intro σ H Q ⟨Oo, ι, ow, ρ, hh, f, p⟩
  refine ⟨Oo, ι, ow, ρ, hh, f, (Post.bd p).imp fun k h1 H1 ι1 s1 c1 p1 => ?_⟩
  cases k with
  | false => rw [if_neg Bool.false_ne_true] at p1 ⊢; exact ⟨Oo, ι1, ow, ρ, h1, f.step s1 c1, p1⟩
  | true => rw [if_pos rfl] at p1 ⊢; exact p1 H1 ι1 (Step.refl _ _) c1
theorem _root_.L2.PW.imp {X : Cx} {e : Expr} {t t' : TT} (p : PW X e t) (h : ∀ σ H Q, t' σ H Q → t σ H Q) : PW X e t' := ⟨fun wh pins s σ H Q I q => p.run wh pins s σ H Q I (h σ H Q q)⟩
theorem pw_andD (ha : PT X a (TTv xa W ta)) (hb : PW X (.BoolOp .And (b :: rest) pos) (TTv xa W tb)) : PW X (.BoolOp .And (a :: b :: rest) pos) (TTv xa W (mTAnd ta tb)) := (pw_and ha hb).imp tAnd_of
theorem pw_orD (ha : PT X a (TTv xa W ta)) (hb : PW X (.BoolOp .Or (b :: rest) pos) (TTv xa W tb)) : PW X (.BoolOp .Or (a :: b :: rest) pos) (TTv xa W (mTOr ta tb)) := (pw_or ha hb).imp tOr_of
theorem pt_notD (ha : PT X a (TTv xa W ta)) : PT X (.UnaryOp .Not a pos) (TTv xa W (mTNot ta)) := by
  refine (pt_not ha).imp fun σ H Q ⟨Oo, ι, ow, ρ, hh, f, p⟩ => ?_
  exact ⟨Oo, ι, ow, ρ, hh, f, (Post.bd p).imp fun k h1 H1 ι1 s1 c1 p1 => p1 H1 ι1 (Step.refl _ _) c1⟩
theorem pd_and (ha : PE X a (TEv xa W ma)) (hb : PE X (.BoolOp .And (b :: rest) pos) (TEv xa W mb)) : PE X (.BoolOp .And (a :: b :: rest) pos) (TEv xa W (mAnd ma mb)) := by
  refine (pe_and ha hb).imp fun σ H Q ⟨Oo, ι, ow, ρ, hh, f, p⟩ => ?_
  refine ⟨Oo, ι, ow, ρ, hh, f, (Post.bd p).imp fun r h1 H1 ι1 s1 c1 p1 v rv => ?_⟩
  split at p1
  · rename_i k
    have rv' : DR ι1 (Of Oo ι1 ow) H1 v (.bl k) := rv
    cases rv'
    refine ⟨k, rfl, ?_⟩
    cases k with
    | true => rw [if_pos rfl] at p1 ⊢; exact ⟨Oo, ι1, ow, ρ, h1, f.step s1 c1, p1⟩
    | false => rw [if_neg Bool.false_ne_true] at p1 ⊢; exact p1 H1 ι1 (Step.refl _ _) c1 _ (.bl false)
  · exact p1.elim
theorem pd_or (ha : PE X a (TEv xa W ma)) (hb : PE X (.BoolOp .Or (b :: rest) pos) (TEv xa W mb)) : PE X (.BoolOp .Or (a :: b :: rest) pos) (TEv xa W (mOr ma mb)) := by
  refine (pe_or ha hb).imp fun σ H Q ⟨Oo, ι, ow, ρ, hh, f, p⟩ => ?_
  refine ⟨Oo, ι, ow, ρ, hh, f, (Post.bd p).imp fun r h1 H1 ι1 s1 c1 p1 v rv => ?_⟩
  split at p1
  · rename_i k
    have rv' : DR ι1 (Of Oo ι1 ow) H1 v (.bl k) := rv
    cases rv'
    refine ⟨k, rfl, ?_⟩
    cases k with
    | false => rw [if_neg Bool.false_ne_true] at p1 ⊢; exact ⟨Oo, ι1, ow, ρ, h1, f.step s1 c1, p1⟩
    | true => rw [if_pos rfl] at p1 ⊢; exact p1 H1 ι1 (Step.refl _ _) c1 _ (.bl true)
  · exact p1.elim
theorem pd_not (ha : PE X a (TEv xa W ma)) : PE X (.UnaryOp .Not a pos) (TEv xa W (mNot ma)) := by
  refine (pe_not ha).imp fun σ H Q ⟨Oo, ι, ow, ρ, hh, f, p⟩ => ?_
  refine ⟨Oo, ι, ow, ρ, hh, f, (Post.bd p).imp fun r h1 H1 ι1 s1 c1 p1 v rv => ?_⟩
  split at p1
  · rename_i k
    have rv' : DR ι1 (Of Oo ι1 ow) H1 v (.bl k) := rv
    cases rv'
    exact ⟨k, rfl, p1 H1 ι1 (Step.refl _ _) c1 _ (.bl _)⟩
  · exact p1.elim
theorem pd_if (hc : PT X c (TTv xa W tc)) (ha : PE X a (TEv xa W ma)) (hb : PE X b (TEv xa W mb)) : PE X (.IfExp c a b pos) (TEv xa W (mIf tc ma mb)) := by
  refine (pe_ifExp hc ha hb).imp fun σ H Q ⟨Oo, ι, ow, ρ, hh, f, p⟩ => ?_
  refine ⟨Oo, ι, ow, ρ, hh, f, (Post.bd p).imp fun k h1 H1 ι1 s1 c1 p1 => ?_⟩
  cases k with
  | true => rw [if_pos rfl] at p1 ⊢; exact ⟨Oo, ι1, ow, ρ, h1, f.step s1 c1, p1⟩
  | false => rw [if_neg Bool.false_ne_true] at p1 ⊢; exact ⟨Oo, ι1, ow, ρ, h1, f.step s1 c1, p1⟩
/-- is None, is not None -/
def D.nonB : D → Bool
  | .non => true
  | _ => false
def D.isNo (d : D) : Option D := some (.bl d.nonB)
def D.notNo (d : D) : Option D := some (.bl (!d.nonB))
theorem VW.isN {ι : List Addr} {O : Addr → Prop} {H : Hp} {v : V} {d : D} (q : VW ι O H v d) : decide (v = .non) = d.nonB := by
  rcases q with q | ⟨a, vs, xs, rfl, rfl, _, _⟩
  · cases q <;> simp [D.nonB]
  · simp [D.nonB]
theorem tIsN_of : ∀ σ H Q, TEv xa W (mUn D.isNo ma) σ H Q → tIsN (TEv xa W ma) σ H Q := by
  intro σ H Q ⟨Oo, ι, ow, ρ, hh, f, p⟩
  refine ⟨Oo, ι, ow, ρ, hh, f, (Post.bd p).imp fun r h1 H1 ι1 s1 c1 p1 v rv => ?_⟩
  dsimp only
  rw [(rv.vs c1).isN]
  exact (Post.bd p1) H1 ι1 (Step.refl _ _) c1 H1 ι1 (Step.refl _ _) c1 _ (.bl _)
theorem tNotN_of : ∀ σ H Q, TEv xa W (mUn D.notNo ma) σ H Q → tNotN (TEv xa W ma) σ H Q := by
  intro σ H Q ⟨Oo, ι, ow, ρ, hh, f, p⟩
  refine ⟨Oo, ι, ow, ρ, hh, f, (Post.bd p).imp fun r h1 H1 ι1 s1 c1 p1 v rv => ?_⟩
  dsimp only
  rw [(rv.vs c1).isN]
  exact (Post.bd p1) H1 ι1 (Step.refl _ _) c1 H1 ι1 (Step.refl _ _) c1 _ (.bl _)
theorem pd_isN {j p'} (ha : PE X a (TEv xa W ma)) : PE X (.Compare a [.Is] [.Constant .none j p'] pos) (TEv xa W (mUn D.isNo ma)) := (pe_cmp (pc_isN ha)).imp tIsN_of
theorem pd_notN {j p'} (ha : PE X a (TEv xa W ma)) : PE X (.Compare a [.IsNot] [.Constant .none j p'] pos) (TEv xa W (mUn D.notNo ma)) := (pe_cmp (pc_notN ha)).imp tNotN_of
theorem pt_isND {j p'} (ha : PE X a (TEv xa W ma)) : PT X (.Compare a [.Is] [.Constant .none j p'] pos) (TTv xa W (mIsB (mUn D.isNo ma))) := (pt_cmp (pc_isN ha)).imp fun σ H Q h => tIsN_of σ H _ (tTest_of σ H Q h)
theorem pt_notND {j p'} (ha : PE X a (TEv xa W ma)) : PT X (.Compare a [.IsNot] [.Constant .none j p'] pos) (TTv xa W (mIsB (mUn D.notNo ma))) := (pt_cmp (pc_notN ha)).imp fun σ H Q h => tNotN_of σ H _ (tTest_of σ H Q h)
end
end Kb
namespace Kb
open PySem L2

def D.ints : List D → Option (List Int)
  | [] => some []
  | .int i :: r => (D.ints r).map (i :: ·)
  | _ :: _ => none
def D.bls : List D → Option (List Bool)
  | [] => some []
  | .bl i :: r => (D.bls r).map (i :: ·)
  | _ :: _ => none
theorem DRs.ints {ι : List Addr} {O : Addr → Prop} {H : Hp} : ∀ {vs : List V} {ds : List D} {ns : List Int}, DRs ι O H vs ds → D.ints ds = some ns → vs = ns.map V.int
  | _, _, _, .nil, e => by cases e; rfl
  | _, .int i :: r, ns, .cons a b, e => by
    simp only [D.ints, Option.map_eq_some_iff] at e
    obtain ⟨ns', e1, rfl⟩ := e
    cases a
    rw [DRs.ints b e1]
    rfl
  | _, .non :: _, _, _, e => by cases e
  | _, .bl _ :: _, _, _, e => by cases e
  | _, .str _ :: _, _, _, e => by cases e
  | _, .tup _ :: _, _, _, e => by cases e
  | _, .lst _ :: _, _, _, e => by cases e
  | _, .ref _ :: _, _, _, e => by cases e
theorem DRs.bls {ι : List Addr} {O : Addr → Prop} {H : Hp} : ∀ {vs : List V} {ds : List D} {ns : List Bool}, DRs ι O H vs ds → D.bls ds = some ns → vs = ns.map V.bl
  | _, _, _, .nil, e => by cases e; rfl
  | _, .bl i :: r, ns, .cons a b, e => by
    simp only [D.bls, Option.map_eq_some_iff] at e
    obtain ⟨ns', e1, rfl⟩ := e
    cases a
    rw [DRs.bls b e1]
    rfl
  | _, .non :: _, _, _, e => by cases e
  | _, .int _ :: _, _, _, e => by cases e
  | _, .str _ :: _, _, _, e => by cases e
  | _, .tup _ :: _, _, _, e => by cases e
  | _, .lst _ :: _, _, _, e => by cases e
  | _, .ref _ :: _, _, _, e => by cases e
theorem ints_map : ∀ ns : List Int, D.ints (ns.map D.int) = some ns
  | [] => rfl
  | n :: r => by simp only [List.map_cons, D.ints, ints_map r, Option.map_some]
theorem bls_map : ∀ ns : List Bool, D.bls (ns.map D.bl) = some ns
  | [] => rfl
  | n :: r => by simp only [List.map_cons, D.bls, bls_map r, Option.map_some]
theorem DRs.ofInts {ι : List Addr} {O : Addr → Prop} {H : Hp} : ∀ ns : List Int, DRs ι O H (ns.map V.int) (ns.map D.int)
  | [] => .nil
  | n :: r => .cons (.int n) (DRs.ofInts r)

/-! ### sorting ints -/
def insI (x : Int) : List Int → List Int
  | [] => [x]
  | y :: r => if x ≤ y then x :: y :: r else y :: insI x r
def srtI : List Int → List Int
  | [] => []
  | x :: r => insI x (srtI r)
theorem insI_perm (x : Int) : ∀ l : List Int, (insI x l).Perm (x :: l)
  | [] => .refl _
  | y :: r => by
    unfold insI
    split
    · exact .refl _
    · exact ((insI_perm x r).cons y).trans (.swap x y r)
theorem srtI_perm : ∀ l : List Int, (srtI l).Perm l
  | [] => .refl _
  | x :: r => (insI_perm x (srtI r)).trans ((srtI_perm r).cons x)
theorem insI_srt (x : Int) : ∀ l : List Int, l.Pairwise (· ≤ ·) → (insI x l).Pairwise (· ≤ ·)
  | [], _ => by simp [insI]
  | y :: r, h => by
    unfold insI
    rw [List.pairwise_cons] at h
    split
    · rename_i hx
      refine List.pairwise_cons.mpr ⟨fun z hz => ?_, List.pairwise_cons.mpr h⟩
      rcases List.mem_cons.mp hz with rfl | hz
      · exact hx
      · have := h.1 z hz; omega
    · refine List.pairwise_cons.mpr ⟨fun z hz => ?_, insI_srt x r h.2⟩
      rcases List.mem_cons.mp ((insI_perm x r).mem_iff.mp hz) with rfl | hz
      · omega
      · exact h.1 z hz
theorem srtI_srt : ∀ l : List Int, (srtI l).Pairwise (· ≤ ·)
  | [] => .nil
  | x :: r => insI_srt x _ (srtI_srt r)
theorem srt_one {a b : List Int} (p : a.Perm b) (h1 : a.Pairwise (· ≤ ·)) (h2 : b.Pairwise (· ≤ ·)) : a = b :=
  p.eq_of_pairwise (fun x y _ _ h h' => by omega) h1 h2

/-! ### the built-ins -/
def D.bLen : List D → Option D
  | [.str x] => some (.int x.length)
  | [.lst xs] => some (.int xs.length)
  | [.tup xs] => some (.int xs.length)
  | _ => none
def D.bAbs : List D → Option D
  | [.int i] => some (.int (if i < 0 then -i else i))
  | _ => none
def D.bMax : List D → Option D
  | [.int i, .int j] => some (.int (if j > i then j else i))
  | [.lst xs] => (D.ints xs).bind fun ns => ns.max?.map D.int
  | _ => none
def D.bMin : List D → Option D
  | [.int i, .int j] => some (.int (if j < i then j else i))
  | [.lst xs] => (D.ints xs).bind fun ns => ns.min?.map D.int
  | _ => none
def D.bAll : List D → Option D
  | [.lst xs] => (D.bls xs).map fun bs => .bl (bs.all id)
  | _ => none
def D.bAny : List D → Option D
  | [.lst xs] => (D.bls xs).map fun bs => .bl (bs.any id)
  | _ => none
def D.bSorted : List D → Option D
  | [.lst xs] => (D.ints xs).map fun ns => .lst ((srtI ns).map D.int)
  | _ => none
def D.bTuple : List D → Option D
  | [.lst xs] => some (.tup xs)
  | [.tup xs] => some (.tup xs)
  | _ => none
def D.bList : List D → Option D
  | [.lst xs] => some (.lst xs)
  | [.tup xs] => some (.lst xs)
  | _ => none
def D.bInt : List D → Option D
  | [.int i] => some (.int i)
  | [.bl b] => some (.int (if b then 1 else 0))
  | _ => none
theorem vws1 {ι : List Addr} {O : Addr → Prop} {H : Hp} {vs : List V} {d : D} (q : VWs ι O H vs [d]) : ∃ v, vs = [v] ∧ VW ι O H v d := by
  cases q with
  | cons a b => cases b; exact ⟨_, rfl, a⟩
theorem vws2 {ι : List Addr} {O : Addr → Prop} {H : Hp} {vs : List V} {d e : D} (q : VWs ι O H vs [d, e]) : ∃ v w, vs = [v, w] ∧ VW ι O H v d ∧ VW ι O H w e := by
  cases q with
  | cons a b =>
    obtain ⟨w, rfl, h⟩ := vws1 b
    exact ⟨_, w, rfl, a, h⟩
section
variable {X : Cx}
theorem cv_len : CallV X (.builtin "len") D.bLen := by
  intro pins s σ H vs us Q I rs h
  obtain ⟨ι, O, ds, r, ho, hv, hg, q⟩ := h
  unfold D.bLen at hg
  split at hg
  · cases hg
    obtain ⟨v, rfl, w⟩ := vws1 hv
    obtain ⟨rfl, _, hl⟩ := w.str
    exact call_len pins s σ H _ us Q I rs ⟨_, _, rfl, ⟨hl, rfl⟩, q _ H (Same.refl _) (.int _)⟩
  · cases hg
    obtain ⟨v, rfl, w⟩ := vws1 hv
    obtain ⟨a, ws, rfl, r1, q1⟩ := w.lst
    exact call_len pins s σ H _ us Q I rs ⟨_, _, rfl, .inl ⟨ws, .inl r1, q1.length.symm⟩, q _ H (Same.refl _) (.int _)⟩
  · cases hg
    obtain ⟨v, rfl, w⟩ := vws1 hv
    obtain ⟨a, ws, rfl, r1, q1⟩ := w.tup
    exact call_len pins s σ H _ us Q I rs ⟨_, _, rfl, .inr ⟨ws, .inl (.inl r1), q1.length.symm⟩, q _ H (Same.refl _) (.int _)⟩
  · cases hg
theorem cv_abs : CallV X (.builtin "abs") D.bAbs := by
  intro pins s σ H vs us Q I rs h
  obtain ⟨ι, O, ds, r, ho, hv, hg, q⟩ := h
  unfold D.bAbs at hg
  split at hg
  · cases hg
    obtain ⟨v, rfl, w⟩ := vws1 hv
    obtain rfl := w.int
    exact call_abs pins s σ H _ us Q I rs ⟨_, rfl, q _ H (Same.refl _) (.int _)⟩
  · cases hg
theorem cv_max (hc : X.calm = true) : CallV X (.builtin "max") D.bMax := by
  intro pins s σ H vs us Q I rs h
  obtain ⟨ι, O, ds, r, ho, hv, hg, q⟩ := h
  unfold D.bMax at hg
  split at hg
  · cases hg
    obtain ⟨v, v2, rfl, w, w2⟩ := vws2 hv
    obtain rfl := w.int
    obtain rfl := w2.int
    exact call_max2 hc pins s σ H _ us Q I rs ⟨_, _, rfl, q _ H (Same.refl _) (.int _)⟩
  · obtain ⟨v, rfl, w⟩ := vws1 hv
    obtain ⟨a, ws, rfl, r1, q1⟩ := w.lst
    simp only [Option.bind_eq_some_iff, Option.map_eq_some_iff] at hg
    obtain ⟨ns, e1, m, e2, rfl⟩ := hg
    obtain rfl := q1.ints e1
    obtain ⟨h1, h2⟩ := List.max?_eq_some_iff.mp e2
    refine cr_max hc pins s σ H _ us Q I rs ⟨a, ns, rfl, .inl r1, List.length_pos_of_mem h1, fun m' h1' h2' => ?_⟩
    have e : m' = m := by
      have := h2 m' h1'
      have := h2' m h1
      omega
    rw [e]
    exact q _ H (Same.refl _) (.int _)
  · cases hg
theorem cv_min (hc : X.calm = true) : CallV X (.builtin "min") D.bMin := by
  intro pins s σ H vs us Q I rs h
  obtain ⟨ι, O, ds, r, ho, hv, hg, q⟩ := h
  unfold D.bMin at hg
  split at hg
  · cases hg
    obtain ⟨v, v2, rfl, w, w2⟩ := vws2 hv
    obtain rfl := w.int
    obtain rfl := w2.int
    exact call_min2 hc pins s σ H _ us Q I rs ⟨_, _, rfl, q _ H (Same.refl _) (.int _)⟩
  · obtain ⟨v, rfl, w⟩ := vws1 hv
    obtain ⟨a, ws, rfl, r1, q1⟩ := w.lst
    simp only [Option.bind_eq_some_iff, Option.map_eq_some_iff] at hg
    obtain ⟨ns, e1, m, e2, rfl⟩ := hg
    obtain rfl := q1.ints e1
    obtain ⟨h1, h2⟩ := List.min?_eq_some_iff.mp e2
    refine cr_min hc pins s σ H _ us Q I rs ⟨a, ns, rfl, .inl r1, List.length_pos_of_mem h1, fun m' h1' h2' => ?_⟩
    have e : m' = m := by
      have := h2 m' h1'
      have := h2' m h1
      omega
    rw [e]
    exact q _ H (Same.refl _) (.int _)
  · cases hg
theorem cv_all (hc : X.calm = true) : CallV X (.builtin "all") D.bAll := by
  intro pins s σ H vs us Q I rs h
  obtain ⟨ι, O, ds, r, ho, hv, hg, q⟩ := h
  unfold D.bAll at hg
  split at hg
  · obtain ⟨v, rfl, w⟩ := vws1 hv
    obtain ⟨a, ws, rfl, r1, q1⟩ := w.lst
    simp only [Option.map_eq_some_iff] at hg
    obtain ⟨ns, e1, rfl⟩ := hg
    obtain rfl := q1.bls e1
    exact cr_all hc pins s σ H _ us Q I rs ⟨a, ns, rfl, .inl r1, q _ H (Same.refl _) (.bl _)⟩
  · cases hg
theorem cv_any (hc : X.calm = true) : CallV X (.builtin "any") D.bAny := by
  intro pins s σ H vs us Q I rs h
  obtain ⟨ι, O, ds, r, ho, hv, hg, q⟩ := h
  unfold D.bAny at hg
  split at hg
  · obtain ⟨v, rfl, w⟩ := vws1 hv
    obtain ⟨a, ws, rfl, r1, q1⟩ := w.lst
    simp only [Option.map_eq_some_iff] at hg
    obtain ⟨ns, e1, rfl⟩ := hg
    obtain rfl := q1.bls e1
    exact cr_any hc pins s σ H _ us Q I rs ⟨a, ns, rfl, .inl r1, q _ H (Same.refl _) (.bl _)⟩
  · cases hg
theorem cv_sorted : CallV X (.builtin "sorted") D.bSorted := by
  intro pins s σ H vs us Q I rs h
  obtain ⟨ι, O, ds, r, ho, hv, hg, q⟩ := h
  unfold D.bSorted at hg
  split at hg
  · obtain ⟨v, rfl, w⟩ := vws1 hv
    obtain ⟨a, ws, rfl, r1, q1⟩ := w.lst
    simp only [Option.map_eq_some_iff] at hg
    obtain ⟨ns, e1, rfl⟩ := hg
    obtain rfl := q1.ints e1
    refine cr_sortedI pins s σ H _ us Q I rs ⟨a, ns, rfl, .inl r1, fun ns' p h1 h2 hp => ?_⟩
    have e : ns' = srtI ns := srt_one (h1.trans (srtI_perm ns).symm) h2 (srtI_srt ns)
    rw [e]
    exact q _ _ (same_new hp) (.lst upd_same (fun z => ho _ z hp) (DRs.ofInts _))
  · cases hg
theorem cv_tuple : CallV X (.type "tuple") D.bTuple := by
  intro pins s σ H vs us Q I rs h
  obtain ⟨ι, O, ds, r, ho, hv, hg, q⟩ := h
  unfold D.bTuple at hg
  split at hg
  · cases hg
    obtain ⟨v, rfl, w⟩ := vws1 hv
    obtain ⟨a, ws, rfl, r1, q1⟩ := w.lst
    exact call_tuple_of pins s σ H _ us Q I rs ⟨a, ws, rfl, .inl ⟨.inl r1, fun p hp => q _ _ (same_new hp) (.tup upd_same (q1.same (same_new hp)))⟩⟩
  · cases hg
    obtain ⟨v, rfl, w⟩ := vws1 hv
    obtain ⟨a, ws, rfl, r1, q1⟩ := w.tup
    exact call_tuple_of pins s σ H _ us Q I rs ⟨a, ws, rfl, .inr ⟨.inl (.inl r1), q _ H (Same.refl _) (.tup r1 q1)⟩⟩
  · cases hg
theorem cv_list : CallV X (.type "list") D.bList := by
  intro pins s σ H vs us Q I rs h
  obtain ⟨ι, O, ds, r, ho, hv, hg, q⟩ := h
  unfold D.bList at hg
  split at hg
  · cases hg
    obtain ⟨v, rfl, w⟩ := vws1 hv
    obtain ⟨a, ws, rfl, r1, q1⟩ := w.lst
    exact call_list_of pins s σ H _ us Q I rs ⟨a, ws, rfl, .inl (.inl r1), fun p hp => q _ _ (same_new hp) (.lst upd_same (fun z => ho _ z hp) (q1.same (same_new hp)))⟩
  · cases hg
    obtain ⟨v, rfl, w⟩ := vws1 hv
    obtain ⟨a, ws, rfl, r1, q1⟩ := w.tup
    exact call_list_of pins s σ H _ us Q I rs ⟨a, ws, rfl, .inr (.inl (.inl r1)), fun p hp => q _ _ (same_new hp) (.lst upd_same (fun z => ho _ z hp) (q1.same (same_new hp)))⟩
  · cases hg
theorem cv_int : CallV X (.type "int") D.bInt := by
  intro pins s σ H vs us Q I rs h
  obtain ⟨ι, O, ds, r, ho, hv, hg, q⟩ := h
  unfold D.bInt at hg
  split at hg
  · cases hg
    obtain ⟨v, rfl, w⟩ := vws1 hv
    obtain rfl := w.int
    exact call_int1 pins s σ H _ us Q I rs (.inl ⟨_, rfl, q _ H (Same.refl _) (.int _)⟩)
  · cases hg
    obtain ⟨v, rfl, w⟩ := vws1 hv
    obtain rfl := w.bl
    exact call_int1 pins s σ H _ us Q I rs (.inr ⟨_, rfl, q _ H (Same.refl _) (.int _)⟩)
  · cases hg

/-! ### isinstance -/
inductive Ty where
  | int | bool | str | tuple | list
def Ty.name : Ty → String
  | .int => "int" | .bool => "bool" | .str => "str" | .tuple => "tuple" | .list => "list"
def D.isi : Ty → D → Option D
  | _, .ref _ => none
  | .int, .int _ => some (.bl true)
  | .int, .bl _ => some (.bl true)
  | .bool, .bl _ => some (.bl true)
  | .str, .str _ => some (.bl true)
  | .tuple, .tup _ => some (.bl true)
  | .list, .lst _ => some (.bl true)
  | _, _ => some (.bl false)
def D.tyN : D → String
  | .non => "NoneType" | .bl _ => "bool" | .int _ => "int" | .str _ => "str" | .tup _ => "tuple" | .lst _ => "list" | .ref _ => "none"
theorem VW.ty {ι : List Addr} {O : Addr → Prop} {H : Hp} {K : PySem.W.Frag} {v : V} {d : D} (q : VW ι O H v d) (hd : ∀ r, d ≠ .ref r) : TyX K H v (.type d.tyN) := by
  cases d with
  | non => obtain rfl := q.non; exact .base .non
  | bl b => obtain rfl := q.bl; exact .base (.bl b)
  | int i => obtain rfl := q.int; exact .base (.int i)
  | str x => obtain ⟨rfl, _, _⟩ := q.str; exact .base (.str x)
  | tup xs =>
    obtain ⟨a, vs, rfl, r1, q1⟩ := q.tup
    exact .base (.tup r1)
  | lst xs =>
    obtain ⟨a, vs, rfl, r1, q1⟩ := q.lst
    rcases r1 with r1 | ⟨o, r1⟩
    · exact .base (.lst r1)
    · exact .base (.frz r1)
  | ref r => exact absurd rfl (hd r)
theorem isi_kit {t : Ty} {d r : D} (h : D.isi t d = some r) : ∃ b, r = .bl b ∧ kitB d.tyN t.name = some b ∧ ∀ r, d ≠ .ref r := by
  cases t <;> cases d <;> cases h <;> exact ⟨_, rfl, by simp only [D.tyN, Ty.name]; decide +kernel, fun r z => nomatch z⟩
theorem boot_ty (t : Ty) : bootBuiltins (Str.ofString t.name) = some (.type t.name) := by
  cases t <;> decide +kernel
theorem pd_isi {xa : Nat → Addr} {W : WX} {a : Expr} {ma : EM} {pos p p2 : Pos} {t : Ty} {x : Str} (hg : Gl X "isinstance") (hm : X.mg "isinstance" = none) (hx : x = Str.ofString t.name) (hgt : Gl X x) (hmt : X.mg x = none) (ha : PE X a (TEv xa W ma))
    (h1 : starEach [a, .Name x p2] X.env = (false, eval a X.env) :: starEach [.Name x p2] X.env) :
    PE X (.Call (.Name "isinstance" p) [a, .Name x p2] [] pos) (TEv xa W (mUn (D.isi t) ma)) := by
  have n1 : x ≠ "__name__" := by rw [hx]; cases t <;> decide +kernel
  have n2 : (x == ("__debug__" : Str)) = false := by rw [hx]; cases t <;> decide +kernel
  have ht : PE X (.Name x p2) (tC (.ty t.name)) := pe_bltn hgt hmt (by rw [hx]; exact boot_ty t) rfl n1 n2
  refine (pe_callB call_isi hg hm (by decide +kernel) (pa_cons ha (pa_cons ht pa_nil) h1) (by decide) (by decide) h1 (by rfl)).imp fun σ H Q ⟨Oo, ι, ow, ρ, hh, f, q⟩ => ?_
  refine ⟨Oo, ι, ow, ρ, hh, f, (Post.bd q).imp fun r h1 H1 ι1 s1 c1 p1 v rv => ?_⟩
  obtain ⟨d, e, q⟩ := Post.lift c1 (Post.bd p1)
  obtain ⟨b, rfl, hk, nr⟩ := isi_kit e
  exact ⟨v, .ty t.name, _, _, b, rfl, .ty _, (rv.vs c1).ty nr, kit_ty hk, q H1 (Same.refl _) H1 ι1 (Step.refl _ _) c1 _ (.bl b)⟩
end
end Kb
namespace Kb
open PySem L2

/-! ### calls of defs -/
abbrev FM := List RV → List Cell → Option (Res D)
def Prom (n : Nat) (xa : Nat → Addr) (F : FM) : Sp := fun vs H Q E => vs.length = n ∧ ∃ Oo ι rs h, RVRs ι (Of Oo ι []) H vs rs ∧ Cells ι (Of Oo ι []) H h ∧ (∀ a ∈ ι, ¬ Oo a) ∧ (∀ a, Oo a → H a ≠ none) ∧
  match F rs h with
  | none => False
  | some (.ok d h') => ∀ v H' ι', Step ι H ι' H' → Cells ι' (Of Oo ι' []) H' h' → DR ι' (Of Oo ι' []) H' v d → Q v H'
  | some (.exc c h') => ∀ H' ι', Step ι H ι' H' → Cells ι' (Of Oo ι' []) H' h' → E (.ref (xa c)) none H'
def mCall (n : Nat) (F : FM) (as : AM) : EM := fun ρ h => bd (as ρ h) fun xs h1 => if xs.length = n then bd (F xs h1) fun d h2 => ret (.val d) h2 else none
def In (Oo : Addr → Prop) (ow : List (Option Addr)) : Addr → Prop := fun a => Oo a ∨ some a ∈ ow
theorem of_in (Oo : Addr → Prop) (ι : List Addr) (ow : List (Option Addr)) : Of (In Oo ow) ι [] = Of Oo ι ow := by
  funext a
  apply propext
  unfold Of In
  constructor
  · rintro ((h | h) | h | h)
    · exact .inl h
    · exact .inr (.inr h)
    · exact .inr (.inl h)
    · cases h
  · rintro (h | h | h)
    · exact .inl (.inl h)
    · exact .inr (.inl h)
    · exact .inl (.inr h)
theorem FR.prom {n : Nat} {xa : Nat → Addr} {W : WX} {F : FM} {Oo : Addr → Prop} {ι : List Addr} {ow : List (Option Addr)} {σ : St} {H : Hp} {ρ : En} {h : List Cell} (f : FR Oo ι ow σ H ρ h) {vs : List V} {rs : List RV} (q : RVRs ι (Of Oo ι ow) H vs rs) (hn : rs.length = n) {Q : VK} {E : XK}
    (p : Post xa W Oo ι ow σ H (fun r _ ι' H' => ∀ v, RVR ι' (Of Oo ι' ow) H' v r → Q v H') (bd (F rs h) fun d h2 => ret (.val d) h2)) (hE : ∀ c H', W c none σ H' → E c none H') : Prom n xa F vs H Q E := by
  refine ⟨by rw [q.length]; exact hn, In Oo ow, ι, rs, h, by rw [of_in]; exact q, by rw [of_in]; exact f.cells, fun a ha z => ?_, fun a z => ?_, ?_⟩
  · rcases z with z | z
    · exact f.dis a ha z
    · obtain ⟨i, hi⟩ := List.mem_iff_getElem?.mp z
      exact (f.own i a hi).2.1 ha
  · exact f.trkO a (z.elim .inl fun z => .inr (.inr z))
  · cases e : F rs h with
    | none => rw [e] at p; exact p
    | some r =>
      rw [e] at p
      cases r with
      | ok d h' =>
        intro v H' ι' st c dr
        rw [of_in] at c dr
        exact p H' ι' st c v dr
      | exc c h' =>
        intro H' ι' st c'
        rw [of_in] at c'
        exact hE _ _ (p H' ι' st c')
section
variable {X : Cx} {xa : Nat → Addr} {W : WX} {pos p : Pos}
theorem pd_call {k n : Nat} {f : Addr} {fd : FuncData} {ps : List Str} {F : FM} {x : Str} {e : Expr} {es : List Expr} {ms : AM} (tk : Takes X W) (G : FnOk X.prog X.w X.K X.mg X.base (L2.CX X.prog X.w) k f fd ps (Prom n xa F)) (hr : Room k X.A) (hg : Gl X x) (hm : X.mg x = some (.ref f)) (hk : PySem.W.keepIn X.K (.ref f) = true) (hb : Binds X.K fd ps [])
    (ha : PA X (e :: es) (TAv xa W ms)) (hdb : (x == ("__debug__" : Str)) = false) (he : starEach (e :: es) X.env = (false, eval e X.env) :: starEach es X.env) (hpl : (backTo pos (starEach es X.env)).any (·.1) = false) :
    PE X (.Call (.Name x p) (e :: es) [] pos) (TEv xa W (mCall n F ms)) := by
  refine (pe_callS (E := WE W) G hr hg hm hk hb (fun σ => passAt tk σ) ha hdb he hpl).imp fun σ H Q ⟨Oo, ι, ow, ρ, hh, fr, q⟩ => ?_
  refine ⟨Oo, ι, ow, ρ, hh, fr, (Post.bd q).imp fun rs h1 H1 ι1 s1 c1 p1 vs rv => ?_⟩
  by_cases hn : rs.length = n
  · rw [if_pos hn] at p1
    exact (fr.step s1 c1).prom rv hn p1 fun c H' z => z
  · rw [if_neg hn] at p1
    exact p1.elim
end

/-! ### statements -/
inductive SRes where
  | next (ρ : En) (h : List Cell) | ret (d : D) (h : List Cell) | exc (c : Nat) (h : List Cell)
abbrev SM := En → List Cell → Option SRes
def bs {α : Type} (x : Option (Res α)) (f : α → List Cell → Option SRes) : Option SRes :=
  match x with
  | none => none
  | some (.exc c h) => some (.exc c h)
  | some (.ok a h) => f a h
/-- the frame since its entry -/
structure FRS (Oo : Addr → Prop) (ι0 : List Addr) (H0 : Hp) (ι : List Addr) (ow : List (Option Addr)) (σ : St) (H : Hp) (ρ : En) (h : List Cell) : Prop where
  fr : FR Oo ι ow σ H ρ h
  st : Step ι0 H0 ι H
  young : ∀ (i : Nat) (a : Addr), ow[i]? = some (some a) → H0 a = none
/-- data stays -/
def Hold (Oo : Addr → Prop) (ι : List Addr) (ow : List (Option Addr)) (H : Hp) (ι' : List Addr) (ow' : List (Option Addr)) (H' : Hp) : Prop := ∀ v d, DR ι (Of Oo ι ow) H v d → DR ι' (Of Oo ι' ow') H' v d
theorem Hold.refl (Oo : Addr → Prop) (ι : List Addr) (ow : List (Option Addr)) (H : Hp) : Hold Oo ι ow H ι ow H := fun _ _ h => h
theorem Hold.trans {Oo : Addr → Prop} {ι ι1 ι2 : List Addr} {ow ow1 ow2 : List (Option Addr)} {H H1 H2 : Hp} (a : Hold Oo ι ow H ι1 ow1 H1) (b : Hold Oo ι1 ow1 H1 ι2 ow2 H2) : Hold Oo ι ow H ι2 ow2 H2 := fun v d h => b v d (a v d h)
theorem Hold.step {Oo : Addr → Prop} {ι ι' : List Addr} {ow : List (Option Addr)} {H H' : Hp} (x : Step ι H ι' H') : Hold Oo ι ow H ι' ow H' := fun _ _ h => h.step x
def PostS (xa : Nat → Addr) (W : WX) (Oo : Addr → Prop) (ι0 : List Addr) (H0 : Hp) (ι : List Addr) (ow : List (Option Addr)) (H : Hp) (D : Ends) : Option SRes → Prop
  | none => False
  | some (.next ρ' h') => ∀ σ' H' ι' ow', FRS Oo ι0 H0 ι' ow' σ' H' ρ' h' → Hold Oo ι ow H ι' ow' H' → D.nx σ' H'
  | some (.ret d h') => ∀ v σ' H' ι' ow' ρ', FRS Oo ι0 H0 ι' ow' σ' H' ρ' h' → DR ι' (Of Oo ι' ow') H' v d → D.rt v H'
  | some (.exc c h') => ∀ σ' H' ι' ow' ρ', FRS Oo ι0 H0 ι' ow' σ' H' ρ' h' → W (.ref (xa c)) none σ' H'
def TSv (xa : Nat → Addr) (W : WX) (m : SM) : TS := fun D σ H => ∃ Oo ι0 H0 ι ow ρ h, FRS Oo ι0 H0 ι ow σ H ρ h ∧ PostS xa W Oo ι0 H0 ι ow H D (m ρ h)
theorem FRS.step {Oo : Addr → Prop} {ι0 ι ι' : List Addr} {H0 H H' : Hp} {ow : List (Option Addr)} {σ : St} {ρ : En} {h h' : List Cell} (f : FRS Oo ι0 H0 ι ow σ H ρ h) (x : Step ι H ι' H') (c : Cells ι' (Of Oo ι' ow) H' h') : FRS Oo ι0 H0 ι' ow σ H' ρ h' :=
  ⟨f.fr.step x c, f.st.trans x, f.young⟩
theorem PostS.from {xa : Nat → Addr} {W : WX} {Oo : Addr → Prop} {ι0 ι ι' : List Addr} {H0 H H' : Hp} {ow ow' : List (Option Addr)} {D : Ends} {y : Option SRes} (p : PostS xa W Oo ι0 H0 ι ow H D y) (x : Hold Oo ι ow H ι' ow' H') : PostS xa W Oo ι0 H0 ι' ow' H' D y := by
  cases y with
  | none => exact p
  | some r =>
    cases r with
    | next ρ h => exact fun σ' H' ι' ow' f hd => p σ' H' ι' ow' f (x.trans hd)
    | ret d h => exact p
    | exc c h => exact p
/-- an expression first -/
theorem PostS.bs {α : Type} {xa : Nat → Addr} {W : WX} {Oo : Addr → Prop} {ι0 ι : List Addr} {H0 H : Hp} {ow : List (Option Addr)} {σ : St} {ρ : En} {h : List Cell} {D : Ends} {x : Option (Res α)} {f : α → List Cell → Option SRes} (fr : FRS Oo ι0 H0 ι ow σ H ρ h) (p : PostS xa W Oo ι0 H0 ι ow H D (bs x f)) :
    Post xa W Oo ι ow σ H (fun r h' ι' H' => FRS Oo ι0 H0 ι' ow σ H' ρ h' ∧ PostS xa W Oo ι0 H0 ι' ow H' D (f r h')) x := by
  cases x with
  | none => exact p
  | some r =>
    cases r with
    | ok a h2 => exact fun H2 ι2 s2 c => ⟨fr.step s2 c, p.from (Hold.step s2)⟩
    | exc c h2 => exact fun H2 ι2 s2 cc => p σ H2 ι2 ow ρ (fr.step s2 cc)

/-! ### slots -/
theorem set_some {α : Type} {l : List α} {i j : Nat} {x y : α} (h : (l.set i x)[j]? = some y) : (i = j ∧ x = y) ∨ (i ≠ j ∧ l[j]? = some y) := by
  by_cases e : i = j
  · subst e
    left
    have hl : i < (l.set i x).length := (List.getElem?_eq_some_iff.mp h).1
    rw [List.length_set] at hl
    rw [List.getElem?_set_self hl] at h
    exact ⟨rfl, Option.some.inj h⟩
  · right
    rw [List.getElem?_set_ne e] at h
    exact ⟨e, h⟩
theorem of_set {Oo : Addr → Prop} {ι : List Addr} {ow : List (Option Addr)} {i : Nat} {a : Addr} (h : Of Oo ι (ow.set i none) a) : Of Oo ι ow a := by
  rcases h with h | h | h
  · exact .inl h
  · exact .inr (.inl h)
  · obtain ⟨j, hj⟩ := List.mem_iff_getElem?.mp h
    rcases set_some hj with ⟨_, e⟩ | ⟨_, e⟩
    · cases e
    · exact .inr (.inr (List.mem_iff_getElem?.mpr ⟨j, e⟩))
theorem Cells.less {ι : List Addr} {O O' : Addr → Prop} {H : Hp} {h : List Cell} (c : Cells ι O H h) (x : ∀ a, O' a → O a) : Cells ι O' H h :=
  ⟨c.len, c.nd, fun r a cl h1 h2 => by
    have q := c.at_ r a cl h1 h2
    cases cl with
    | lst xs =>
      obtain ⟨vs, e, z⟩ := q
      exact ⟨vs, e, z.less x⟩⟩
theorem SlotR.less {Oo : Addr → Prop} {ι : List Addr} {ow ow' : List (Option Addr)} {σ σ' : St} {H : Hp} {i : Nat} {sv : SV} (q : SlotR Oo ι ow σ H i sv) (hσ : σ'[i]? = σ[i]?) (hw : ow'[i]? = ow[i]?) (x : ∀ a, Of Oo ι ow' a → Of Oo ι ow a) : SlotR Oo ι ow' σ' H i sv := by
  cases sv with
  | val d =>
    obtain ⟨v, h1, h2⟩ := q
    exact ⟨v, by rw [hσ]; exact h1, h2.less x⟩
  | bor xs =>
    obtain ⟨a, vs, h1, h2, h3, h4⟩ := q
    exact ⟨a, vs, by rw [hσ]; exact h1, h2, h3, h4.less x⟩
  | own xs =>
    obtain ⟨a, vs, h1, h2, h3, h4⟩ := q
    exact ⟨a, vs, by rw [hσ]; exact h1, by rw [hw]; exact h2, h3, h4.less x⟩
/-- a slot gets a value -/
theorem FR.set {Oo : Addr → Prop} {ι : List Addr} {ow : List (Option Addr)} {σ : St} {H : Hp} {ρ : En} {h : List Cell} (f : FR Oo ι ow σ H ρ h) {i : Nat} (hi : i < σ.length) {v : V} {d : D} (q : DR ι (Of Oo ι ow) H v d) :
    FR Oo ι (ow.set i none) (σ.set i (some v)) H (ρ.set i (some (.val d))) h where
  len := by rw [List.length_set, List.length_set]; exact f.len
  lenO := by rw [List.length_set, List.length_set]; exact f.lenO
  real := fun j a hj e => by
    rcases set_some e with ⟨_, e'⟩ | ⟨ne, e'⟩
    · cases e'
    · rw [List.length_set] at hj
      obtain ⟨xs, g⟩ := f.real j a hj e'
      exact ⟨xs, by rw [List.getElem?_set_ne ne]; exact g⟩
  slot := fun j sv e => by
    rcases set_some e with ⟨rfl, e'⟩ | ⟨ne, e⟩
    · cases e'
      exact ⟨v, List.getElem?_set_self hi, q.less fun a => of_set⟩
    · exact (f.slot j sv e).less (List.getElem?_set_ne ne) (List.getElem?_set_ne ne) fun a => of_set
  inj := fun j k a h1 h2 => by
    rcases set_some h1 with ⟨_, e⟩ | ⟨_, e1⟩
    · cases e
    · rcases set_some h2 with ⟨_, e⟩ | ⟨_, e2⟩
      · cases e
      · exact f.inj j k a e1 e2
  own := fun j a h1 => by
    rcases set_some h1 with ⟨_, e⟩ | ⟨_, e1⟩
    · cases e
    · exact f.own j a e1
  cells := f.cells.less fun a => of_set
  dis := f.dis
  trk := f.trk
theorem FRS.set {Oo : Addr → Prop} {ι0 ι : List Addr} {H0 H : Hp} {ow : List (Option Addr)} {σ : St} {ρ : En} {h : List Cell} (f : FRS Oo ι0 H0 ι ow σ H ρ h) {i : Nat} (hi : i < σ.length) {v : V} {d : D} (q : DR ι (Of Oo ι ow) H v d) :
    FRS Oo ι0 H0 ι (ow.set i none) (σ.set i (some v)) H (ρ.set i (some (.val d))) h :=
  ⟨f.fr.set hi q, f.st, fun j a e => by
    rcases set_some e with ⟨_, e⟩ | ⟨_, e⟩
    · cases e
    · exact f.young j a e⟩
theorem hold_set {Oo : Addr → Prop} {ι : List Addr} {ow : List (Option Addr)} {H : Hp} (i : Nat) : Hold Oo ι ow H ι (ow.set i none) H := fun v d h => h.less fun a => of_set

/-! ### meanings -/
def mSet (i : Nat) (e : EM) : SM := fun ρ h => bs (e ρ h) fun r h1 => match r with
  | .val d => if i < ρ.length then some (.next (ρ.set i (some (.val d))) h1) else none
  | .bor _ => none
def mSkip : SM := fun ρ h => some (.next ρ h)
def mSeq (a b : SM) : SM := fun ρ h => match a ρ h with
  | some (.next ρ' h') => b ρ' h'
  | x => x
def mRet (e : EM) : SM := fun ρ h => bs (e ρ h) fun r h1 => match r with
  | .val d => some (.ret d h1)
  | .bor _ => none
def mRetN : SM := fun _ h => some (.ret .non h)
def mDo (e : EM) : SM := fun ρ h => bs (e ρ h) fun _ h1 => some (.next ρ h1)
def mIte (c : TM) (a b : SM) : SM := fun ρ h => bs (c ρ h) fun k h1 => if k = true then a ρ h1 else b ρ h1
section
variable {X : Cx} {xa : Nat → Addr} {W : WX} {pos : Pos}
theorem sd_nil : PSs X [] (TSv xa W mSkip) := pss_nil.imp fun D σ H ⟨Oo, ι0, H0, ι, ow, ρ, h, f, p⟩ => p σ H ι ow f (Hold.refl _ _ _ _)
theorem sd_cons {s : Stmt} {r : List Stmt} {a b : SM} (h1 : PS X s (TSv xa W a)) (h2 : PSs X r (TSv xa W b)) : PSs X (s :: r) (TSv xa W (mSeq a b)) := by
  refine (pss_cons h1 h2).imp fun D σ H ⟨Oo, ι0, H0, ι, ow, ρ, h, f, p⟩ => ?_
  refine ⟨Oo, ι0, H0, ι, ow, ρ, h, f, ?_⟩
  unfold mSeq at p
  cases e : a ρ h with
  | none => rw [e] at p; exact p
  | some z =>
    rw [e] at p
    cases z with
    | next ρ' h' => exact fun σ' H' ι' ow' f' hd => ⟨Oo, ι0, H0, ι', ow', ρ', h', f', p.from hd⟩
    | ret d h' => exact p
    | exc c h' => exact p
theorem tAsg_set {i : Nat} {m : EM} : ∀ D σ H, TSv xa W (mSet i m) D σ H → tAsg (TEv xa W m) (gName i) D σ H := by
  intro D σ H ⟨Oo, ι0, H0, ι, ow, ρ, h, f, p⟩
  refine ⟨Oo, ι, ow, ρ, h, f.fr, (PostS.bs f p).imp fun r h1 H1 ι1 s1 c1 p1 v rv => ?_⟩
  obtain ⟨f1, p1⟩ := p1
  cases r with
  | bor xs => exact p1.elim
  | val d =>
    dsimp only at p1
    by_cases hi : i < ρ.length
    · rw [if_pos hi] at p1
      exact p1 _ _ _ _ (f1.set (by rw [← f.fr.len]; exact hi) rv) (hold_set i)
    · rw [if_neg hi] at p1
      exact p1.elim
theorem sd_set {i : Nat} {x : Str} {e : Expr} {m : EM} {pos' : Pos} (hN : X.N.Nodup) (hi : X.N[i]? = some x) (hx : Loc X.env.scope x) (he : PE X e (TEv xa W m)) (hs : swapsWith e (some (.Name x pos')) pos.line X.env = pure false) (hf : X.fn x = true ∨ X.env.scope.names.lookup x = some .local) :
    PS X (.Assign [.Name x pos'] e pos) (TSv xa W (mSet i m)) := (ps_set hN hi hx he hs hf).imp tAsg_set
theorem sd_ret {e : Expr} {m : EM} (he : PE X e (TEv xa W m)) : PS X (.Return (some e) pos) (TSv xa W (mRet m)) := by
  refine (ps_ret he).imp fun D σ H ⟨Oo, ι0, H0, ι, ow, ρ, h, f, p⟩ => ?_
  refine ⟨Oo, ι, ow, ρ, h, f.fr, (PostS.bs f p).imp fun r h1 H1 ι1 s1 c1 p1 v rv => ?_⟩
  obtain ⟨f1, p1⟩ := p1
  cases r with
  | bor xs => exact p1.elim
  | val d => exact p1 v _ _ _ _ _ f1 rv
theorem sd_retN : PS X (.Return none pos) (TSv xa W mRetN) := ps_retN.imp fun D σ H ⟨Oo, ι0, H0, ι, ow, ρ, h, f, p⟩ => p .non _ _ _ _ _ f .non
theorem sd_expr {e : Expr} {m : EM} (he : PE X e (TEv xa W m)) (hs : swapsWith e none pos.line X.env = pure false) : PS X (.Expr e pos) (TSv xa W (mDo m)) := by
  refine (ps_expr he hs).imp fun D σ H ⟨Oo, ι0, H0, ι, ow, ρ, h, f, p⟩ => ?_
  refine ⟨Oo, ι, ow, ρ, h, f.fr, (PostS.bs f p).imp fun r h1 H1 ι1 s1 c1 p1 v rv => ?_⟩
  obtain ⟨f1, p1⟩ := p1
  exact p1 _ _ _ _ f1 (Hold.refl _ _ _ _)
theorem sd_if {c : Expr} {a b : List Stmt} {mc : TM} {ma mb : SM} (hc : PT X c (TTv xa W mc)) (ha : PSs X a (TSv xa W ma)) (hb : PSs X b (TSv xa W mb)) : PS X (.If c a b pos) (TSv xa W (mIte mc ma mb)) := by
  refine (ps_if hc ha hb).imp fun D σ H ⟨Oo, ι0, H0, ι, ow, ρ, h, f, p⟩ => ?_
  refine ⟨Oo, ι, ow, ρ, h, f.fr, (PostS.bs f p).imp fun k h1 H1 ι1 s1 c1 p1 => ?_⟩
  obtain ⟨f1, p1⟩ := p1
  cases k with
  | true => rw [if_pos rfl] at p1 ⊢; exact ⟨Oo, ι0, H0, ι1, ow, ρ, h1, f1, p1⟩
  | false => rw [if_neg Bool.false_ne_true] at p1 ⊢; exact ⟨Oo, ι0, H0, ι1, ow, ρ, h1, f1, p1⟩
theorem sd_pass : PS X (.Pass pos) (TSv xa W mSkip) := ps_pass.imp fun D σ H ⟨Oo, ι0, H0, ι, ow, ρ, h, f, p⟩ => p σ H ι ow f (Hold.refl _ _ _ _)
end
end Kb
namespace Kb
open PySem L2

/-! ### one object is written -/
theorem SlotR.wr {Oo : Addr → Prop} {ι : List Addr} {ow ow' : List (Option Addr)} {σ σ' : St} {H : Hp} {j : Nat} {sv : SV} {p : Addr} {o : HO} (q : SlotR Oo ι ow σ H j sv) (hσ : σ'[j]? = σ[j]?) (hw : ow'[j]? = ow[j]?)
    (hp : Of Oo ι ow p ∨ H p = none) (hO : ∀ a, Of Oo ι ow' a → Of Oo ι ow a ∨ H a = none) (hl : ∀ vs, H p ≠ some (.tup vs)) (n1 : ¬ Oo p) (n2 : ow[j]? ≠ some (some p)) : SlotR Oo ι ow' σ' (upd H p o) j sv := by
  cases sv with
  | val d =>
    obtain ⟨v, h1, h2⟩ := q
    exact ⟨v, by rw [hσ]; exact h1, h2.wr hp hO hl⟩
  | bor xs =>
    obtain ⟨a, vs, h1, h2, h3, h4⟩ := q
    have ne : a ≠ p := fun z => n1 (z ▸ h2)
    refine ⟨a, vs, by rw [hσ]; exact h1, h2, ?_, h4.wr hp hO hl⟩
    rcases h3 with h3 | ⟨ob, h3⟩
    · exact .inl (by rw [upd_ne ne]; exact h3)
    · exact .inr ⟨ob, by rw [upd_ne ne]; exact h3⟩
  | own xs =>
    obtain ⟨a, vs, h1, h2, h3, h4⟩ := q
    have ne : a ≠ p := fun z => n2 (z ▸ h2)
    exact ⟨a, vs, by rw [hσ]; exact h1, by rw [hw]; exact h2, by rw [upd_ne ne]; exact h3, h4.wr hp hO hl⟩
theorem Cells.wr {ι : List Addr} {O O' : Addr → Prop} {H : Hp} {h : List Cell} {p : Addr} {o : HO} (c : Cells ι O H h) (hp : O p ∨ H p = none) (hO : ∀ a, O' a → O a ∨ H a = none) (hl : ∀ vs, H p ≠ some (.tup vs)) (n : p ∉ ι) : Cells ι O' (upd H p o) h :=
  ⟨c.len, c.nd, fun r a cl h1 h2 => by
    have q := c.at_ r a cl h1 h2
    have ne : a ≠ p := fun z => n (z ▸ List.mem_iff_getElem?.mpr ⟨r, h1⟩)
    cases cl with
    | lst xs =>
      obtain ⟨vs, e, z⟩ := q
      exact ⟨vs, by rw [upd_ne ne]; exact e, z.wr hp hO hl⟩⟩
theorem mem_set {l : List (Option Addr)} {i : Nat} {x : Option Addr} {a : Addr} (h : some a ∈ l.set i x) : x = some a ∨ some a ∈ l := by
  obtain ⟨j, hj⟩ := List.mem_iff_getElem?.mp h
  rcases set_some hj with ⟨_, e⟩ | ⟨_, e⟩
  · exact .inl e
  · exact .inr (List.mem_iff_getElem?.mpr ⟨j, e⟩)
/-- a new list of one's own -/
theorem FR.setOwn {Oo : Addr → Prop} {ι : List Addr} {ow : List (Option Addr)} {σ : St} {H : Hp} {ρ : En} {h : List Cell} (f : FR Oo ι ow σ H ρ h) {i : Nat} (hi : i < σ.length) {p : Addr} (hp : H p = none) {vs : List V} {ds : List D} (q : DRs ι (Of Oo ι ow) H vs ds) :
    FR Oo ι (ow.set i (some p)) (σ.set i (some (.ref p))) (upd H p (.lst vs)) (ρ.set i (some (.own ds))) h := by
  have np : ¬ Of Oo ι ow p := fun z => f.trkO p z hp
  have hO : ∀ a, Of Oo ι (ow.set i (some p)) a → Of Oo ι ow a ∨ H a = none := fun a z => by
    rcases z with z | z | z
    · exact .inl (.inl z)
    · exact .inl (.inr (.inl z))
    · rcases mem_set z with e | e
      · cases e; exact .inr hp
      · exact .inl (.inr (.inr e))
  have hl : ∀ vs, H p ≠ some (.tup vs) := fun vs z => by rw [hp] at z; cases z
  have n2 : ∀ j : Nat, ow[j]? ≠ some (some p) := fun j z => np (.inr (.inr (List.mem_iff_getElem?.mpr ⟨j, z⟩)))
  have hio : i < ow.length := Nat.lt_of_lt_of_le hi f.lenO
  have hir : i < ρ.length := by rw [f.len]; exact hi
  refine ⟨by rw [List.length_set, List.length_set]; exact f.len, by rw [List.length_set, List.length_set]; exact f.lenO, fun j sv e => ?_, fun j k a h1 h2 => ?_, fun j a h1 => ?_, fun j a hj h1 => ?_, f.cells.wr (.inr hp) hO hl fun z => np (.inr (.inl z)), f.dis, fun a z => ?_⟩
  · rcases set_some e with ⟨rfl, e'⟩ | ⟨ne, e'⟩
    · cases e'
      exact ⟨p, vs, List.getElem?_set_self hi, List.getElem?_set_self hio, upd_same, q.wr (.inr hp) hO hl⟩
    · exact (f.slot j sv e').wr (List.getElem?_set_ne ne) (List.getElem?_set_ne ne) (.inr hp) hO hl (fun z => np (.inl z)) (n2 j)
  · rcases set_some h1 with ⟨e1, e2⟩ | ⟨e1, e2⟩ <;> rcases set_some h2 with ⟨e3, e4⟩ | ⟨e3, e4⟩
    · rw [← e1, ← e3]
    · cases e2; exact absurd e4 (n2 k)
    · cases e4; exact absurd e2 (n2 j)
    · exact f.inj j k a e2 e4
  · rcases set_some h1 with ⟨e1, e2⟩ | ⟨e1, e2⟩
    · cases e2
      exact ⟨fun z => np (.inl z), fun z => np (.inr (.inl z)), vs, upd_same⟩
    · obtain ⟨g1, g2, ws, g3⟩ := f.own j a e2
      refine ⟨g1, g2, ws, ?_⟩
      rw [upd_ne (fun z => by rw [z, hp] at g3; cases g3)]
      exact g3
  · rw [List.length_set] at hj
    rcases set_some h1 with ⟨e1, e2⟩ | ⟨e1, e2⟩
    · subst e1
      exact ⟨ds, List.getElem?_set_self hir⟩
    · obtain ⟨xs, g⟩ := f.real j a hj e2
      exact ⟨xs, by rw [List.getElem?_set_ne e1]; exact g⟩
  · have := f.trk a z
    rw [upd_ne (fun e => by rw [e] at this; exact this hp)]
    exact this
/-- a list of one's own is changed -/
theorem FR.chgOwn {Oo : Addr → Prop} {ι : List Addr} {ow : List (Option Addr)} {σ : St} {H : Hp} {ρ : En} {h : List Cell} (f : FR Oo ι ow σ H ρ h) {i : Nat} {p : Addr} {xs : List D} (e0 : ρ[i]? = some (some (.own xs))) (hp : ow[i]? = some (some p)) {vs : List V} {ds : List D} (q : DRs ι (Of Oo ι ow) H vs ds) :
    FR Oo ι ow σ (upd H p (.lst vs)) (ρ.set i (some (.own ds))) h := by
  obtain ⟨n1, n3, ws, hH⟩ := f.own i p hp
  have inO : Of Oo ι ow p := .inr (.inr (List.mem_iff_getElem?.mpr ⟨i, hp⟩))
  have hl : ∀ vs, H p ≠ some (.tup vs) := fun vs z => by rw [hH] at z; cases z
  refine ⟨by rw [List.length_set]; exact f.len, f.lenO, fun j sv e => ?_, f.inj, fun j a h1 => ?_, fun j a hj h1 => ?_, f.cells.wr (.inl inO) (fun _ z => .inl z) hl n3, f.dis, fun a z => ?_⟩
  · rcases set_some e with ⟨rfl, e'⟩ | ⟨ne, e'⟩
    · cases e'
      obtain ⟨a, us, g1, g2, g3, g4⟩ := f.slot i _ e0
      rw [hp] at g2
      cases g2
      exact ⟨_, vs, g1, hp, upd_same, q.wr (.inl inO) (fun _ z => .inl z) hl⟩
    · exact (f.slot j sv e').wr rfl rfl (.inl inO) (fun _ z => .inl z) hl n1 fun z => ne (f.inj i j p hp z)
  · obtain ⟨g1, g2, us, g3⟩ := f.own j a h1
    refine ⟨g1, g2, ?_⟩
    by_cases e : a = p
    · exact ⟨vs, by rw [e]; exact upd_same⟩
    · exact ⟨us, by rw [upd_ne e]; exact g3⟩
  · rw [List.length_set] at hj
    obtain ⟨ys, g⟩ := f.real j a hj h1
    by_cases e : i = j
    · subst e
      exact ⟨ds, List.getElem?_set_self hj⟩
    · exact ⟨ys, by rw [List.getElem?_set_ne e]; exact g⟩
  · have := f.trk a z
    by_cases e : a = p
    · rw [e, upd_same]; simp
    · rw [upd_ne e]; exact this
/-- a cell is changed -/
theorem FR.chgCell {Oo : Addr → Prop} {ι : List Addr} {ow : List (Option Addr)} {σ : St} {H : Hp} {ρ : En} {h : List Cell} (f : FR Oo ι ow σ H ρ h) {r : Nat} {p : Addr} {xs : List D} (e0 : h[r]? = some (.lst xs)) (hp : ι[r]? = some p) {vs : List V} {ds : List D} (q : DRs ι (Of Oo ι ow) H vs ds) :
    FR Oo ι ow σ (upd H p (.lst vs)) ρ (h.set r (.lst ds)) := by
  obtain ⟨ws, hH, _⟩ := f.cells.at_ r p _ hp e0
  have hm : p ∈ ι := List.mem_iff_getElem?.mpr ⟨r, hp⟩
  have inO : Of Oo ι ow p := .inr (.inl hm)
  have hl : ∀ vs, H p ≠ some (.tup vs) := fun vs z => by rw [hH] at z; cases z
  refine ⟨f.len, f.lenO, fun j sv e => (f.slot j sv e).wr rfl rfl (.inl inO) (fun _ z => .inl z) hl (f.dis p hm) fun z => (f.own j p z).2.1 hm, f.inj, fun j a h1 => ?_, f.real, ⟨by rw [List.length_set]; exact f.cells.len, f.cells.nd, fun r' a cl h1 h2 => ?_⟩, f.dis, fun a z => ?_⟩
  · obtain ⟨g1, g2, us, g3⟩ := f.own j a h1
    have ne : a ≠ p := fun z => g2 (by rw [z]; exact hm)
    exact ⟨g1, g2, us, by rw [upd_ne ne]; exact g3⟩
  · rcases set_some h2 with ⟨e1, e2⟩ | ⟨e1, e2⟩
    · subst e1
      rw [hp] at h1
      cases h1
      cases e2
      exact ⟨vs, upd_same, q.wr (.inl inO) (fun _ z => .inl z) hl⟩
    · have ne : a ≠ p := fun z => by
        subst z
        have l1 := (List.getElem?_eq_some_iff.mp hp)
        have l2 := (List.getElem?_eq_some_iff.mp h1)
        obtain ⟨b1, c1⟩ := l1
        obtain ⟨b2, c2⟩ := l2
        exact e1 ((List.getElem_inj f.cells.nd).mp (c1.trans c2.symm))
      have q' := f.cells.at_ r' a cl h1 e2
      cases cl with
      | lst ys =>
        obtain ⟨us, g1, g2⟩ := q'
        exact ⟨us, by rw [upd_ne ne]; exact g1, g2.wr (.inl inO) (fun _ z => .inl z) hl⟩
  · have := f.trk a z
    by_cases e : a = p
    · rw [e, upd_same]; simp
    · rw [upd_ne e]; exact this
theorem step_cell {ι : List Addr} {H : Hp} {p : Addr} {vs ws : List V} (hm : p ∈ ι) (hH : H p = some (.lst ws)) : Step ι H ι (upd H p (.lst vs)) := by
  refine ⟨⟨[], by simp, fun _ z => nomatch z⟩, fun a o e q => ?_, fun a z => ?_⟩
  · have ne : a ≠ p := fun z => by
      subst z
      rw [hH] at e
      cases e
      rcases q with q | q
      · exact q hm
      · cases q
    rw [upd_ne ne]
    exact e
  · by_cases e : a = p
    · rw [e, upd_same]; simp
    · rw [upd_ne e]; exact z
/-- a list of one's own becomes data -/
theorem FR.freeze {Oo : Addr → Prop} {ι : List Addr} {ow : List (Option Addr)} {σ : St} {H : Hp} {ρ : En} {h : List Cell} (f : FR Oo ι ow σ H ρ h) {i : Nat} {xs : List D} (e0 : ρ[i]? = some (some (.own xs))) :
    FR Oo ι (ow.set i none) σ H (ρ.set i (some (.val (.lst xs)))) h where
  len := by rw [List.length_set]; exact f.len
  lenO := by rw [List.length_set]; exact f.lenO
  real := fun j a hj e => by
    rcases set_some e with ⟨_, e'⟩ | ⟨ne, e'⟩
    · cases e'
    · rw [List.length_set] at hj
      obtain ⟨ys, g⟩ := f.real j a hj e'
      exact ⟨ys, by rw [List.getElem?_set_ne ne]; exact g⟩
  slot := fun j sv e => by
    rcases set_some e with ⟨rfl, e'⟩ | ⟨ne, e'⟩
    · cases e'
      obtain ⟨a, vs, g1, g2, g3, g4⟩ := f.slot i _ e0
      refine ⟨.ref a, g1, .lst g3 (fun z => ?_) (g4.less fun a => of_set)⟩
      obtain ⟨n1, n2, _⟩ := f.own i a g2
      rcases z with z | z | z
      · exact n1 z
      · exact n2 z
      · obtain ⟨j, hj⟩ := List.mem_iff_getElem?.mp z
        rcases set_some hj with ⟨_, e⟩ | ⟨ne, e⟩
        · cases e
        · exact ne (f.inj i j a g2 e)
    · exact (f.slot j sv e').less rfl (List.getElem?_set_ne ne) fun a => of_set
  inj := fun j k a h1 h2 => by
    rcases set_some h1 with ⟨_, e⟩ | ⟨_, e1⟩
    · cases e
    · rcases set_some h2 with ⟨_, e⟩ | ⟨_, e2⟩
      · cases e
      · exact f.inj j k a e1 e2
  own := fun j a h1 => by
    rcases set_some h1 with ⟨_, e⟩ | ⟨_, e1⟩
    · cases e
    · exact f.own j a e1
  cells := f.cells.less fun a => of_set
  dis := f.dis
  trk := f.trk

/-! ### meanings -/
def mOwn (i : Nat) (as : AM) : SM := fun ρ h => bs (as ρ h) fun xs h1 => match allVal xs with
  | some ds => if ds.length ≤ sizeLine ∧ i < ρ.length then some (.next (ρ.set i (some (.own ds))) h1) else none
  | none => none
def mCell (i : Nat) (as : AM) : SM := fun ρ h => bs (as ρ h) fun xs h1 => match allVal xs with
  | some ds => if ds.length ≤ sizeLine ∧ i < ρ.length then some (.next (ρ.set i (some (.val (.ref h1.length)))) (h1 ++ [.lst ds])) else none
  | none => none
def mFreeze (i : Nat) : SM := fun ρ h => match ρ[i]? with
  | some (some (.own xs)) => some (.next (ρ.set i (some (.val (.lst xs)))) h)
  | _ => none
def mApp (i : Nat) (e : EM) : SM := fun ρ h => match ρ[i]? with
  | some (some (.own xs)) => bs (e ρ h) fun r h1 => match r with
    | .val d => if xs.length < sizeLine then some (.next (ρ.set i (some (.own (xs ++ [d])))) h1) else none
    | .bor _ => none
  | some (some (.val (.ref r))) => bs (e ρ h) fun v h1 => match v, h1[r]? with
    | .val d, some (.lst xs) => if xs.length < sizeLine then some (.next ρ (h1.set r (.lst (xs ++ [d])))) else none
    | _, _ => none
  | _ => none
def mExt (i : Nat) (e : EM) : SM := fun ρ h => match ρ[i]? with
  | some (some (.own xs)) => bs (e ρ h) fun r h1 => match r with
    | .val (.lst ys) => if xs.length + ys.length ≤ sizeLine then some (.next (ρ.set i (some (.own (xs ++ ys)))) h1) else none
    | _ => none
  | _ => none
/-- o[j] = e, o a cell -/
def mPut (i : Nat) (j e : EM) : SM := fun ρ h => bs (e ρ h) fun v h1 => match ρ[i]? with
  | some (some (.val (.ref r))) => bs (j ρ h1) fun k h2 => match v, k.see h2, h2[r]? with
    | .val d, .int n, some (.lst xs) => match ixN xs.length n with
      | some m => some (.next ρ (h2.set r (.lst (xs.set m d))))
      | none => none
    | _, _, _ => none
  | _ => none
section
variable {X : Cx} {xa : Nat → Addr} {W : WX} {pos : Pos}
theorem hold_own {Oo : Addr → Prop} {ι : List Addr} {ow : List (Option Addr)} {H : Hp} {i : Nat} {p : Addr} {o : HO} (hp : H p = none) : Hold Oo ι ow H ι (ow.set i (some p)) (upd H p o) := fun v d q =>
  q.wr (.inr hp) (fun a z => by
    rcases z with z | z | z
    · exact .inl (.inl z)
    · exact .inl (.inr (.inl z))
    · rcases mem_set z with e | e
      · cases e; exact .inr hp
      · exact .inl (.inr (.inr e))) fun vs z => by rw [hp] at z; cases z
theorem sd_own {i : Nat} {x : Str} {es : List Expr} {ms : AM} {pos' lp : Pos} (hN : X.N.Nodup) (hi : X.N[i]? = some x) (hx : Loc X.env.scope x) (hes : PA X es (TAv xa W ms)) (hs : swapsWith (.List es lp) (some (.Name x pos')) pos.line X.env = pure false) (hf : X.fn x = true ∨ X.env.scope.names.lookup x = some .local) :
    PS X (.Assign [.Name x pos'] (.List es lp) pos) (TSv xa W (mOwn i ms)) := by
  refine (ps_set hN hi hx (pe_lst hes) hs hf).imp fun D σ H ⟨Oo, ι0, H0, ι, ow, ρ, h, f, p⟩ => ?_
  refine ⟨Oo, ι, ow, ρ, h, f.fr, (PostS.bs f p).imp fun rs h1 H1 ι1 s1 c1 p1 vs rv => ?_⟩
  obtain ⟨f1, p1⟩ := p1
  cases e : allVal rs with
  | none => rw [e] at p1; exact p1.elim
  | some ds =>
    rw [e] at p1
    dsimp only at p1
    have dr := allVal_of rv e
    by_cases hl : ds.length ≤ sizeLine ∧ i < ρ.length
    · rw [if_pos hl] at p1
      refine ⟨by rw [dr.length]; exact hl.1, fun a ha => ?_⟩
      refine p1 _ _ ι1 (ow.set i (some a)) ⟨f1.fr.setOwn (by rw [← f.fr.len]; exact hl.2) ha dr, f1.st.trans (Step.same (same_new ha)), fun j b e => ?_⟩ (hold_own ha)
      rcases set_some e with ⟨_, e⟩ | ⟨_, e⟩
      · cases e
        cases q : H0 a with
        | none => rfl
        | some o => exact absurd ha (f1.st.dom a (by rw [q]; simp))
      · exact f.young j b e
    · rw [if_neg hl] at p1
      exact p1.elim
theorem sd_cell {i : Nat} {x : Str} {es : List Expr} {ms : AM} {pos' lp : Pos} (hN : X.N.Nodup) (hi : X.N[i]? = some x) (hx : Loc X.env.scope x) (hes : PA X es (TAv xa W ms)) (hs : swapsWith (.List es lp) (some (.Name x pos')) pos.line X.env = pure false) (hf : X.fn x = true ∨ X.env.scope.names.lookup x = some .local) :
    PS X (.Assign [.Name x pos'] (.List es lp) pos) (TSv xa W (mCell i ms)) := by
  refine (ps_set hN hi hx (pe_lst hes) hs hf).imp fun D σ H ⟨Oo, ι0, H0, ι, ow, ρ, h, f, p⟩ => ?_
  refine ⟨Oo, ι, ow, ρ, h, f.fr, (PostS.bs f p).imp fun rs h1 H1 ι1 s1 c1 p1 vs rv => ?_⟩
  obtain ⟨f1, p1⟩ := p1
  cases e : allVal rs with
  | none => rw [e] at p1; exact p1.elim
  | some ds =>
    rw [e] at p1
    dsimp only at p1
    have dr := allVal_of rv e
    by_cases hl : ds.length ≤ sizeLine ∧ i < ρ.length
    · rw [if_pos hl] at p1
      refine ⟨by rw [dr.length]; exact hl.1, fun a ha => ?_⟩
      have st : Step ι1 H1 (ι1 ++ [a]) (upd H1 a (.lst vs)) := ⟨⟨[a], rfl, fun b hb => by cases List.mem_singleton.mp hb; exact ha⟩, fun b o e _ => same_new ha b o e, (Step.same (ι := ι1) (same_new ha)).dom⟩
      have na : a ∉ ι1 := fun z => f1.fr.trkO a (.inr (.inl z)) ha
      have cc : Cells (ι1 ++ [a]) (Of Oo (ι1 ++ [a]) ow) (upd H1 a (.lst vs)) (h1 ++ [.lst ds]) := by
        refine ⟨by rw [List.length_append, List.length_append, c1.len]; rfl, List.nodup_append.mpr ⟨c1.nd, by simp, fun x hx y hy => by cases List.mem_singleton.mp hy; exact fun z => na (z ▸ hx)⟩, fun r b cl g1 g2 => ?_⟩
        by_cases hr : r < ι1.length
        · rw [List.getElem?_append_left hr] at g1
          rw [List.getElem?_append_left (by rw [← c1.len]; exact hr)] at g2
          have q := c1.at_ r b cl g1 g2
          cases cl with
          | lst ys =>
            obtain ⟨us, g3, g4⟩ := q
            exact ⟨us, same_new ha _ _ g3, g4.step st⟩
        · have hr' : r = ι1.length := by
            have := (List.getElem?_eq_some_iff.mp g1).1
            rw [List.length_append] at this
            simp at this
            omega
          subst hr'
          rw [List.getElem?_append_right (Nat.le_refl _)] at g1
          rw [c1.len, List.getElem?_append_right (Nat.le_refl _)] at g2
          simp at g1 g2
          subst g1 g2
          exact ⟨vs, upd_same, dr.step st⟩
      have f2 := f1.step st cc
      have hr : (ι1 ++ [a])[h1.length]? = some a := by rw [← c1.len, List.getElem?_append_right (Nat.le_refl _)]; simp
      exact p1 _ _ _ _ (f2.set (by rw [← f.fr.len]; exact hl.2) (.ref hr)) ((Hold.step st).trans (hold_set i))
    · rw [if_neg hl] at p1
      exact p1.elim
theorem sd_freeze {i : Nat} {st : List Stmt} {m : SM} (h : PSs X st (TSv xa W m)) : PSs X st (TSv xa W (mSeq (mFreeze i) m)) := by
  refine h.imp fun D σ H ⟨Oo, ι0, H0, ι, ow, ρ, h, f, p⟩ => ?_
  unfold mSeq mFreeze at p
  cases e : ρ[i]? with
  | none => rw [e] at p; exact p.elim
  | some o =>
    cases o with
    | none => rw [e] at p; exact p.elim
    | some sv =>
      cases sv with
      | val d => rw [e] at p; exact p.elim
      | bor xs => rw [e] at p; exact p.elim
      | own xs =>
        rw [e] at p
        refine ⟨Oo, ι0, H0, ι, ow.set i none, _, h, ⟨f.fr.freeze e, f.st, fun j a e => ?_⟩, p.from (hold_set i)⟩
        rcases set_some e with ⟨_, e⟩ | ⟨_, e⟩
        · cases e
        · exact f.young j a e
theorem sd_app {i : Nat} {x : Str} {e : Expr} {m : EM} {p1 apos cpos : Pos} (hN : X.N[i]? = some x) (hv : Vis X.env.scope x) (hd : (x == ("__debug__" : Str)) = false) (hcd : (x == ("__classdict__" : Str)) = false) (he : PE X e (TEv xa W m))
    (hbase : attributeBase (.Name x p1) "append" X.env (eval (.Name x p1) X.env) = eval (.Name x p1) X.env)
    (hfew : ((backTo cpos (starEach [e] X.env)).all (fun x => !x.1) && (backToKw cpos (keywordEach [] X.env)).all (fun x => x.1.isSome)
      && decide (([e] : List Expr).length + ([] : List Keyword).length + (if ([] : List Keyword).isEmpty then 0 else 1) < 30)) = true)
    (hline : (apos.endLine == cpos.line) = true) (hst : starEach [e] X.env = (false, eval e X.env) :: starEach [] X.env)
    (hs : swapsWith (.Call (.Attribute (.Name x p1) "append" apos) [e] [] cpos) none pos.line X.env = pure false) :
    PS X (.Expr (.Call (.Attribute (.Name x p1) "append" apos) [e] [] cpos) pos) (TSv xa W (mApp i m)) := by
  refine (ps_expr (pe_bm PySem.F.plainAttrs_list PySem.F.slot_list_append PySem.F.type_list_append mt_append (pe_var hN hv hd hcd) (pa_cons he pa_nil hst) hbase hfew hline hst (by rfl)) hs).imp fun D σ H ⟨Oo, ι0, H0, ι, ow, ρ, h, f, p⟩ => ?_
  unfold mApp at p
  split at p
  · rename_i xs e0
    obtain ⟨a, vs, g1, g2, g3, g4⟩ := f.fr.slot i _ e0
    refine ⟨.ref a, g1, .inl ⟨rfl, vs, .inl (.inl g3)⟩, ?_⟩
    refine ⟨Oo, ι, ow, ρ, h, f.fr, (PostS.bs f p).imp fun r h1 H1 ι1 s1 c1 p1 v rv => ?_⟩
    obtain ⟨f1, p1⟩ := p1
    cases r with
    | bor ys => exact p1.elim
    | val d =>
      dsimp only at p1
      by_cases hl : xs.length < sizeLine
      · rw [if_pos hl] at p1
        have na := (f.fr.own i a g2).2.1
        have g3' := s1.keep a _ g3 (.inl na)
        refine ⟨a, vs, v, rfl, rfl, g3', by rw [g4.length]; exact hl, ?_⟩
        have q : DRs ι1 (Of Oo ι1 ow) H1 (vs ++ [v]) (xs ++ [d]) := (g4.step s1).append (.cons rv .nil)
        have inO : Of Oo ι1 ow a := .inr (.inr (List.mem_iff_getElem?.mpr ⟨i, g2⟩))
        have H0a := f.young i a g2
        refine p1 σ _ ι1 ow ⟨f1.fr.chgOwn e0 g2 q, ⟨f1.st.pre, fun b o e z => ?_, fun b z => ?_⟩, f.young⟩ fun w d' dr => dr.wr (.inl inO) (fun _ z => .inl z) fun us z => by rw [g3'] at z; cases z
        · rw [upd_ne (fun q => by rw [q, H0a] at e; cases e)]
          exact f1.st.keep b o e z
        · by_cases q : b = a
          · rw [q, upd_same]; simp
          · rw [upd_ne q]; exact f1.st.dom b z
      · rw [if_neg hl] at p1
        exact p1.elim
  · rename_i r e0
    obtain ⟨v0, g1, g2⟩ := f.fr.slot i _ e0
    cases g2 with
    | @ref _ a er =>
      have hr : r < h.length := by rw [← f.fr.cells.len]; exact (List.getElem?_eq_some_iff.mp er).1
      have q0 := f.fr.cells.at_ r a _ er (List.getElem?_eq_getElem hr)
      have ty : tyV X.K "list" (.ref a) H := by
        cases hc : h[r] with
        | lst ys =>
          rw [hc] at q0
          obtain ⟨us, g3, _⟩ := q0
          exact .inl ⟨rfl, us, .inl (.inl g3)⟩
      refine ⟨.ref a, g1, ty, ?_⟩
      refine ⟨Oo, ι, ow, ρ, h, f.fr, (PostS.bs f p).imp fun rv0 h1 H1 ι1 s1 c1 p1 v rv => ?_⟩
      obtain ⟨f1, p1⟩ := p1
      split at p1
      · rename_i d xs e1
        by_cases hl : xs.length < sizeLine
        · rw [if_pos hl] at p1
          have er1 := s1.at er
          obtain ⟨vs, g3, g4⟩ := c1.at_ r a _ er1 e1
          have hm : a ∈ ι1 := List.mem_iff_getElem?.mpr ⟨r, er1⟩
          refine ⟨a, vs, v, rfl, rfl, g3, by rw [g4.length]; exact hl, ?_⟩
          have q : DRs ι1 (Of Oo ι1 ow) H1 (vs ++ [v]) (xs ++ [d]) := g4.append (.cons rv .nil)
          have sc : Step ι1 H1 ι1 (upd H1 a (.lst (vs ++ [v]))) := step_cell hm g3
          exact p1 σ _ ι1 ow ⟨f1.fr.chgCell e1 er1 q, f1.st.trans sc, f.young⟩ (Hold.step sc)
        · rw [if_neg hl] at p1
          exact p1.elim
      · exact p1.elim
  · exact p.elim
theorem sd_ext {i : Nat} {x : Str} {e : Expr} {m : EM} {p1 apos cpos : Pos} (hN : X.N[i]? = some x) (hv : Vis X.env.scope x) (hd : (x == ("__debug__" : Str)) = false) (hcd : (x == ("__classdict__" : Str)) = false) (he : PE X e (TEv xa W m))
    (hbase : attributeBase (.Name x p1) "extend" X.env (eval (.Name x p1) X.env) = eval (.Name x p1) X.env)
    (hfew : ((backTo cpos (starEach [e] X.env)).all (fun x => !x.1) && (backToKw cpos (keywordEach [] X.env)).all (fun x => x.1.isSome)
      && decide (([e] : List Expr).length + ([] : List Keyword).length + (if ([] : List Keyword).isEmpty then 0 else 1) < 30)) = true)
    (hline : (apos.endLine == cpos.line) = true) (hst : starEach [e] X.env = (false, eval e X.env) :: starEach [] X.env)
    (hs : swapsWith (.Call (.Attribute (.Name x p1) "extend" apos) [e] [] cpos) none pos.line X.env = pure false) :
    PS X (.Expr (.Call (.Attribute (.Name x p1) "extend" apos) [e] [] cpos) pos) (TSv xa W (mExt i m)) := by
  refine (ps_expr (pe_bm PySem.F.plainAttrs_list PySem.F.slot_list_extend PySem.F.type_list_extend mt_extend (pe_var hN hv hd hcd) (pa_cons he pa_nil hst) hbase hfew hline hst (by rfl)) hs).imp fun D σ H ⟨Oo, ι0, H0, ι, ow, ρ, h, f, p⟩ => ?_
  unfold mExt at p
  split at p
  · rename_i xs e0
    obtain ⟨a, vs, g1, g2, g3, g4⟩ := f.fr.slot i _ e0
    refine ⟨.ref a, g1, .inl ⟨rfl, vs, .inl (.inl g3)⟩, ?_⟩
    refine ⟨Oo, ι, ow, ρ, h, f.fr, (PostS.bs f p).imp fun r h1 H1 ι1 s1 c1 p1 v rv => ?_⟩
    obtain ⟨f1, p1⟩ := p1
    split at p1
    · rename_i ys
      by_cases hl : xs.length + ys.length ≤ sizeLine
      · rw [if_pos hl] at p1
        have na := (f.fr.own i a g2).2.1
        have g3' := s1.keep a _ g3 (.inl na)
        have rv' : DR ι1 (Of Oo ι1 ow) H1 v (.lst ys) := rv
        cases rv' with
        | @lst b us _ hb nb qb =>
        refine ⟨a, b, vs, us, rfl, rfl, g3', hb, by rw [g4.length, qb.length]; exact hl, ?_⟩
        have q : DRs ι1 (Of Oo ι1 ow) H1 (vs ++ us) (xs ++ ys) := (g4.step s1).append qb
        have inO : Of Oo ι1 ow a := .inr (.inr (List.mem_iff_getElem?.mpr ⟨i, g2⟩))
        have H0a := f.young i a g2
        refine p1 σ _ ι1 ow ⟨f1.fr.chgOwn e0 g2 q, ⟨f1.st.pre, fun b o e z => ?_, fun b z => ?_⟩, f.young⟩ fun w d' dr => dr.wr (.inl inO) (fun _ z => .inl z) fun us z => by rw [g3'] at z; cases z
        · rw [upd_ne (fun q => by rw [q, H0a] at e; cases e)]
          exact f1.st.keep b o e z
        · by_cases q : b = a
          · rw [q, upd_same]; simp
          · rw [upd_ne q]; exact f1.st.dom b z
      · rw [if_neg hl] at p1
        exact p1.elim
    · exact p1.elim
  · exact p.elim
end
end Kb
namespace Kb
open PySem L2

/-! ### targets -/
def wipeO {α : Type} (l : List (Option α)) : List Nat → List (Option α)
  | [] => l
  | i :: is => wipeO (l.set i none) is
def setAll : List Nat → List D → En → Option En
  | [], [], ρ => some ρ
  | i :: is, d :: ds, ρ => if i < ρ.length then setAll is ds (ρ.set i (some (.val d))) else none
  | _, _, _ => none
inductive Tg where
  | name (i : Nat) | tup (is : List Nat)
def Tg.is : Tg → List Nat
  | .name i => [i]
  | .tup is => is
def Tg.set : Tg → D → En → Option En
  | .name i, d, ρ => setAll [i] [d] ρ
  | .tup is, .tup ds, ρ => setAll is ds ρ
  | .tup _, _, _ => none
def TGsv (is : List Nat) : TGs := fun vs σ H Q => ∃ Oo ι ow ρ h ds ρ', FR Oo ι ow σ H ρ h ∧ DRs ι (Of Oo ι ow) H vs ds ∧ setAll is ds ρ = some ρ' ∧
  ∀ σ', FR Oo ι (wipeO ow is) σ' H ρ' h → (∀ j, j ∉ is → σ'[j]? = σ[j]?) → σ'.length = σ.length → Q σ' H
def TGv (t : Tg) : TG := fun v σ H Q => ∃ Oo ι ow ρ h d ρ', FR Oo ι ow σ H ρ h ∧ DR ι (Of Oo ι ow) H v d ∧ t.set d ρ = some ρ' ∧
  ∀ σ', FR Oo ι (wipeO ow t.is) σ' H ρ' h → (∀ j, j ∉ t.is → σ'[j]? = σ[j]?) → σ'.length = σ.length → Q σ' H
theorem _root_.L2.PG.imp {X : Cx} {e : Expr} {t t' : TG} (p : PG X e t) (h : ∀ v σ H Q, t' v σ H Q → t v σ H Q) : PG X e t' := ⟨fun pins s σ H v u Q I r q => p.run pins s σ H v u Q I r (h v σ H Q q)⟩
theorem _root_.L2.PGs.imp {X : Cx} {e : List Expr} {t t' : TGs} (p : PGs X e t) (h : ∀ v σ H Q, t' v σ H Q → t v σ H Q) : PGs X e t' := ⟨fun pins s σ H v u Q I r q => p.run pins s σ H v u Q I r (h v σ H Q q)⟩
section
variable {X : Cx} {pos : Pos}
theorem DRs.of_less {Oo : Addr → Prop} {ι : List Addr} {ow : List (Option Addr)} {H : Hp} {i : Nat} {vs : List V} {ds : List D} (q : DRs ι (Of Oo ι ow) H vs ds) : DRs ι (Of Oo ι (ow.set i none)) H vs ds := q.less fun a => of_set
theorem gd_nil : PGs X [] (TGsv []) := by
  refine pgs_nil.imp fun vs σ H Q ⟨Oo, ι, ow, ρ, h, ds, ρ', f, q, e, k⟩ => ?_
  cases q with
  | nil => cases e; exact ⟨rfl, k σ f (fun _ _ => rfl) rfl⟩
  | cons a b => cases e
theorem gd_cons {i : Nat} {is : List Nat} {x : Str} {p : Pos} {es : List Expr} (hN : X.N.Nodup) (hi : X.N[i]? = some x) (hx : Loc X.env.scope x) (hf : X.fn x = true ∨ X.env.scope.names.lookup x = some .local) (h2 : PGs X es (TGsv is))
    (hs : (assignEach (.Name x p :: es) X.env).map (·.2) = assign (.Name x p) X.env :: (assignEach es X.env).map (·.2)) : PGs X (.Name x p :: es) (TGsv (i :: is)) := by
  refine (pgs_cons (pg_name hN hi hx hf) h2 hs).imp fun vs σ H Q ⟨Oo, ι, ow, ρ, h, ds, ρ', f, q, e, k⟩ => ?_
  cases q with
  | nil => cases e
  | @cons v vs d ds a b =>
    simp only [setAll] at e
    by_cases hl : i < ρ.length
    · rw [if_pos hl] at e
      refine ⟨v, vs, rfl, Oo, ι, ow.set i none, _, h, ds, ρ', f.set (by rw [← f.len]; exact hl) a, b.of_less, e, fun σ' f' fr' l' => k σ' f' (fun j hj => ?_) (by rw [l', List.length_set])⟩
      rw [fr' j (fun z => hj (List.mem_cons_of_mem _ z)), List.getElem?_set_ne (fun z => hj (by rw [z]; exact List.mem_cons_self))]
    · rw [if_neg hl] at e
      cases e
theorem gd_name {i : Nat} {x : Str} (hN : X.N.Nodup) (hi : X.N[i]? = some x) (hx : Loc X.env.scope x) (hf : X.fn x = true ∨ X.env.scope.names.lookup x = some .local) : PG X (.Name x pos) (TGv (.name i)) := by
  refine (pg_name hN hi hx hf).imp fun v σ H Q ⟨Oo, ι, ow, ρ, h, d, ρ', f, q, e, k⟩ => ?_
  simp only [Tg.set, setAll] at e
  by_cases hl : i < ρ.length
  · rw [if_pos hl] at e
    cases e
    exact k _ (f.set (by rw [← f.len]; exact hl) q) (fun j hj => List.getElem?_set_ne (fun z => hj (by rw [z]; exact List.mem_cons_self))) (List.length_set ..)
  · rw [if_neg hl] at e
    cases e
theorem gd_tup {is : List Nat} {es : List Expr} {k : Nat} {n : Nat} (hc : X.calm = true) (h : PGs X es (TGsv is)) (hl : is.length = n) (hn : (assignEach es X.env).length = n) (hst : (assignEach es X.env).findIdx? (·.1) = none) : PG X (.Tuple es k pos) (TGv (.tup is)) := by
  refine (pg_tup hc h hn hst).imp fun v σ H Q ⟨Oo, ι, ow, ρ, h, d, ρ', f, q, e, k⟩ => ?_
  cases d with
  | tup ds =>
    cases q with
    | @tup a vs _ r q =>
      refine ⟨a, vs, rfl, .inl (.inl r), ?_, Oo, ι, ow, ρ, h, ds, ρ', f, q, e, k⟩
      rw [q.length, ← hl]
      have len : ∀ {is : List Nat} {ds : List D} {ρ ρ' : En}, setAll is ds ρ = some ρ' → ds.length = is.length := by
        intro is
        induction is with
        | nil => intro ds ρ ρ' e; cases ds with
          | nil => rfl
          | cons _ _ => cases e
        | cons i is ih => intro ds ρ ρ' e; cases ds with
          | nil => cases e
          | cons d ds =>
            simp only [setAll] at e
            split at e
            · rw [List.length_cons, List.length_cons, ih e]
            · cases e
      exact len e
  | _ => cases e
end
theorem wipeO_of {Oo : Addr → Prop} {ι : List Addr} : ∀ {is : List Nat} {ow : List (Option Addr)} {a : Addr}, Of Oo ι (wipeO ow is) a → Of Oo ι ow a
  | [], _, _, h => h
  | i :: is, ow, a, h => of_set (wipeO_of (is := is) h)
theorem wipeO_at {α : Type} : ∀ {is : List Nat} {l : List (Option α)} {j : Nat} {a : α}, (wipeO l is)[j]? = some (some a) → l[j]? = some (some a)
  | [], _, _, _, h => h
  | i :: is, l, j, a, h => by
    rcases set_some (wipeO_at (is := is) h) with ⟨_, e⟩ | ⟨_, e⟩
    · cases e
    · exact e
theorem FRS.wiped {Oo : Addr → Prop} {ι0 ι : List Addr} {H0 H : Hp} {ow : List (Option Addr)} {σ σ' : St} {ρ ρ' : En} {h : List Cell} {is : List Nat} (f : FRS Oo ι0 H0 ι ow σ H ρ h) (g : FR Oo ι (wipeO ow is) σ' H ρ' h) : FRS Oo ι0 H0 ι (wipeO ow is) σ' H ρ' h :=
  ⟨g, f.st, fun i a e => f.young i a (wipeO_at e)⟩
theorem hold_wiped {Oo : Addr → Prop} {ι : List Addr} {ow : List (Option Addr)} {H : Hp} (is : List Nat) : Hold Oo ι ow H ι (wipeO ow is) H := fun v d h => h.less fun a => wipeO_of
/-- a, b = e -/
def mUnp (t : Tg) (e : EM) : SM := fun ρ h => bs (e ρ h) fun r h1 => match r with
  | .val d => match t.set d ρ with
    | some ρ' => some (.next ρ' h1)
    | none => none
  | .bor _ => none
section
variable {X : Cx} {xa : Nat → Addr} {W : WX} {pos : Pos}
theorem sd_unp {t : Tg} {tg e : Expr} {m : EM} (he : PE X e (TEv xa W m)) (hg : PG X tg (TGv t)) (hs : swapsWithSole [tg] e pos.line X.env = pure false) (hw : swappedStores [tg] e X.env = pure none) (h1 : (assignEach [tg] X.env).map (·.2) = [assign tg X.env]) :
    PS X (.Assign [tg] e pos) (TSv xa W (mUnp t m)) := by
  refine (ps_asg he hg hs hw h1).imp fun D σ H ⟨Oo, ι0, H0, ι, ow, ρ, h, f, p⟩ => ?_
  refine ⟨Oo, ι, ow, ρ, h, f.fr, (PostS.bs f p).imp fun r h1 H1 ι1 s1 c1 p1 v rv => ?_⟩
  obtain ⟨f1, p1⟩ := p1
  cases r with
  | bor xs => exact p1.elim
  | val d =>
    dsimp only at p1
    cases e : t.set d ρ with
    | none => rw [e] at p1; exact p1.elim
    | some ρ' =>
      rw [e] at p1
      exact ⟨Oo, ι1, ow, ρ, h1, d, ρ', f1.fr, rv, e, fun σ' g _ _ => p1 σ' H1 ι1 _ (f1.wiped g) (hold_wiped _)⟩
/-- o[j] = e -/
theorem sd_put {i : Nat} {x : Str} {o j e : Expr} {mj me : EM} {p1 p2 : Pos} (hN : X.N[i]? = some x) (hv : Vis X.env.scope x) (hd : (x == ("__debug__" : Str)) = false) (hcd : (x == ("__classdict__" : Str)) = false) (hj : PE X j (TEv xa W mj)) (he : PE X e (TEv xa W me))
    (ha : ∀ v, assign (.Subscript (.Name x p1) j p2) X.env v = (do
      let ov ← holding [v] (eval (.Name x p1) X.env)
      let iv ← holding [v, ov] (eval j X.env)
      standAt p2
      holding [v, ov, iv] (setItem ov iv v)
      release [v, ov, iv] []))
    (hs : swapsWithSole [.Subscript (.Name x p1) j p2] e pos.line X.env = pure false) (hw : swappedStores [.Subscript (.Name x p1) j p2] e X.env = pure none) (h1 : (assignEach [.Subscript (.Name x p1) j p2] X.env).map (·.2) = [assign (.Subscript (.Name x p1) j p2) X.env]) :
    PS X (.Assign [.Subscript (.Name x p1) j p2] e pos) (TSv xa W (mPut i mj me)) := by
  refine (ps_asg he (pg_sub (pe_var hN hv hd hcd) hj set_list ha) hs hw h1).imp fun D σ H ⟨Oo, ι0, H0, ι, ow, ρ, h, f, p⟩ => ?_
  refine ⟨Oo, ι, ow, ρ, h, f.fr, (PostS.bs f p).imp fun r h1 H1 ι1 s1 c1 p1 v rv => ?_⟩
  obtain ⟨f1, p1⟩ := p1
  split at p1
  · rename_i r0 e0
    obtain ⟨v0, g1, g2⟩ := f1.fr.slot i _ e0
    cases g2 with
    | @ref _ a er =>
      refine ⟨.ref a, g1, ?_⟩
      refine ⟨Oo, ι1, ow, ρ, h1, f1.fr, (PostS.bs f1 p1).imp fun k h2 H2 ι2 s2 c2 p2 w rw2 => ?_⟩
      obtain ⟨f2, p2⟩ := p2
      split at p2
      · rename_i d n xs hk hx
        split at p2
        · rename_i m hm
          have er2 := s2.at er
          obtain ⟨vs, g3, g4⟩ := c2.at_ r0 a _ er2 hx
          have hw := rw2.vs c2
          rw [hk] at hw
          obtain rfl := hw.int
          have hmem : a ∈ ι2 := List.mem_iff_getElem?.mpr ⟨r0, er2⟩
          have sc : Step ι2 H2 ι2 (upd H2 a (.lst (vs.set m v))) := step_cell hmem g3
          refine ⟨a, vs, n, m, rfl, rfl, g3, by rw [g4.length]; exact hm, ?_⟩
          exact p2 σ _ ι2 ow ⟨f2.fr.chgCell hx er2 (DRs.set (rv.step s2) m g4), f2.st.trans sc, f.young⟩ (Hold.step sc)
        · exact p2.elim
      · exact p2.elim
  · exact p1.elim
end

/-! ### loops -/
theorem DRs.getV {ι : List Addr} {O : Addr → Prop} {H : Hp} : ∀ {vs : List V} {ds : List D} {i : Nat} {v : V}, DRs ι O H vs ds → vs[i]? = some v → ∃ d, ds[i]? = some d ∧ DR ι O H v d
  | _, _, _, _, .nil, e => by simp at e
  | _, _, 0, _, .cons a _, e => by simp at e; subst e; exact ⟨_, rfl, a⟩
  | _, _, i + 1, v, .cons _ b, e => by
    obtain ⟨d, h1, h2⟩ := DRs.getV (i := i) (v := v) b (by simpa using e)
    exact ⟨d, by simpa using h1, h2⟩
/-- what a walked thing yields: the items ds, while it lives; st: it lives through statements; S: lists that no one changes meanwhile -/
structure GI (st : Bool) (S : Addr → Prop) (Oo : Addr → Prop) (J : It) (ds : List D) (Live : List Addr → List (Option Addr) → Hp → Prop) : Prop where
  go : ∀ (i : Nat) ι ow H, Live ι ow H → i < ds.length → J.go i H
  stop : ∀ (i : Nat) ι ow H, Live ι ow H → i = ds.length → J.stop i H
  yld : ∀ (i : Nat) ι ow H x H', Live ι ow H → i < ds.length → (∀ a, Of Oo ι ow a → H a ≠ none) → J.yld i H x H' → Same H H' ∧ ∃ d, ds[i]? = some d ∧ DR ι (Of Oo ι ow) H' x d
  keep : ∀ ι ow H ι' ow' H', Live ι ow H → Hold Oo ι ow H ι' ow' H' → (st = false → ∀ a vs, S a → Rd H a (.lst vs) → Rd H' a (.lst vs)) → Live ι' ow' H'
def So (Oo : Addr → Prop) (ι : List Addr) (ow : List (Option Addr)) : Addr → Prop := fun a => (Oo a ∨ some a ∈ ow) ∧ a ∉ ι
abbrev IM := En → List Cell → Option (Res (List D))
def TIv (st : Bool) (xa : Nat → Addr) (W : WX) (m : IM) : TI := fun σ H R => ∃ Oo ι ow ρ h, FR Oo ι ow σ H ρ h ∧ Post xa W Oo ι ow σ H (fun ds _ ι' H' => ∀ J Live, GI st (So Oo ι' ow) Oo J ds Live → Live ι' ow H' → R J H') (m ρ h)
theorem _root_.L2.PI.imp {X : Cx} {tg e : Expr} {t t' : TI} (p : PI X tg e t) (h : ∀ σ H R, t' σ H R → t σ H R) : PI X tg e t' := ⟨fun pins s σ H R I q => p.run pins s σ H R I (h σ H R q)⟩
theorem _root_.L2.PI.or {X : Cx} {tg e : Expr} {t t' : TI} (p : PI X tg e t) (p' : PI X tg e t') : PI X tg e (fun σ H R => t σ H R ∨ t' σ H R) := ⟨fun pins s σ H R I q => q.elim (fun q => p.run pins s σ H R I q) fun q => p'.run pins s σ H R I q⟩
section
variable {K : PySem.W.Frag} {Oo S : Addr → Prop}
theorem gi_lst {st : Bool} {a : Addr} {ds : List D} : GI st S Oo (Itl K a) ds (fun ι ow H => DR ι (Of Oo ι ow) H (.ref a) (.lst ds)) where
  go := fun i ι ow H q hi => by
    cases q with
    | @lst _ vs _ r n q =>
      have hv : i < vs.length := by rw [q.length]; exact hi
      exact ⟨vs, vs[i], .inl (.inl r), List.getElem?_eq_getElem hv⟩
  stop := fun i ι ow H q hi => by
    cases q with
    | @lst _ vs _ r n q => exact ⟨vs, .inl (.inl r), by rw [q.length]; omega⟩
  yld := fun i ι ow H x H' q hi ho y => by
    obtain ⟨rfl, y⟩ := y
    cases q with
    | @lst _ vs _ r n q =>
      obtain ⟨d, h1, h2⟩ := q.getV (y vs (.inl (.inl r)))
      exact ⟨Same.refl _, d, h1, h2⟩
  keep := fun ι ow H ι' ow' H' q h _ => h _ _ q
theorem gi_tup {st : Bool} {a : Addr} {ds : List D} : GI st S Oo (Itt K a) ds (fun ι ow H => DR ι (Of Oo ι ow) H (.ref a) (.tup ds)) where
  go := fun i ι ow H q hi => by
    cases q with
    | @tup _ vs _ r q =>
      have hv : i < vs.length := by rw [q.length]; exact hi
      exact ⟨vs, vs[i], .inl (.inl r), List.getElem?_eq_getElem hv⟩
  stop := fun i ι ow H q hi => by
    cases q with
    | @tup _ vs _ r q => exact ⟨vs, .inl (.inl r), by rw [q.length]; omega⟩
  yld := fun i ι ow H x H' q hi ho y => by
    obtain ⟨rfl, y⟩ := y
    cases q with
    | @tup _ vs _ r q =>
      obtain ⟨d, h1, h2⟩ := q.getV (y vs (.inl (.inl r)))
      exact ⟨Same.refl _, d, h1, h2⟩
  keep := fun ι ow H ι' ow' H' q h _ => h _ _ q
theorem DRs.hold {ι ι' : List Addr} {ow ow' : List (Option Addr)} {H H' : Hp} (h : Hold Oo ι ow H ι' ow' H') : ∀ {vs : List V} {ds : List D}, DRs ι (Of Oo ι ow) H vs ds → DRs ι' (Of Oo ι' ow') H' vs ds
  | _, _, .nil => .nil
  | _, _, .cons a b => .cons (h _ _ a) (DRs.hold h b)
/-- a borrowed list -/
def BorL (Oo : Addr → Prop) (a : Addr) (ds : List D) (ι : List Addr) (ow : List (Option Addr)) (H : Hp) : Prop := ∃ vs, Rd H a (.lst vs) ∧ DRs ι (Of Oo ι ow) H vs ds
theorem gi_bor {a : Addr} {ds : List D} (hS : S a) : GI false S Oo (Itl K a) ds (BorL Oo a ds) where
  go := fun i ι ow H ⟨vs, r, q⟩ hi => by
    have hv : i < vs.length := by rw [q.length]; exact hi
    exact ⟨vs, vs[i], .inl r, List.getElem?_eq_getElem hv⟩
  stop := fun i ι ow H ⟨vs, r, q⟩ hi => ⟨vs, .inl r, by rw [q.length]; omega⟩
  yld := fun i ι ow H x H' ⟨vs, r, q⟩ hi ho y => by
    obtain ⟨rfl, y⟩ := y
    obtain ⟨d, h1, h2⟩ := q.getV (y vs (.inl r))
    exact ⟨Same.refl _, d, h1, h2⟩
  keep := fun ι ow H ι' ow' H' ⟨vs, r, q⟩ h k => ⟨vs, k rfl a vs hS r, q.hold h⟩
def rngD (lo : Int) (n : Nat) : List D := (List.range n).map fun (k : Nat) => D.int (lo + (k : Int))
theorem rngD_at {lo : Int} {n i : Nat} (h : i < n) : (rngD lo n)[i]? = some (.int (lo + (i : Int))) := by
  unfold rngD
  rw [List.getElem?_map, List.getElem?_range h]
  rfl
theorem gi_rng {st : Bool} {lo : Int} {n : Nat} : GI st S Oo (Itr lo n) (rngD lo n) (fun _ _ _ => True) where
  go := fun i ι ow H _ hi => by
    have : (rngD lo n).length = n := by simp [rngD]
    rw [this] at hi
    exact hi
  stop := fun i ι ow H _ hi => by
    have : (rngD lo n).length = n := by simp [rngD]
    rw [this] at hi
    exact Nat.le_of_eq hi.symm
  yld := fun i ι ow H x H' _ hi ho y => by
    obtain ⟨rfl, rfl⟩ := y
    have : (rngD lo n).length = n := by simp [rngD]
    rw [this] at hi
    exact ⟨Same.refl _, _, rngD_at hi, .int _⟩
  keep := fun _ _ _ _ _ _ _ _ _ => trivial
end
/-! ### walked things -/
def mIter (st : Bool) (e : EM) : IM := fun ρ h => bd (e ρ h) fun r h1 => match r with
  | .val (.lst ds) => ret ds h1
  | .val (.tup ds) => ret ds h1
  | .bor ds => if st = true then none else ret ds h1
  | _ => none
def mRng1 (a : EM) : IM := fun ρ h => bd (a ρ h) fun x h1 => match x with
  | .val (.int j) => if -(2 ^ 62) ≤ j ∧ j < 2 ^ 62 then ret (rngD 0 j.toNat) h1 else none
  | _ => none
def mRng2 (a b : EM) : IM := fun ρ h => bd (a ρ h) fun x h1 => bd (b ρ h1) fun y h2 => match x, y with
  | .val (.int i), .val (.int j) => if (-(2 ^ 62) ≤ i ∧ i < 2 ^ 62) ∧ -(2 ^ 62) ≤ j ∧ j < 2 ^ 62 then ret (rngD i (j - i).toNat) h2 else none
  | _, _ => none
section
variable {X : Cx} {xa : Nat → Addr} {W : WX} {pos p : Pos} {st : Bool} {tg : Expr}
theorem id_iter {e : Expr} {m : EM} (he : PE X e (TEv xa W m)) : PI X tg e (TIv st xa W (mIter st m)) := by
  refine (PI.or (pi_list he) (pi_tup he)).imp fun σ H R ⟨Oo, ι, ow, ρ, h, f, q⟩ => ?_
  have key : ∀ r h1, m ρ h = some (.ok r h1) → (∀ xs, r ≠ .val (.tup xs)) ∨ (∃ xs, r = .val (.tup xs)) := fun r h1 _ => by
    cases r with
    | bor xs => exact .inl fun xs z => nomatch z
    | val d => cases d with
      | tup xs => exact .inr ⟨xs, rfl⟩
      | _ => exact .inl fun xs z => nomatch z
  cases e0 : m ρ h with
  | none => unfold mIter at q; rw [e0] at q; exact q.elim
  | some res =>
    cases res with
    | exc c h1 =>
      left
      refine ⟨Oo, ι, ow, ρ, h, f, ?_⟩
      have q' := Post.bd q
      rw [e0] at q' ⊢
      exact q'
    | ok r h1 =>
      rcases key r h1 e0 with nt | ⟨xs, rfl⟩
      · left
        refine ⟨Oo, ι, ow, ρ, h, f, ?_⟩
        have q' := Post.bd q
        rw [e0] at q' ⊢
        intro H1 ι1 s1 c1 v rv
        have q1 := q' H1 ι1 s1 c1
        cases r with
        | val d =>
          cases d with
          | lst ds =>
            have rv' : DR ι1 (Of Oo ι1 ow) H1 v (.lst ds) := rv
            cases rv' with
            | @lst a vs _ r0 n0 q0 => exact ⟨a, rfl, ⟨vs, .inl (.inl r0)⟩, q1 H1 ι1 (Step.refl _ _) c1 _ _ gi_lst rv⟩
          | tup ds => exact absurd rfl (nt _)
          | _ => exact q1.elim
        | bor ds =>
          dsimp only at q1
          cases st with
          | true => rw [if_pos rfl] at q1; exact q1.elim
          | false =>
            rw [if_neg Bool.false_ne_true] at q1
            obtain ⟨a, vs, rfl, o1, n1, r1, d1⟩ := rv
            refine ⟨a, rfl, ⟨vs, .inl r1⟩, q1 H1 ι1 (Step.refl _ _) c1 _ _ (gi_bor ⟨?_, n1⟩) ⟨vs, r1, d1⟩⟩
            rcases o1 with z | z | z
            · exact .inl z
            · exact absurd z n1
            · exact .inr z
      · right
        refine ⟨Oo, ι, ow, ρ, h, f, ?_⟩
        have q' := Post.bd q
        rw [e0] at q' ⊢
        intro H1 ι1 s1 c1 v rv
        have q1 := q' H1 ι1 s1 c1
        have rv' : DR ι1 (Of Oo ι1 ow) H1 v (.tup xs) := rv
        cases rv' with
        | @tup a vs _ r0 q0 => exact ⟨a, rfl, ⟨vs, .inl (.inl r0)⟩, q1 H1 ι1 (Step.refl _ _) c1 _ _ gi_tup rv⟩
theorem id_rng1 {a : Expr} {ma : EM} (hg : Gl X "range") (hm : X.mg "range" = none) (ha : PE X a (TEv xa W ma)) (hs : starEach [a] X.env = (false, eval a X.env) :: starEach [] X.env) : PI X tg (.Call (.Name "range" p) [a] [] pos) (TIv st xa W (mRng1 ma)) := by
  refine (pi_range1 hg hm (pa_cons ha pa_nil hs) hs).imp fun σ H R ⟨Oo, ι, ow, ρ, h, f, q⟩ => ?_
  refine ⟨Oo, ι, ow, ρ, h, f, (Post.bd q).imp fun r h1 H1 ι1 s1 c1 p1 v rv => ?_⟩
  split at p1
  · rename_i j
    have rv' : DR ι1 (Of Oo ι1 ow) H1 v (.int j) := rv
    cases rv'
    split at p1
    · rename_i hl
      exact ⟨j, rfl, hl.1, hl.2, p1 H1 ι1 (Step.refl _ _) c1 _ _ gi_rng trivial⟩
    · exact p1.elim
  · exact p1.elim
theorem id_rng2 {a b : Expr} {ma mb : EM} (hg : Gl X "range") (hm : X.mg "range" = none) (ha : PE X a (TEv xa W ma)) (hb : PE X b (TEv xa W mb)) (hs2 : starEach [b] X.env = (false, eval b X.env) :: starEach [] X.env) (hs : starEach [a, b] X.env = (false, eval a X.env) :: starEach [b] X.env) : PI X tg (.Call (.Name "range" p) [a, b] [] pos) (TIv st xa W (mRng2 ma mb)) := by
  refine (pi_range2 hg hm (pa_cons ha (pa_cons hb pa_nil hs2) hs) (by rw [hs, hs2]; rfl) hs2).imp fun σ H R ⟨Oo, ι, ow, ρ, h, f, q⟩ => ?_
  refine ⟨Oo, ι, ow, ρ, h, f, (Post.bd q).imp fun r h1 H1 ι1 s1 c1 p1 v rv => ?_⟩
  refine ⟨Oo, ι1, ow, ρ, h1, f.step s1 c1, (Post.bd p1).imp fun r2 h2 H2 ι2 s2 c2 p2 v2 rv2 => ?_⟩
  split at p2
  · rename_i i j
    have rv' : DR ι1 (Of Oo ι1 ow) H1 v (.int i) := rv
    have rv2' : DR ι2 (Of Oo ι2 ow) H2 v2 (.int j) := rv2
    cases rv'
    cases rv2'
    split at p2
    · rename_i hl
      exact ⟨i, j, rfl, ⟨hl.1.1, hl.1.2, hl.2.1, hl.2.2⟩, p2 H2 ι2 (Step.refl _ _) c2 _ _ gi_rng trivial⟩
    · exact p2.elim
  · exact p2.elim
end
/-! ### for, while -/
def forD (t : Tg) (b : SM) : List D → SM
  | [], ρ, h => some (.next ρ h)
  | d :: ds, ρ, h => match t.set d ρ with
    | none => none
    | some ρ1 => match b ρ1 h with
      | some (.next ρ2 h2) => forD t b ds ρ2 h2
      | x => x
def mFor (i : IM) (t : Tg) (b : SM) : SM := fun ρ h => bs (i ρ h) fun ds h1 => forD t b ds ρ h1
def whileD (c : TM) (b : SM) : Nat → SM
  | 0, _, _ => none
  | n + 1, ρ, h => bs (c ρ h) fun k h1 => if k = true then match b ρ h1 with
      | some (.next ρ2 h2) => whileD c b n ρ2 h2
      | x => x
    else some (.next ρ h1)
section
variable {X : Cx} {xa : Nat → Addr} {W : WX} {pos : Pos} {tg : Expr}
theorem sd_for {iter : Expr} {body : List Stmt} {mi : IM} {t : Tg} {mb : SM} (hp : PassesOwn (model X.prog X.w) X.A X.env X.xe) (hc : X.calm = true) (hi : PI X tg iter (TIv true xa W mi)) (hg : PG X tg (TGv t)) (hb : PSs X body (TSv xa W mb))
    (hs : ∀ x, foldedSetIterable iter X.env x = pure x) : PS X (.For tg iter body [] pos) (TSv xa W (mFor mi t mb)) := by
  refine (ps_for hp hc hi hg hb hs).imp fun D σ H ⟨Oo, ι0, H0, ι, ow, ρ, h, f, p⟩ => ?_
  refine ⟨Oo, ι, ow, ρ, h, f.fr, (PostS.bs f p).imp fun ds h1 H1 ι1 s1 c1 p1 J Live g lv => ?_⟩
  obtain ⟨f1, p1⟩ := p1
  refine ⟨fun i m σ H => m = ds.length - i ∧ i ≤ ds.length ∧ ∃ ι ow ρ h, FRS Oo ι0 H0 ι ow σ H ρ h ∧ Live ι ow H ∧ PostS xa W Oo ι0 H0 ι ow H D (forD t mb (ds.drop i) ρ h),
    ⟨ds.length, by simp, Nat.zero_le _, ι1, ow, ρ, h1, f1, lv, p1⟩, ?_⟩
  rintro i m σ H ⟨rfl, hi, ι, ow, ρ, h, f, lv, p⟩
  by_cases hlt : i < ds.length
  · right
    refine ⟨g.go i ι ow H lv hlt, fun σ' H' => ∃ ι' ow' ρ' h', FRS Oo ι0 H0 ι' ow' σ' H' ρ' h' ∧ Live ι' ow' H' ∧ PostS xa W Oo ι0 H0 ι' ow' H' D (forD t mb (ds.drop (i + 1)) ρ' h'), fun σ' H' z => ⟨_, Nat.sub_lt_sub_left hlt (Nat.lt_succ_self i), rfl, hlt, z⟩, fun x H' y => ?_⟩
    obtain ⟨sm, d, hd, dr⟩ := g.yld i ι ow H x H' lv hlt f.fr.trkO y
    have e : ds.drop i = d :: ds.drop (i + 1) := by
      rw [List.drop_eq_getElem_cons hlt]
      rw [List.getElem?_eq_getElem hlt] at hd
      cases hd
      rfl
    rw [e] at p
    unfold forD at p
    cases et : t.set d ρ with
    | none => rw [et] at p; exact p.elim
    | some ρ1 =>
      rw [et] at p
      dsimp only at p
      have fs := f.step (Step.same sm) (f.fr.cells.same sm)
      have lv' : Live ι ow H' := g.keep _ _ _ _ _ _ lv (Hold.step (Step.same sm)) (fun z => by cases z)
      refine ⟨Oo, ι, ow, ρ, h, d, ρ1, fs.fr, dr, et, fun σ2 g2 _ _ => ?_⟩
      have lv2 : Live ι (wipeO ow t.is) H' := g.keep _ _ _ _ _ _ lv' (hold_wiped _) (fun z => by cases z)
      have hd2 : Hold Oo ι ow H ι (wipeO ow t.is) H' := (Hold.step (Step.same sm)).trans (hold_wiped _)
      refine ⟨Oo, ι0, H0, ι, wipeO ow t.is, ρ1, h, fs.wiped g2, ?_⟩
      cases eb : mb ρ1 h with
      | none => rw [eb] at p; exact p
      | some res =>
        rw [eb] at p
        cases res with
        | next ρ2 h2 => exact fun σ3 H3 ι3 ow3 f3 hd3 => ⟨ι3, ow3, ρ2, h2, f3, g.keep _ _ _ _ _ _ lv2 hd3 (fun z => by cases z), p.from (hd2.trans hd3)⟩
        | ret d h2 => exact p
        | exc c h2 => exact p
  · left
    have e : ds.drop i = [] := List.drop_of_length_le (by omega)
    rw [e] at p
    exact ⟨g.stop i ι ow H lv (by omega), p σ H ι ow f (Hold.refl _ _ _ _)⟩
theorem sd_while {c : Expr} {body : List Stmt} {mc : TM} {mb : SM} {n : Nat} (hp : PassesOwn (model X.prog X.w) X.A X.env X.xe) (hc : PT X c (TTv xa W mc)) (hb : PSs X body (TSv xa W mb)) : PS X (.While c body [] pos) (TSv xa W (whileD mc mb n)) := by
  refine (ps_while hp hc hb).imp fun D σ H ⟨Oo, ι0, H0, ι, ow, ρ, h, f, p⟩ => ?_
  refine ⟨fun n σ H => ∃ ι ow ρ h, FRS Oo ι0 H0 ι ow σ H ρ h ∧ PostS xa W Oo ι0 H0 ι ow H D (whileD mc mb n ρ h), ⟨n, ι, ow, ρ, h, f, p⟩, ?_⟩
  rintro n σ H ⟨ι, ow, ρ, h, f, p⟩
  cases n with
  | zero => exact p.elim
  | succ n =>
    refine ⟨Oo, ι, ow, ρ, h, f.fr, (PostS.bs f p).imp fun k h1 H1 ι1 s1 c1 p1 => ?_⟩
    obtain ⟨f1, p1⟩ := p1
    cases k with
    | false => rw [if_neg Bool.false_ne_true] at p1 ⊢; exact p1 σ H1 ι1 ow f1 (Hold.refl _ _ _ _)
    | true =>
      rw [if_pos rfl] at p1 ⊢
      refine ⟨fun σ' H' => ∃ ι ow ρ h, FRS Oo ι0 H0 ι ow σ' H' ρ h ∧ PostS xa W Oo ι0 H0 ι ow H' D (whileD mc mb n ρ h), fun σ' H' z => ⟨n, Nat.lt_succ_self n, z⟩, ?_⟩
      refine ⟨Oo, ι0, H0, ι1, ow, ρ, h1, f1, ?_⟩
      cases eb : mb ρ h1 with
      | none => rw [eb] at p1; exact p1
      | some res =>
        rw [eb] at p1
        cases res with
        | next ρ2 h2 => exact fun σ3 H3 ι3 ow3 f3 hd3 => ⟨ι3, ow3, ρ2, h2, f3, p1.from hd3⟩
        | ret d h2 => exact p1
        | exc c h2 => exact p1
end
end Kb
namespace Kb
open PySem L2

/-! ### comprehensions -/
def bx {α β : Type} (x : Option (Res α)) (f : α → List Cell → Option (Res β)) : Option (Res β) :=
  match x with
  | some (.ok a h) => f a h
  | _ => none
def notOwn (ρ : En) (i : Nat) : Bool :=
  match ρ[i]? with
  | some (some (.own _)) => false
  | some _ => true
  | none => false
def compD (t : Tg) (mt : TM) (me : EM) (ρ : En) : List D → List Cell → Option (Res (List D))
  | [], h => ret [] h
  | d :: ds, h => match t.set d ρ with
    | none => none
    | some ρ1 => bx (mt ρ1 h) fun k h1 => if k = true then bx (me ρ1 h1) fun r h2 => match r with
        | .val e => bx (compD t mt me ρ ds h2) fun es h3 => ret (e :: es) h3
        | .bor _ => none
      else compD t mt me ρ ds h1
def mComp (vs : List Nat) (mi : IM) (t : Tg) (mt : TM) (me : EM) : EM := fun ρ h =>
  if vs.all (notOwn ρ) = true then bd (mi ρ h) fun ds h1 => if ds.length ≤ sizeLine then bx (compD t mt me (wipeO ρ vs) ds h1) fun acc h2 => ret (.val (.lst acc)) h2 else none
  else none
theorem wipeO_len {α : Type} : ∀ (is : List Nat) (l : List (Option α)), (wipeO l is).length = l.length
  | [], _ => rfl
  | i :: is, l => by unfold wipeO; rw [wipeO_len is, List.length_set]
theorem wipeO_none {α : Type} : ∀ (is : List Nat) (l : List (Option α)) (j : Nat), j ∈ is → j < l.length → (wipeO l is)[j]? = some none
  | i :: is, l, j, h, hl => by
    unfold wipeO
    by_cases hm : j ∈ is
    · exact wipeO_none is _ j hm (by rw [List.length_set]; exact hl)
    · have hj : j = i := by
        rcases List.mem_cons.mp h with e | e
        · exact e
        · exact absurd e hm
      subst hj
      have keep : ∀ (is : List Nat) (l : List (Option α)), j ∉ is → (wipeO l is)[j]? = l[j]? := by
        intro is
        induction is with
        | nil => intro l _; rfl
        | cons k is ih =>
          intro l hk
          unfold wipeO
          rw [ih _ (fun z => hk (List.mem_cons_of_mem _ z)), List.getElem?_set_ne (fun z => hk (by rw [z]; exact List.mem_cons_self))]
      rw [keep is _ hm, List.getElem?_set_self hl]
theorem wipeO_keep {α : Type} : ∀ (is : List Nat) (l : List (Option α)) (j : Nat), j ∉ is → (wipeO l is)[j]? = l[j]?
  | [], _, _, _ => rfl
  | k :: is, l, j, h => by
    unfold wipeO
    rw [wipeO_keep is _ j (fun z => h (List.mem_cons_of_mem _ z)), List.getElem?_set_ne (fun z => h (by rw [z]; exact List.mem_cons_self))]
theorem wipeO_id {α : Type} : ∀ (is : List Nat) (l : List (Option α)), (∀ i ∈ is, l[i]? = some none) → wipeO l is = l
  | [], _, _ => rfl
  | k :: is, l, h => by
    unfold wipeO
    have e : l.set k none = l := by
      apply List.ext_getElem?
      intro j
      by_cases hj : k = j
      · subst hj
        have g := h k List.mem_cons_self
        rw [List.getElem?_set_self (List.getElem?_eq_some_iff.mp g).1, g]
      · rw [List.getElem?_set_ne hj]
    rw [e]
    exact wipeO_id is l fun i hi => h i (List.mem_cons_of_mem _ hi)
theorem wipe_at (σ : St) : ∀ (vs : List Nat) (j : Nat), (wipe σ vs)[j]? = if j ∈ vs ∧ j < σ.length then some none else σ[j]?
  | [], j => by simp [wipe]
  | v :: vs, j => by
    unfold wipe
    by_cases hj : v = j
    · subst hj
      by_cases hl : v < σ.length
      · rw [List.getElem?_set_self (by rw [wipe_length]; exact hl), if_pos ⟨List.mem_cons_self, hl⟩]
      · rw [if_neg (fun z => hl z.2), List.getElem?_eq_none (by rw [List.length_set, wipe_length]; omega), List.getElem?_eq_none (by omega)]
    · rw [List.getElem?_set_ne hj, wipe_at σ vs j]
      by_cases hm : j ∈ vs ∧ j < σ.length
      · rw [if_pos hm, if_pos ⟨List.mem_cons_of_mem _ hm.1, hm.2⟩]
      · rw [if_neg hm, if_neg (fun z => hm ⟨(List.mem_cons.mp z.1).resolve_left (fun e => hj e.symm), z.2⟩)]
theorem wipe_eq {σ σ' : St} {is vs : List Nat} (hs : ∀ i ∈ is, i ∈ vs) (hl : σ'.length = (wipe σ vs).length) (h : ∀ j, j ∉ is → σ'[j]? = (wipe σ vs)[j]?) : wipe σ' vs = wipe σ vs := by
  apply List.ext_getElem?
  intro j
  rw [wipe_length] at hl
  rw [wipe_at, wipe_at, hl]
  by_cases hj : j ∈ vs
  · by_cases hl2 : j < σ.length
    · rw [if_pos ⟨hj, hl2⟩, if_pos ⟨hj, hl2⟩]
    · rw [if_neg (fun z => hl2 z.2), if_neg (fun z => hl2 z.2), List.getElem?_eq_none (by omega), List.getElem?_eq_none (by omega)]
  · rw [if_neg (fun z => hj z.1), if_neg (fun z => hj z.1), h j (fun z => hj (hs j z)), wipe_at, if_neg (fun z => hj z.1)]
theorem notOwn_of {ρ : En} {i : Nat} (h : notOwn ρ i = true) : i < ρ.length ∧ ∀ xs, ρ[i]? ≠ some (some (.own xs)) := by
  unfold notOwn at h
  split at h
  · cases h
  · rename_i z e hn
    exact ⟨(List.getElem?_eq_some_iff.mp hn).1, fun xs q => by rw [q] at hn; cases hn; exact e xs rfl⟩
  · cases h
/-- a list that is being made -/
theorem FR.push {Oo : Addr → Prop} {ι : List Addr} {ow : List (Option Addr)} {σ : St} {H : Hp} {ρ : En} {h : List Cell} (f : FR Oo ι ow σ H ρ h) {p : Addr} (hp : H p = none) : FR Oo ι (ow ++ [some p]) σ (upd H p (.lst [])) ρ h := by
  have np : ¬ Of Oo ι ow p := fun z => f.trkO p z hp
  have hO : ∀ a, Of Oo ι (ow ++ [some p]) a → Of Oo ι ow a ∨ H a = none := fun a z => by
    rcases z with z | z | z
    · exact .inl (.inl z)
    · exact .inl (.inr (.inl z))
    · rcases List.mem_append.mp z with z | z
      · exact .inl (.inr (.inr z))
      · cases List.mem_singleton.mp z; exact .inr hp
  have hl : ∀ vs, H p ≠ some (.tup vs) := fun vs z => by rw [hp] at z; cases z
  have n2 : ∀ j : Nat, ow[j]? ≠ some (some p) := fun j z => np (.inr (.inr (List.mem_iff_getElem?.mpr ⟨j, z⟩)))
  have at_ : ∀ (j : Nat) (a : Addr), (ow ++ [some p])[j]? = some (some a) → ow[j]? = some (some a) ∨ (j = ow.length ∧ a = p) := fun j a e => by
    by_cases hj : j < ow.length
    · rw [List.getElem?_append_left hj] at e; exact .inl e
    · have hj' : j = ow.length := by
        have := (List.getElem?_eq_some_iff.mp e).1
        rw [List.length_append] at this
        simp at this
        omega
      subst hj'
      rw [List.getElem?_append_right (Nat.le_refl _)] at e
      simp at e
      exact .inr ⟨rfl, e.symm⟩
  refine ⟨f.len, Nat.le_trans f.lenO (by rw [List.length_append]; omega), fun j sv e => ?_, fun j k a h1 h2 => ?_, fun j a h1 => ?_, fun j a hj h1 => ?_, f.cells.wr (.inr hp) hO hl fun z => np (.inr (.inl z)), f.dis, fun a z => ?_⟩
  · have hj : j < ow.length := by
      have := (List.getElem?_eq_some_iff.mp e).1
      rw [f.len] at this
      exact Nat.lt_of_lt_of_le this f.lenO
    exact (f.slot j sv e).wr rfl (List.getElem?_append_left hj) (.inr hp) hO hl (fun z => np (.inl z)) (n2 j)
  · rcases at_ j a h1 with e1 | ⟨e1, e2⟩ <;> rcases at_ k a h2 with e3 | ⟨e3, e4⟩
    · exact f.inj j k a e1 e3
    · subst e4; exact absurd e1 (n2 j)
    · subst e2; exact absurd e3 (n2 k)
    · rw [e1, e3]
  · rcases at_ j a h1 with e1 | ⟨e1, e2⟩
    · obtain ⟨g1, g2, ws, g3⟩ := f.own j a e1
      exact ⟨g1, g2, ws, by rw [upd_ne (fun z => by rw [z, hp] at g3; cases g3)]; exact g3⟩
    · subst e2
      exact ⟨fun z => np (.inl z), fun z => np (.inr (.inl z)), [], upd_same⟩
  · rcases at_ j a h1 with e1 | ⟨e1, e2⟩
    · exact f.real j a hj e1
    · rw [f.len] at hj
      have := f.lenO
      omega
  · have := f.trk a z
    rw [upd_ne (fun e => by rw [e] at this; exact this hp)]
    exact this
/-- .. it grows -/
theorem FR.grow {Oo : Addr → Prop} {ι : List Addr} {ow : List (Option Addr)} {σ : St} {H : Hp} {ρ : En} {h : List Cell} {p : Addr} (f : FR Oo ι (ow ++ [some p]) σ H ρ h) (hlo : σ.length ≤ ow.length) (vs : List V) : FR Oo ι (ow ++ [some p]) σ (upd H p (.lst vs)) ρ h := by
  have hp : (ow ++ [some p])[ow.length]? = some (some p) := by rw [List.getElem?_append_right (Nat.le_refl _)]; simp
  obtain ⟨n1, n3, ws, hH⟩ := f.own _ p hp
  have inO : Of Oo ι (ow ++ [some p]) p := .inr (.inr (List.mem_append_right _ List.mem_cons_self))
  have hl : ∀ vs, H p ≠ some (.tup vs) := fun vs z => by rw [hH] at z; cases z
  refine ⟨f.len, f.lenO, fun j sv e => (f.slot j sv e).wr rfl rfl (.inl inO) (fun _ z => .inl z) hl n1 fun z => ?_, f.inj, fun j a h1 => ?_, f.real, f.cells.wr (.inl inO) (fun _ z => .inl z) hl n3, f.dis, fun a z => ?_⟩
  · have := f.inj j ow.length p z hp
    have hj := (List.getElem?_eq_some_iff.mp e).1
    rw [f.len] at hj
    omega
  · obtain ⟨g1, g2, us, g3⟩ := f.own j a h1
    refine ⟨g1, g2, ?_⟩
    by_cases e : a = p
    · exact ⟨vs, by rw [e]; exact upd_same⟩
    · exact ⟨us, by rw [upd_ne e]; exact g3⟩
  · have := f.trk a z
    by_cases e : a = p
    · rw [e, upd_same]; simp
    · rw [upd_ne e]; exact this
theorem FR.wipe {Oo : Addr → Prop} {ι : List Addr} {ow : List (Option Addr)} {σ : St} {H : Hp} {ρ : En} {h : List Cell} (f : FR Oo ι ow σ H ρ h) {vs : List Nat} (hv : ∀ i ∈ vs, notOwn ρ i = true) : FR Oo ι ow (L2.wipe σ vs) H (wipeO ρ vs) h where
  len := by rw [wipeO_len, wipe_length]; exact f.len
  lenO := by rw [wipe_length]; exact f.lenO
  slot := fun j sv e => by
    have e' := wipeO_at e
    have hj : j ∉ vs := fun z => by
      rw [wipeO_none vs ρ j z (notOwn_of (hv j z)).1] at e
      cases e
    exact (f.slot j sv e').less (by rw [wipe_at, if_neg (fun z => hj z.1)]) rfl fun _ z => z
  inj := f.inj
  own := f.own
  real := fun j a hj e => by
    rw [wipeO_len] at hj
    obtain ⟨xs, g⟩ := f.real j a hj e
    have hj : j ∉ vs := fun z => (notOwn_of (hv j z)).2 xs g
    exact ⟨xs, by rw [wipeO_keep vs ρ j hj]; exact g⟩
  cells := f.cells
  dis := f.dis
  trk := f.trk
abbrev W0 : WX := fun _ _ _ _ => False
section
variable {xa : Nat → Addr} {W : WX}
theorem tLc_of {mi : IM} {t : Tg} {mt : TM} {me : EM} {vs : List Nat} (hs : ∀ i ∈ t.is, i ∈ vs) : ∀ σ H Q, TEv xa W (mComp vs mi t mt me) σ H Q → tLc (TIv false xa W mi) (TGv t) (TTv xa W0 mt) (TEv xa W0 me) vs σ H Q := by
  intro σ H Q ⟨Oo, ι, ow, ρ, h, f, p⟩
  unfold mComp at p
  by_cases hno : vs.all (notOwn ρ) = true
  · rw [if_pos hno] at p
    have hno' : ∀ i ∈ vs, notOwn ρ i = true := List.all_eq_true.mp hno
    refine ⟨Oo, ι, ow, ρ, h, f, (Post.bd p).imp fun ds h1 H1 ι1 s1 c1 p1 J Live g lv D hD => ?_⟩
    by_cases hsz : ds.length ≤ sizeLine
    · rw [if_pos hsz] at p1
      have e0 : (bx (compD t mt me (wipeO ρ vs) ds h1) fun acc h2 => ret (RV.val (.lst acc)) h2) = bd (bx (compD t mt me (wipeO ρ vs) ds h1) fun es h' => ret es h') fun acc h2 => ret (.val (.lst acc)) h2 := by
        cases compD t mt me (wipeO ρ vs) ds h1 with
        | none => rfl
        | some r => cases r <;> rfl
      rw [e0] at p1
      obtain ⟨R, hR⟩ : ∃ R, (bx (compD t mt me (wipeO ρ vs) ds h1) fun es h' => ret es h') = R := ⟨_, rfl⟩
      rw [hR] at p1
      have f1 := f.step s1 c1
      have hlo : σ.length ≤ ow.length := f.lenO
      have trS : ∀ a, So Oo ι1 ow a → H1 a ≠ none := fun a z => f1.trkO a (z.1.elim .inl fun z => .inr (.inr z))
      refine ⟨fun i m H => m = ds.length - i ∧ i ≤ ds.length ∧ ∃ ι h vacc acc, FR Oo ι (ow ++ [some D]) σ H ρ h ∧ Live ι (ow ++ [some D]) H ∧ H D = some (.lst vacc) ∧ DRs ι (Of Oo ι (ow ++ [some D])) H vacc acc ∧ acc.length ≤ i ∧ Step ι1 H1 ι H ∧
          bx (compD t mt me (wipeO ρ vs) (ds.drop i) h) (fun es h' => ret (acc ++ es) h') = R,
        ⟨ds.length, by simp, Nat.zero_le _, ι1, h1, [], [], f1.push hD, ?_, upd_same, .nil, Nat.zero_le _, Step.same (same_new hD), ?_⟩, ?_⟩
      · refine g.keep _ _ _ _ _ _ lv (fun v d q => q.wr (.inr hD) (fun a z => ?_) fun vs z => by rw [hD] at z; cases z) fun _ a us sa r => ?_
        · rcases z with z | z | z
          · exact .inl (.inl z)
          · exact .inl (.inr (.inl z))
          · rcases List.mem_append.mp z with z | z
            · exact .inl (.inr (.inr z))
            · cases List.mem_singleton.mp z; exact .inr hD
        · have ne : a ≠ D := fun z => by rw [z] at sa; exact trS D sa hD
          rcases r with r | ⟨o, r⟩
          · exact .inl (by rw [upd_ne ne]; exact r)
          · exact .inr ⟨o, by rw [upd_ne ne]; exact r⟩
      · rw [List.drop_zero, ← hR]
        rfl
      · rintro i m H ⟨rfl, hi, ι, h, vacc, acc, f, lv, hHD, dacc, hacc, sb, eq⟩
        by_cases hlt : i < ds.length
        · right
          refine ⟨g.go i ι _ H lv hlt, fun H' => ∃ ι h vacc acc, FR Oo ι (ow ++ [some D]) σ H' ρ h ∧ Live ι (ow ++ [some D]) H' ∧ H' D = some (.lst vacc) ∧ DRs ι (Of Oo ι (ow ++ [some D])) H' vacc acc ∧ acc.length ≤ i + 1 ∧ Step ι1 H1 ι H' ∧
            bx (compD t mt me (wipeO ρ vs) (ds.drop (i + 1)) h) (fun es h' => ret (acc ++ es) h') = R, fun H' z => ⟨_, Nat.sub_lt_sub_left hlt (Nat.lt_succ_self i), rfl, hlt, z⟩, fun x H' y => ?_⟩
          obtain ⟨sm, d, hd, dr⟩ := g.yld i ι _ H x H' lv hlt f.trkO y
          have e : ds.drop i = d :: ds.drop (i + 1) := by
            rw [List.drop_eq_getElem_cons hlt]
            rw [List.getElem?_eq_getElem hlt] at hd
            cases hd
            rfl
          rw [e] at eq
          unfold compD at eq
          cases et : t.set d (wipeO ρ vs) with
          | none =>
            rw [et] at eq
            rw [← eq] at p1
            exact p1.elim
          | some ρ1 =>
            rw [et] at eq
            dsimp only at eq
            have fs := f.same sm
            have lvs : Live ι (ow ++ [some D]) H' := g.keep _ _ _ _ _ _ lv (Hold.step (Step.same sm)) fun _ a us sa r => by
              rcases r with r | ⟨o, r⟩
              · exact .inl (sm _ _ r)
              · exact .inr ⟨o, sm _ _ r⟩
            have wid : wipeO (ow ++ [some D]) t.is = ow ++ [some D] := wipeO_id _ _ fun j hj => by
              obtain ⟨l1, n1⟩ := notOwn_of (hno' j (hs j hj))
              have l2 : j < ow.length := by rw [f.len] at l1; omega
              cases q : (ow ++ [some D])[j]? with
              | none => rw [List.getElem?_append_left l2] at q; rw [List.getElem?_eq_getElem l2] at q; cases q
              | some o =>
                cases o with
                | none => rfl
                | some a =>
                  obtain ⟨xs, g⟩ := f.real j a l1 q
                  exact absurd g (n1 xs)
            refine ⟨Oo, ι, ow ++ [some D], wipeO ρ vs, h, d, ρ1, fs.wipe hno', dr, et, fun σ2 g2 fr2 l2 => ⟨wipe_eq hs l2 fr2, ?_⟩⟩
            rw [wid] at g2
            cases ek : mt ρ1 h with
            | none => rw [ek] at eq; rw [← eq] at p1; exact p1.elim
            | some rk =>
              cases rk with
              | exc c hc => rw [ek] at eq; rw [← eq] at p1; exact p1.elim
              | ok k h3 =>
                rw [ek] at eq
                refine ⟨Oo, ι, ow ++ [some D], ρ1, h, g2, ?_⟩
                rw [ek]
                intro H3 ι3 s3 c3
                have f3 := fs.step s3 c3
                have nD : D ∉ ι := (f.own ow.length D (by rw [List.getElem?_append_right (Nat.le_refl _)]; simp)).2.1
                have hHD3 := s3.keep D _ (sm _ _ hHD) (.inl nD)
                have dacc3 := (dacc.same sm).step s3
                have sb3 := (sb.trans (Step.same sm)).trans s3
                have lv3 : Live ι3 (ow ++ [some D]) H3 := g.keep _ _ _ _ _ _ lvs (Hold.step s3) fun _ a us sa r => s3.rd r (.inl fun z => sa.2 (sb.new (trS a sa) z))
                cases k with
                | false =>
                  dsimp only
                  rw [if_neg Bool.false_ne_true]
                  exact ⟨ι3, h3, vacc, acc, f3, lv3, hHD3, dacc3, Nat.le_succ_of_le hacc, sb3, eq⟩
                | true =>
                  dsimp only
                  rw [if_pos rfl]
                  change bx (bx (me ρ1 h3) _) _ = _ at eq
                  cases ee : me ρ1 h3 with
                  | none => rw [ee] at eq; rw [← eq] at p1; exact p1.elim
                  | some re =>
                    cases re with
                    | exc c hc => rw [ee] at eq; rw [← eq] at p1; exact p1.elim
                    | ok r h4 =>
                      rw [ee] at eq
                      have g3 := g2.step s3 c3
                      refine ⟨Oo, ι3, ow ++ [some D], ρ1, h3, g3, ?_⟩
                      rw [ee]
                      intro H4 ι4 s4 c4 y ry
                      cases r with
                      | bor xs => change bx none _ = _ at eq; rw [← eq] at p1; exact p1.elim
                      | val e =>
                        have f4 := f3.step s4 c4
                        have nD4 : D ∉ ι3 := (f3.own ow.length D (by rw [List.getElem?_append_right (Nat.le_refl _)]; simp)).2.1
                        have hHD4 := s4.keep D _ hHD3 (.inl nD4)
                        have dacc4 := dacc3.step s4
                        have sb4 := sb3.trans s4
                        have lv4 : Live ι4 (ow ++ [some D]) H4 := g.keep _ _ _ _ _ _ lv3 (Hold.step s4) fun _ a us sa r => s4.rd r (.inl fun z => sa.2 (sb3.new (trS a sa) z))
                        have inO : Of Oo ι4 (ow ++ [some D]) D := .inr (.inr (List.mem_append_right _ List.mem_cons_self))
                        have hl : ∀ vs, H4 D ≠ some (.tup vs) := fun vs z => by rw [hHD4] at z; cases z
                        refine ⟨vacc, hHD4, by rw [dacc4.length]; omega, ι4, h4, vacc ++ [y], acc ++ [e], f4.grow hlo _, ?_, upd_same, (dacc4.append (.cons ry .nil)).wr (.inl inO) (fun _ z => .inl z) hl, by rw [List.length_append]; simp; exact hacc, ?_, ?_⟩
                        · refine g.keep _ _ _ _ _ _ lv4 (fun v d q => q.wr (.inl inO) (fun _ z => .inl z) hl) fun _ a us sa r => ?_
                          have ne : a ≠ D := fun z => by rw [z] at sa; exact trS D sa hD
                          rcases r with r | ⟨o, r⟩
                          · exact .inl (by rw [upd_ne ne]; exact r)
                          · exact .inr ⟨o, by rw [upd_ne ne]; exact r⟩
                        · refine ⟨sb4.pre, fun a o e z => ?_, fun a z => ?_⟩
                          · rw [upd_ne (fun q => by rw [q, hD] at e; cases e)]
                            exact sb4.keep a o e z
                          · rw [upd_ne (fun q => by rw [q] at z; exact z hD)]
                            exact sb4.dom a z
                        · rw [← eq]
                          change _ = bx (bx (compD t mt me (wipeO ρ vs) (ds.drop (i + 1)) h4) fun es h3 => ret (e :: es) h3) (fun es h' => ret (acc ++ es) h')
                          cases compD t mt me (wipeO ρ vs) (ds.drop (i + 1)) h4 with
                          | none => rfl
                          | some r =>
                            cases r with
                            | exc c hc => rfl
                            | ok es hh =>
                              show ret (acc ++ [e] ++ es) hh = ret (acc ++ (e :: es)) hh
                              rw [List.append_assoc]
                              rfl
        · left
          have e : ds.drop i = [] := List.drop_of_length_le (by omega)
          rw [e] at eq
          have eq' : R = ret acc h := by rw [← eq]; show ret (acc ++ []) h = _; rw [List.append_nil]
          rw [eq'] at p1
          refine ⟨g.stop i ι _ H lv (by omega), ?_⟩
          have hp : (ow ++ [some D])[ow.length]? = some (some D) := by rw [List.getElem?_append_right (Nat.le_refl _)]; simp
          obtain ⟨n1, n2, _⟩ := f.own _ D hp
          have sub : ∀ a, Of Oo ι ow a → Of Oo ι (ow ++ [some D]) a := fun a z => by
            rcases z with z | z | z
            · exact .inl z
            · exact .inr (.inl z)
            · exact .inr (.inr (List.mem_append_left _ z))
          refine p1 H ι sb (f.cells.less sub) (.ref D) (.lst hHD (fun z => ?_) (dacc.less sub))
          rcases z with z | z | z
          · exact n1 z
          · exact n2 z
          · obtain ⟨j, hj⟩ := List.mem_iff_getElem?.mp z
            have hjl := (List.getElem?_eq_some_iff.mp hj).1
            have := f.inj j ow.length D (by rw [List.getElem?_append_left hjl]; exact hj) hp
            omega
    · rw [if_neg hsz] at p1
      exact p1.elim
  · rw [if_neg hno] at p
    exact p.elim
end
end Kb
namespace Kb
open PySem L2

section
variable {X : Cx} {xa : Nat → Addr} {W : WX} {pos : Pos}
/-! ### comprehensions as expressions -/
theorem pd_lc {elt tg iter : Expr} {ifs : List Expr} {scope : Scope} {own : List (Str × Nat)} {mi : IM} {t : Tg} {mt : TM} {me : EM} (hc : X.calm = true) (hN : X.N.Nodup) (hi : PI X tg iter (TIv false xa W mi)) (ok : BlkOk X.N X.env.scope scope own)
    (hg : ∀ (s : Shared) (H : Hp) (C : Addr) (cl : List (Str × Addr)) (fp : List Addr), PG (X.blk s H scope (compEnvC scope cl C X.env) fp) tg (TGv t)) (ht : ∀ (s : Shared) (H : Hp) (C : Addr) (cl : List (Str × Addr)) (fp : List Addr), PTs (X.blk s H scope (compEnvC scope cl C X.env) fp) ifs (TTv xa W0 mt))
    (he : ∀ (s : Shared) (H : Hp) (C : Addr) (cl : List (Str × Addr)) (fp : List Addr), PE (X.blk s H scope (compEnvC scope cl C X.env) fp) elt (TEv xa W0 me)) (hs : ∀ x, foldedSetIterable iter X.env x = pure x) (hsub : ∀ i ∈ t.is, i ∈ own.map (·.2)) :
    PE X (.ListComp elt [⟨tg, iter, ifs, 0⟩] scope pos) (TEv xa W (mComp (own.map (·.2)) mi t mt me)) := (pe_lc hc hN hi ok hg ht he hs).imp (tLc_of hsub)
theorem sd_setLc {i : Nat} {y : Str} {py spos : Pos} {elt tg iter : Expr} {ifs : List Expr} {scope : Scope} {own : List (Str × Nat)} {mi : IM} {t : Tg} {mt : TM} {me : EM} (hc : X.calm = true) (hN : X.N.Nodup) (hy : X.N[i]? = some y) (hyl : X.env.scope.names.lookup y = some .local)
    (hsw : swapsWith (.ListComp elt [⟨tg, iter, ifs, 0⟩] scope pos) (some (.Name y py)) spos.line X.env = pure true) (hi : PI X tg iter (TIv false xa W mi)) (ok : BlkOk X.N X.env.scope scope own)
    (hg : ∀ (s : Shared) (H : Hp) (C : Addr) (cl : List (Str × Addr)) (fp : List Addr), PG (X.blk s H scope (compEnvC scope cl C X.env) fp) tg (TGv t)) (ht : ∀ (s : Shared) (H : Hp) (C : Addr) (cl : List (Str × Addr)) (fp : List Addr), PTs (X.blk s H scope (compEnvC scope cl C X.env) fp) ifs (TTv xa W0 mt))
    (he : ∀ (s : Shared) (H : Hp) (C : Addr) (cl : List (Str × Addr)) (fp : List Addr), PE (X.blk s H scope (compEnvC scope cl C X.env) fp) elt (TEv xa W0 me)) (hs : ∀ x, foldedSetIterable iter X.env x = pure x) (hsub : ∀ i ∈ t.is, i ∈ own.map (·.2)) :
    PS X (.Assign [.Name y py] (.ListComp elt [⟨tg, iter, ifs, 0⟩] scope pos) spos) (TSv xa W (mSet i (mComp (own.map (·.2)) mi t mt me))) :=
  (ps_setLc hc hN hy hyl hsw hi ok hg ht he hs).imp fun D σ H h => tLc_of hsub σ H _ (tAsg_set D σ H h)
def mYes : TM := fun _ h => ret true h
theorem td_yes : PTs X [] (TTv xa W mYes) := by
  refine ⟨fun pins s σ H Q I h => pts_nil.run pins s σ H Q I ?_⟩
  obtain ⟨Oo, ι, ow, ρ, hh, f, p⟩ := h
  exact p H ι (Step.refl _ _) f.cells
theorem td_one {c : Expr} {m : TM} (h : PT X c (TTv xa W m)) : PTs X [c] (TTv xa W m) := pts_one h

/-! ### x += e -/
def mAug (i : Nat) (e : EM) : SM := fun ρ h => match ρ[i]? with
  | some (some (.val (.int a))) => bs (e ρ h) fun r h1 => match r with
    | .val (.int b) => some (.next (ρ.set i (some (.val (.int (a + b))))) h1)
    | _ => none
  | _ => none
theorem sd_aug {i : Nat} {x : Str} {e : Expr} {m : EM} {pos' : Pos} (hN : X.N.Nodup) (hi : X.N[i]? = some x) (hx : Loc X.env.scope x) (he : PE X e (TEv xa W m)) (hf : X.fn x = true ∨ X.env.scope.names.lookup x = some .local) : PS X (.AugAssign (.Name x pos') .Add e pos) (TSv xa W (mAug i m)) := by
  refine (ps_aug hN hi hx he ip_add hf).imp fun D σ H ⟨Oo, ι0, H0, ι, ow, ρ, h, f, p⟩ => ?_
  unfold mAug at p
  split at p
  · rename_i a e0
    obtain ⟨v, g1, g2⟩ := f.fr.slot i _ e0
    cases g2
    have hil : i < σ.length := by rw [← f.fr.len]; exact (List.getElem?_eq_some_iff.mp e0).1
    refine ⟨.int a, g1, Oo, ι, ow, ρ, h, f.fr, (PostS.bs f p).imp fun r h1 H1 ι1 s1 c1 p1 v rv => ?_⟩
    obtain ⟨f1, p1⟩ := p1
    split at p1
    · rename_i b
      have rv' : DR ι1 (Of Oo ι1 ow) H1 v (.int b) := rv
      cases rv'
      exact ⟨a, b, rfl, rfl, p1 _ _ _ _ (f1.set hil (.int _)) (hold_set i)⟩
    · exact p1.elim
  · exact p.elim

/-! ### a, b = x, y -/
def mPar (is : List Nat) (as : AM) : SM := fun ρ h => bs (as ρ h) fun rs h1 => match allVal rs with
  | some ds => match setAll is ds ρ with
    | some ρ' => some (.next ρ' h1)
    | none => none
  | none => none
theorem FRS.setAll2 {Oo : Addr → Prop} {ι0 ι : List Addr} {H0 H : Hp} {ow : List (Option Addr)} {σ : St} {ρ ρ' : En} {h : List Cell} (f : FRS Oo ι0 H0 ι ow σ H ρ h) {i j : Nat} {v w : V} {ds : List D} (q : DRs ι (Of Oo ι ow) H [v, w] ds) (e : setAll [i, j] ds ρ = some ρ') :
    FRS Oo ι0 H0 ι ((ow.set i none).set j none) ((σ.set i (some v)).set j (some w)) H ρ' h := by
  cases q with
  | cons a b => cases b with
    | cons b c => cases c; exact (by
      simp only [setAll] at e
      split at e
      · rename_i hi
        split at e
        · rename_i hj
          cases e
          have f1 := f.set (i := i) (by rw [← f.fr.len]; exact hi) a
          exact f1.set (i := j) (by rw [← f1.fr.len]; exact hj) (b.less fun a => of_set)
        · cases e
      · cases e)
theorem sd_par {i j : Nat} {x y : Str} {a b : Expr} {ms : AM} {px py pt : Pos} {kt k2 pt2} (hc : X.calm = true) (hN : X.N.Nodup) (hi : X.N[i]? = some x) (hj : X.N[j]? = some y) (hij : i ≠ j)
    (hx : X.env.scope.names.lookup x = some .local) (hy : X.env.scope.names.lookup y = some .local) (ha : PA X [a, b] (TAv xa W ms))
    (hw : swappedStores [.Tuple [.Name x px, .Name y py] kt pt] (.Tuple [a, b] k2 pt2) X.env = pure (some [x, y])) :
    PS X (.Assign [.Tuple [.Name x px, .Name y py] kt pt] (.Tuple [a, b] k2 pt2) pos) (TSv xa W (mPar [i, j] ms)) := by
  refine (ps_par hc hN hi hj hij hx hy ha hw).imp fun D σ H ⟨Oo, ι0, H0, ι, ow, ρ, h, f, p⟩ => ?_
  refine ⟨Oo, ι, ow, ρ, h, f.fr, (PostS.bs f p).imp fun rs h1 H1 ι1 s1 c1 p1 vs rv => ?_⟩
  obtain ⟨f1, p1⟩ := p1
  cases e : allVal rs with
  | none => rw [e] at p1; exact p1.elim
  | some ds =>
    rw [e] at p1
    dsimp only at p1
    have dr := allVal_of rv e
    cases e2 : setAll [i, j] ds ρ with
    | none => rw [e2] at p1; exact p1.elim
    | some ρ' =>
      rw [e2] at p1
      cases dr with
      | nil => cases e2
      | @cons v vs' d ds' a1 b1 =>
        cases b1 with
        | nil => simp only [setAll] at e2; split at e2 <;> cases e2
        | @cons w vs2 d2 ds2 a2 b2 =>
          cases b2 with
          | cons _ _ => simp only [setAll] at e2; split at e2 <;> (try split at e2) <;> cases e2
          | nil => exact ⟨v, w, rfl, p1 _ _ _ _ (f1.setAll2 (.cons a1 (.cons a2 .nil)) e2) ((hold_set i).trans (hold_set j))⟩

/-! ### raise, try -/
def mRaise (c : Nat) : SM := fun _ h => some (.exc c h)
theorem pmk_own0 {C : Addr} {bmB : List Value} {B newId initId : String} {x : Str} {p : Pos} (F : ExcBaseFacts B newId initId bmB) (q : PySem.W.excIn X.K C bmB newId = true) (gC : X.mg x = some (.ref C)) (kC : PySem.W.keepIn X.K (.ref C) = true) (r : Raises X (.ref C)) (hg : Gl X x)
    (hdb : (x == ("__debug__" : Str)) = false) : PMk X (.Call (.Name x p) [] [] pos) (fun _ H Q => Q (.ref C) none H) := by
  intro pins s σ H Q I h
  refine wpAny_Call_Name_kw (ld_glob I hg gC ?_ hdb)
  refine PySem.W.callWith_K0 I.kIn kC ?_
  obtain ⟨bm, N, nm, qn, bs, hdct, sn, sub, ab, col, dd, k0, k1, k2, k3, k5, mN, hC, hN, hni, T⟩ := exc_obj I.kIn q
  exact wpAny_call_exc_subT F T hC hN hni (fun h' e hm => mk_of I hm r h (I.hok.gone hm.new)) (Nat.zero_le _)
structure ExcF (K : PySem.W.Frag) (mg : Str → Option Value) (x : Str) (C : Addr) : Prop where
  ex : PySem.W.excIn K C [.type "ValueError", .type "Exception", .type "BaseException", .type "object"] "ValueError.__new__" = true
  g : mg x = some (.ref C)
  k : PySem.W.keepIn K (.ref C) = true
  b : PySem.W.subIn K (.ref C) (.type "BaseException") = some true
  t : PySem.W.typeIn K (.ref C) = some (.type "type")
theorem sd_raise {x : Str} {c : Nat} {p p2 : Pos} (hc : X.calm = true) (tk : Takes X W) (F : ExcF X.K X.mg x (xa c)) (hg : Gl X x) (hdb : (x == ("__debug__" : Str)) = false) : PS X (.Raise (some (.Call (.Name x p) [] [] p2)) none pos) (TSv xa W (mRaise c)) := by
  refine (ps_raise hc tk (pmk_own0 PySem.F.excBase_ValueError F.ex F.g F.k (raises_own F.b F.t) hg hdb)).imp fun D σ H ⟨Oo, ι0, H0, ι, ow, ρ, h, f, q⟩ => ?_
  exact q σ H ι ow ρ f
def findH : List (Nat × Str) → Nat → Option Str
  | [], _ => none
  | (c, s) :: r, d => if d = c then some s else findH r d
def mTry (b : SM) (hs : List (Nat × Str)) : SM := fun ρ h => match b ρ h with
  | some (.exc c h') => match findH hs c with
    | some s => some (.ret (.str s) h')
    | none => none
  | x => x
inductive HdC (X : Cx) (xa : Nat → Addr) : List ExceptHandler → List (Nat × Str) → Prop
  | nil : HdC X xa [] []
  | cons {x s : Str} {c : Nat} {np p1 p2 p3 : Pos} {j : Nat} {hds : List ExceptHandler} {l : List (Nat × Str)} (hc : Names X x (.ref (xa c))) (ok : PyData.strOk s = true) (ln : s.length ≤ sizeLine) (r : HdC X xa hds l) :
      HdC X xa (.ExceptHandler (some (.Name x np)) none [.Return (some (.Constant (.str s) j p1)) p2] p3 :: hds) ((c, s) :: l)
def hdL (xa : Nat → Addr) : List (Nat × Str) → List (Value × (Addr → Value → Option Addr → TS))
  | [] => []
  | (c, s) :: l => (.ref (xa c), fun _ _ _ => tRet (tC (.str s))) :: hdL xa l
theorem HdC.ok {hds : List ExceptHandler} {l : List (Nat × Str)} (h : HdC X xa hds l) : HdsOk X hds (hdL xa l) := by
  induction h with
  | nil => exact .nil
  | cons hc ok ln r ih => exact .cons hc (fun a oe cls d pn _ _ => pss_one (ps_ret pe_str)) ih
theorem wMany_of {K : PySem.W.Frag} {D : Ends} {c : Nat} {σ : St} {H : Hp} {l : List (Nat × Str)} (he : ∀ p ∈ l, PySem.W.exmOne K (.ref (xa c)) (.ref (xa p.1)) = some (decide (c = p.1))) (h : match findH l c with | some s => D.rt (.str s) H | none => W (.ref (xa c)) none σ H) :
    wMany K W D (hdL xa l) (.ref (xa c)) none σ H := by
  induction l with
  | nil => exact h
  | cons p l ih =>
    obtain ⟨c', s⟩ := p
    refine ⟨decide (c = c'), he _ List.mem_cons_self, fun hd a ha => ?_, fun hd => ih (fun p hp => he p (List.mem_cons_of_mem _ hp)) ?_⟩
    · have e : c = c' := of_decide_eq_true hd
      simp only [findH, if_pos e] at h
      exact h
    · have e : ¬ c = c' := of_decide_eq_false hd
      simp only [findH, if_neg e] at h
      exact h
theorem findH_mem {c : Nat} {s : Str} : ∀ {l : List (Nat × Str)}, findH l c = some s → (c, s) ∈ l
  | (c', s') :: l, e => by
    simp only [findH] at e
    split at e
    · rename_i h
      cases e
      rw [h]
      exact List.mem_cons_self
    · exact List.mem_cons_of_mem _ (findH_mem e)
theorem sd_try {body : List Stmt} {h₀ : ExceptHandler} {hds : List ExceptHandler} {l : List (Nat × Str)} {mb : SM} (hs : X.stack = X.env :: X.outer) (hf : X.env.frame = some X.env.locals) (tk : Takes X W)
    (hb : ∀ (W : WX) (pn : List (Addr × Obj)) (xe : Value → Shared → Prop), Takes (X.tr pn xe) W → PassesOwn (model X.prog X.w) X.A X.env xe → PSs (X.tr pn xe) body (TSv xa W mb))
    (hh : HdC X xa (h₀ :: hds) l) (he : ∀ q ∈ l, ∀ p ∈ l, PySem.W.exmOne X.K (.ref (xa q.1)) (.ref (xa p.1)) = some (decide (q.1 = p.1))) (hok : ∀ p ∈ l, PyData.strOk p.2 = true ∧ p.2.length ≤ sizeLine) : PS X (.Try body (h₀ :: hds) [] [] pos) (TSv xa W (mTry mb l)) := by
  refine (ps_try_many hs hf tk hb hh.ok).imp fun D σ H ⟨Oo, ι0, H0, ι, ow, ρ, h, f, p⟩ => ?_
  refine ⟨Oo, ι0, H0, ι, ow, ρ, h, f, ?_⟩
  unfold mTry at p
  cases e : mb ρ h with
  | none => rw [e] at p; exact p
  | some r =>
    rw [e] at p
    cases r with
    | next ρ' h' => exact p
    | ret d h' => exact p
    | exc c h' =>
      intro σ' H' ι' ow' ρ' f'
      dsimp only at p
      cases ef : findH l c with
      | none => rw [ef] at p; exact p.elim
      | some s =>
        rw [ef] at p
        have h1 := findH_mem ef
        refine wMany_of (he _ h1) ?_
        rw [ef]
        exact p (.str s) σ' H' ι' ow' ρ' f' (.str s (hok _ h1).1 (hok _ h1).2)
end
end Kb
namespace Kb
open PySem L2

/-! ### enumerate over a tuple -/
set_option maxHeartbeats 1000000 in
theorem enum_new1 {v : Value} {o : Obj} {H : Heap → Prop} (B : Begins v o H) :
    Meets (Builtin.«enumerate.__new__» ⟨[.type "enumerate", v], []⟩) (fun _ R s => H s.heap ∧
      R (.ok (.ret (.ref (s.heap.push o).objs.size))) { s with heap := (s.heap.push o).push { cls := .type "enumerate", data := .fields #[.none, .bool false, .ref s.heap.objs.size, rawInt 0, .none, .none] } }) :=
  .of_wp fun prog w A R s h => by
    obtain ⟨hp, g, d, tk, os⟩ := s
    obtain ⟨h1, h⟩ := h
    have hsub := sub_enumerate
    have q1 : ∀ {A' : Around} {E : Value → Shared → Prop} {Q : Value → Shared → Prop}, Q (.ref hp.objs.size) ⟨hp.push o, g, d, tk, os⟩ → wpAny (model prog w) A' (pyIter v) Q E ⟨hp, g, d, tk, os⟩ :=
      fun q => B.iter prog w _ _ ⟨hp, g, d, tk, os⟩ _ h1 q
    wp_walk using q1
    refine wpAny_stack_any fun st => wpAny_pure ?_
    split
    · rename_i c _ _ _ _ _
      cases (c == Value.type "enumerate")
      · wp_walk using q1
        exact ⟨_, rfl, h⟩
      · wp_walk using q1
        exact ⟨_, rfl, h⟩
    · wp_walk using q1
      exact ⟨_, rfl, h⟩
theorem enum_call1 {prog : Program} {w : World} {A : Around} {E : Value → Shared → Prop} {s : Shared} {v : Value} {o : Obj} {H : Heap → Prop} {Q : Value → Shared → Prop} (B : Begins v o H) (h1 : H s.heap)
    (h : ∀ h', IsEnum h' (s.heap.objs.size + 1) s.heap.objs.size 0 .none → h'.get? s.heap.objs.size = some o →
      (∀ b o, s.heap.get? b = some o → h'.get? b = some o) → Q (.ref (s.heap.objs.size + 1)) { s with heap := h' }) :
    wpAny (model prog w) A (call (.type "enumerate") [v]) Q E s := by
  refine callType_new F.called_enumerate (by decide) (F.typeCall_enumerate_1 _) (F.newCall_enumerate_1 _) (fun obj => F.args_object_init_2 obj _) F.entry_enumerate_new (enum_new1 B) ⟨h1, ?_⟩
  have hz : (s.heap.push o).objs.size = s.heap.objs.size + 1 := Heap.size_push ..
  show _ ∧ _
  rw [hz]
  have he : IsEnum ((s.heap.push o).push { cls := .type "enumerate", data := .fields #[.none, .bool false, .ref s.heap.objs.size, rawInt 0, .none, .none] }) (s.heap.objs.size + 1) s.heap.objs.size 0 .none := by
    have q := Heap.get?_push_size (s.heap.push o) (o := { cls := .type "enumerate", data := .fields #[.none, .bool false, .ref s.heap.objs.size, rawInt 0, .none, .none] }) rfl
    rw [hz] at q
    exact q
  exact ⟨⟨_, he, rfl⟩, h _ he (Heap.get?_push_of_some _ (Heap.get?_push_size _ B.free)) fun b o x => Heap.get?_push_of_some _ (Heap.get?_push_of_some _ x)⟩
def IteT (K : PySem.W.Frag) (a : Addr) : It :=
  ⟨fun i H => ∃ (xs : List V) (x : V), SqT K H a xs ∧ xs[i]? = some x, fun i H v H' => ∃ T x, v = .ref T ∧ H T = none ∧ H' = upd H T (.tup [.int (i : Nat), x]) ∧ ∀ xs, SqT K H a xs → xs[i]? = some x, fun i H => ∃ xs : List V, SqT K H a xs ∧ xs.length = i⟩
theorem turn_enumT {P : Program} {w : World} {K : PySem.W.Frag} {elts : List Expr} {kk : Nat} {tpos : Pos} (a e it : Addr) :
    Turn P w K (.Tuple elts kk tpos) (IteT K a) [e, it] e (fun i h => (∃ old, IsEnum h e it ((i : Nat) : Int) old) ∧ h.IsTupleIter it a i ∧ e ≠ it) where
  mem := by simp
  obj := fun i h st b hb => by
    obtain ⟨⟨old, he⟩, ⟨o, ho, hc, hd⟩, _⟩ := st
    rcases List.mem_cons.mp hb with z | z
    · rw [z]; exact ⟨_, he, fun v q => nomatch q⟩
    · rw [List.mem_singleton.mp z]; exact ⟨o, ho, fun v q => by rw [hd] at q; cases q⟩
  keep := fun i h h' st k => let ⟨⟨old, he⟩, hi, hne⟩ := st; ⟨⟨old, k e (by simp) _ he⟩, hi.at fun o q => k it (by simp) o q, hne⟩
  item := by
    intro X hP hw hK hc i pins s σ H E I hf st hg
    subst hP hw hK
    obtain ⟨⟨old, he⟩, hit, hne⟩ := st
    obtain ⟨xs, x, hq, hx⟩ := hg
    obtain ⟨its, rv, p, hz⟩ := I.tuple hq
    obtain ⟨u, hu, ru⟩ := rv.get hx
    have hel : e < s.heap.objs.size := Heap.lt_size he
    have hil : it < s.heap.objs.size := by obtain ⟨_, q, _⟩ := hit; exact Heap.lt_size q
    have pT : s.heap.IsTuple a its.toArray := p
    have nai : a ≠ it := fun z => by
      obtain ⟨o1, e1, c1, _⟩ := p
      obtain ⟨o2, e2, c2, _⟩ := id hit
      rw [z, e2] at e1
      cases e1
      rw [c1] at c2
      exact absurd c2 (by decide)
    have nae : e ≠ a := fun z => by
      obtain ⟨o1, e1, c1, _⟩ := p
      have he' : s.heap.get? e = _ := he
      rw [z, e1] at he'
      cases he'
      exact absurd c1 (by show ¬ (Value.type "enumerate" = Value.type "tuple"); decide)
    refine wpAny_pyNext_enum_itemD (Draws.tuple (A := X.A.in1) (I.ok.hd hc) it a nai its.toArray) he ⟨hit, pT⟩ (by simpa using (List.getElem?_eq_some_iff.mp hu).1) hne (by simp; exact ⟨hne, nae⟩) fun y h' tk hy ho hst hT hsz hk => ?_
    have ey : y = u := by
      have : its.toArray[i]? = some u := by simpa using hu
      rw [this] at hy
      exact (Option.some.inj hy).symm
    subst ey
    refine ⟨_, rfl, wpAny_letOwnedTupleGo_enum (s := { s with heap := h', toks := tk + 1 }) ho fun h'' he' sb => ?_⟩
    have hT2 : h''.get? s.heap.objs.size = some { cls := .type "tuple", data := .seq #[.int i tk, y] } := (sb.2 _ (Nat.ne_of_gt hel)).trans hT
    have new : ObjOk X.prog X.w (upd H s.heap.objs.size (.tup [.int (i : Nat), x])) h'' s.heap.objs.size (.tup [.int (i : Nat), x]) :=
      ⟨by show 2 ≤ sizeLine; decide, [.int i tk, y], .cons ⟨_, rfl⟩ (.cons ru .nil), ⟨_, hT2, rfl, _, rfl⟩⟩
    have I1 : Inv X pins σ (upd H s.heap.objs.size (.tup [.int (i : Nat), x])) { s with heap := h'', toks := tk + 1 } :=
      I.turnedNew (ch := [e, it]) (fun b ob hb q => (sb.2 b (fun z => hb (by simp [z]))).trans (hk b ob (fun z => hb (by simp [z])) (fun z => hb (by simp [z])) q)) hf (Nat.le_refl _) new
    refine ⟨.ref s.heap.objs.size, _, I1, rfl, ⟨_, x, rfl, I.hok.fresh (Nat.le_refl _), rfl, fun ys hy => by rw [I.tuple_inj hy hq]; exact hx⟩, ⟨⟨y, ?_⟩, hst.1.at fun o q => (sb.2 it (Ne.symm hne)).trans q, hne⟩, fun b hb => ?_⟩
    · have e1 : ((i + 1 : Nat) : Int) = (i : Int) + 1 := by omega
      rw [e1]
      exact he'
    · have hb' : b < s.heap.objs.size := by
        rcases List.mem_cons.mp hb with z | z
        · rw [z]; exact hel
        · rw [List.mem_singleton.mp z]; exact hil
      rw [upd_ne (Nat.ne_of_lt hb')]
      exact (hf b hb).1
  done := by
    intro X hP hw hK hc i pins s σ H E I hf st hg
    subst hP hw hK
    obtain ⟨⟨old, he⟩, hit, hne⟩ := st
    obtain ⟨xs, hq, hx⟩ := hg
    obtain ⟨its, rv, p, hz⟩ := I.tuple hq
    obtain ⟨f0, f1, f2, f3, f4, f5⟩ := hf it (by simp)
    have hl := rv.length
    have pT : s.heap.IsTuple a its.toArray := p
    have nai : a ≠ it := fun z => by
      obtain ⟨o1, e1, c1, _⟩ := p
      obtain ⟨o2, e2, c2, _⟩ := id hit
      rw [z, e2] at e1
      cases e1
      rw [c1] at c2
      exact absurd c2 (by decide)
    have en : its.toArray.size = i := by simp; omega
    refine wpAny_pyNext_enum_endD (Draws.tuple (A := X.A.in1) (I.ok.hd hc) it a nai its.toArray) he (by rw [en]; exact ⟨hit, pT⟩) fun h' eb => ⟨rfl, I.turned (t' := s.toks) (fun b o hb q => eb b o hb q) f0 f1 f3 f4 f5⟩
  self := fun A i s Q E st h => let ⟨⟨_, he⟩, _⟩ := st; wpAny_pyIter_enum he h
def iEnumT (K : PySem.W.Frag) (ta : TA) : TI := fun σ H R => ta σ H fun vs H1 => ∃ a xs, vs = [.ref a] ∧ SqT K H1 a xs ∧ R (IteT K a) H1
theorem pi_enumT {X : Cx} {e : Expr} {ta : TA} {p pos tpos : Pos} {elts : List Expr} {kk : Nat} (hg : Gl X "enumerate") (hm : X.mg "enumerate" = none) (ha : PA X [e] ta) (hs : starEach [e] X.env = [(false, eval e X.env)]) :
    PI X (.Tuple elts kk tpos) (.Call (.Name "enumerate" p) [e] [] pos) (iEnumT X.K ta) := by
  refine ⟨fun pins s σ H R I h => ?_⟩
  refine PyProof.Rows.Call_ (ld_blt I hg hm PyProof.Rows.boot_enumerate (PyProof.Rows.callWith_type1 (thn (ha.run pos pins s σ H _ I h) fun us s1 ⟨vs, H1, I1, r1, q1⟩ => ?_) hs rfl))
  obtain ⟨a, xs, ex, hq, q⟩ := q1
  subst ex
  cases r1 with
  | cons r rr =>
    cases rr
    cases r
    obtain ⟨its, rv, p', hz⟩ := I1.tuple hq
    refine enum_call1 (begins_tuple a its.toArray) p' fun h' he hit hk => wpAny_pyIter_enum he ?_
    have I2 : Inv X pins σ H1 { s1 with heap := h' } := I1.kept (t' := s1.toks) hk
    refine ⟨s1.heap.objs.size + 1, [s1.heap.objs.size + 1, s1.heap.objs.size], _, _, H1, rfl, I2, turn_enumT a (s1.heap.objs.size + 1) s1.heap.objs.size, ⟨⟨.none, he⟩, ⟨_, hit, rfl, rfl⟩, Nat.succ_ne_self _⟩, fun b hb => ?_, q⟩
    have hle : s1.heap.objs.size ≤ b := by
      rcases List.mem_cons.mp hb with z | z
      · rw [z]; exact Nat.le_add_right _ _
      · rw [List.mem_singleton.mp z]; exact Nat.le_refl _
    exact I1.fpOk hle (I1.hok.fresh hle)

/-! ### by data -/
def enumD : Nat → List D → List D
  | _, [] => []
  | k, d :: r => .tup [.int k, d] :: enumD (k + 1) r
theorem enumD_len : ∀ (k : Nat) (ds : List D), (enumD k ds).length = ds.length
  | _, [] => rfl
  | k, d :: r => by unfold enumD; rw [List.length_cons, List.length_cons, enumD_len]
theorem enumD_at : ∀ (k : Nat) (ds : List D) (i : Nat) (d : D), ds[i]? = some d → (enumD k ds)[i]? = some (.tup [.int ((k + i : Nat) : Int), d])
  | _, [], _, _, h => by simp at h
  | k, x :: r, 0, d, h => by
    simp at h
    subst h
    rfl
  | k, x :: r, i + 1, d, h => by
    have e := enumD_at (k + 1) r i d (by simpa using h)
    have e2 : k + 1 + i = k + (i + 1) := by omega
    rw [e2] at e
    simpa [enumD] using e
def zipD : List D → List D → List D
  | a :: r, b :: s => .tup [a, b] :: zipD r s
  | _, _ => []
theorem zipD_len : ∀ (a b : List D), (zipD a b).length = min a.length b.length
  | [], b => by simp [zipD]
  | _ :: _, [] => by simp [zipD]
  | x :: r, y :: s => by
    unfold zipD
    rw [List.length_cons, List.length_cons, List.length_cons, zipD_len r s]
    omega
theorem zipD_at : ∀ (a b : List D) (i : Nat) (x y : D), a[i]? = some x → b[i]? = some y → (zipD a b)[i]? = some (.tup [x, y])
  | [], _, _, _, _, h, _ => by simp at h
  | _ :: _, [], _, _, _, _, h => by simp at h
  | x :: r, y :: s, 0, u, v, h, h' => by
    simp at h h'
    subst h h'
    rfl
  | x :: r, y :: s, i + 1, u, v, h, h' => by
    have e := zipD_at r s i u v (by simpa using h) (by simpa using h')
    simpa [zipD] using e
/-- a sequence value that lives on -/
def LvS (Oo : Addr → Prop) (isT : Bool) (a : Addr) (ds : List D) (ι : List Addr) (ow : List (Option Addr)) (H : Hp) : Prop := if isT = true then DR ι (Of Oo ι ow) H (.ref a) (.tup ds) else BorL Oo a ds ι ow H
section
variable {K : PySem.W.Frag} {Oo S : Addr → Prop}
theorem gi_enumL {st : Bool} {a : Addr} {ds : List D} : GI st S Oo (Ite K a) (enumD 0 ds) (fun ι ow H => DR ι (Of Oo ι ow) H (.ref a) (.lst ds)) where
  go := fun i ι ow H q hi => by
    rw [enumD_len] at hi
    cases q with
    | @lst _ vs _ r n q =>
      have hv : i < vs.length := by rw [q.length]; exact hi
      exact ⟨vs, vs[i], .inl (.inl r), List.getElem?_eq_getElem hv⟩
  stop := fun i ι ow H q hi => by
    rw [enumD_len] at hi
    cases q with
    | @lst _ vs _ r n q => exact ⟨vs, .inl (.inl r), by rw [q.length]; omega⟩
  yld := fun i ι ow H x H' q hi ho y => by
    obtain ⟨T, x0, rfl, hT, rfl, y⟩ := y
    cases q with
    | @lst _ vs _ r n q =>
      obtain ⟨d, h1, h2⟩ := q.getV (y vs (.inl (.inl r)))
      have e := enumD_at 0 ds i d h1
      rw [Nat.zero_add] at e
      exact ⟨same_new hT, _, e, .tup upd_same (.cons (.int _) (.cons (h2.same (same_new hT)) .nil))⟩
  keep := fun ι ow H ι' ow' H' q h _ => h _ _ q
theorem gi_enumB {a : Addr} {ds : List D} (hS : S a) : GI false S Oo (Ite K a) (enumD 0 ds) (BorL Oo a ds) where
  go := fun i ι ow H ⟨vs, r, q⟩ hi => by
    rw [enumD_len] at hi
    have hv : i < vs.length := by rw [q.length]; exact hi
    exact ⟨vs, vs[i], .inl r, List.getElem?_eq_getElem hv⟩
  stop := fun i ι ow H ⟨vs, r, q⟩ hi => by
    rw [enumD_len] at hi
    exact ⟨vs, .inl r, by rw [q.length]; omega⟩
  yld := fun i ι ow H x H' ⟨vs, r, q⟩ hi ho y => by
    obtain ⟨T, x0, rfl, hT, rfl, y⟩ := y
    obtain ⟨d, h1, h2⟩ := q.getV (y vs (.inl r))
    have e := enumD_at 0 ds i d h1
    rw [Nat.zero_add] at e
    exact ⟨same_new hT, _, e, .tup upd_same (.cons (.int _) (.cons (h2.same (same_new hT)) .nil))⟩
  keep := fun ι ow H ι' ow' H' ⟨vs, r, q⟩ h k => ⟨vs, k rfl a vs hS r, q.hold h⟩
theorem gi_enumT {st : Bool} {a : Addr} {ds : List D} : GI st S Oo (IteT K a) (enumD 0 ds) (fun ι ow H => DR ι (Of Oo ι ow) H (.ref a) (.tup ds)) where
  go := fun i ι ow H q hi => by
    rw [enumD_len] at hi
    cases q with
    | @tup _ vs _ r q =>
      have hv : i < vs.length := by rw [q.length]; exact hi
      exact ⟨vs, vs[i], .inl (.inl r), List.getElem?_eq_getElem hv⟩
  stop := fun i ι ow H q hi => by
    rw [enumD_len] at hi
    cases q with
    | @tup _ vs _ r q => exact ⟨vs, .inl (.inl r), by rw [q.length]; omega⟩
  yld := fun i ι ow H x H' q hi ho y => by
    obtain ⟨T, x0, rfl, hT, rfl, y⟩ := y
    cases q with
    | @tup _ vs _ r q =>
      obtain ⟨d, h1, h2⟩ := q.getV (y vs (.inl (.inl r)))
      have e := enumD_at 0 ds i d h1
      rw [Nat.zero_add] at e
      exact ⟨same_new hT, _, e, .tup upd_same (.cons (.int _) (.cons (h2.same (same_new hT)) .nil))⟩
  keep := fun ι ow H ι' ow' H' q h _ => h _ _ q
end
end Kb
namespace Kb
open PySem L2

def mEnum (st : Bool) (e : EM) : IM := fun ρ h => bd (mIter st e ρ h) fun ds h1 => ret (enumD 0 ds) h1
def mZip (a b : EM) : IM := fun ρ h => bd (a ρ h) fun x h1 => bd (b ρ h1) fun y h2 => match x, y with
  | .val (.tup xs), .val (.tup ys) => ret (zipD xs ys) h2
  | .val (.lst xs), .val (.lst ys) => ret (zipD xs ys) h2
  | _, _ => none
section
variable {K : PySem.W.Frag} {Oo S : Addr → Prop}
theorem gi_zipL {st : Bool} {a b : Addr} {ds es : List D} : GI st S Oo (Itz K a b) (zipD ds es) (fun ι ow H => DR ι (Of Oo ι ow) H (.ref a) (.lst ds) ∧ DR ι (Of Oo ι ow) H (.ref b) (.lst es)) where
  go := fun i ι ow H ⟨q, q'⟩ hi => by
    rw [zipD_len] at hi
    cases q with
    | @lst _ vs _ r n q =>
      cases q' with
      | @lst _ ws _ r' n' q' =>
        have hv : i < vs.length := by rw [q.length]; omega
        have hw : i < ws.length := by rw [q'.length]; omega
        exact ⟨vs, ws, vs[i], ws[i], .inl (.inl r), .inl (.inl r'), List.getElem?_eq_getElem hv, List.getElem?_eq_getElem hw⟩
  stop := fun i ι ow H ⟨q, q'⟩ hi => by
    rw [zipD_len] at hi
    cases q with
    | @lst _ vs _ r n q =>
      cases q' with
      | @lst _ ws _ r' n' q' => exact ⟨vs, ws, .inl (.inl r), .inl (.inl r'), by rw [q.length, q'.length]; omega⟩
  yld := fun i ι ow H x H' ⟨q, q'⟩ hi ho y => by
    obtain ⟨T, x0, y0, rfl, hT, rfl, y1, y2⟩ := y
    cases q with
    | @lst _ vs _ r n q =>
      cases q' with
      | @lst _ ws _ r' n' q' =>
        obtain ⟨d, h1, h2⟩ := q.getV (y1 vs (.inl (.inl r)))
        obtain ⟨d', h1', h2'⟩ := q'.getV (y2 ws (.inl (.inl r')))
        exact ⟨same_new hT, _, zipD_at ds es i d d' h1 h1', .tup upd_same (.cons (h2.same (same_new hT)) (.cons (h2'.same (same_new hT)) .nil))⟩
  keep := fun ι ow H ι' ow' H' q h _ => ⟨h _ _ q.1, h _ _ q.2⟩
theorem gi_zipT {st : Bool} {a b : Addr} {ds es : List D} : GI st S Oo (RZ.ItzT K a b) (zipD ds es) (fun ι ow H => DR ι (Of Oo ι ow) H (.ref a) (.tup ds) ∧ DR ι (Of Oo ι ow) H (.ref b) (.tup es)) where
  go := fun i ι ow H ⟨q, q'⟩ hi => by
    rw [zipD_len] at hi
    cases q with
    | @tup _ vs _ r q =>
      cases q' with
      | @tup _ ws _ r' q' =>
        have hv : i < vs.length := by rw [q.length]; omega
        have hw : i < ws.length := by rw [q'.length]; omega
        exact ⟨vs, ws, vs[i], ws[i], .inl (.inl r), .inl (.inl r'), List.getElem?_eq_getElem hv, List.getElem?_eq_getElem hw⟩
  stop := fun i ι ow H ⟨q, q'⟩ hi => by
    rw [zipD_len] at hi
    cases q with
    | @tup _ vs _ r q =>
      cases q' with
      | @tup _ ws _ r' q' => exact ⟨vs, ws, .inl (.inl r), .inl (.inl r'), by rw [q.length, q'.length]; omega⟩
  yld := fun i ι ow H x H' ⟨q, q'⟩ hi ho y => by
    obtain ⟨T, x0, y0, rfl, hT, rfl, y1, y2⟩ := y
    cases q with
    | @tup _ vs _ r q =>
      cases q' with
      | @tup _ ws _ r' q' =>
        obtain ⟨d, h1, h2⟩ := q.getV (y1 vs (.inl (.inl r)))
        obtain ⟨d', h1', h2'⟩ := q'.getV (y2 ws (.inl (.inl r')))
        exact ⟨same_new hT, _, zipD_at ds es i d d' h1 h1', .tup upd_same (.cons (h2.same (same_new hT)) (.cons (h2'.same (same_new hT)) .nil))⟩
  keep := fun ι ow H ι' ow' H' q h _ => ⟨h _ _ q.1, h _ _ q.2⟩
end
section
variable {X : Cx} {xa : Nat → Addr} {W : WX} {pos p tpos : Pos} {st : Bool} {elts : List Expr} {kk : Nat}
theorem id_enum {e : Expr} {m : EM} (hg : Gl X "enumerate") (hm : X.mg "enumerate" = none) (he : PE X e (TEv xa W m)) (hs : starEach [e] X.env = (false, eval e X.env) :: starEach [] X.env) : PI X (.Tuple elts kk tpos) (.Call (.Name "enumerate" p) [e] [] pos) (TIv st xa W (mEnum st m)) := by
  refine (PI.or (pi_enum hg hm (pa_cons he pa_nil hs) hs) (pi_enumT hg hm (pa_cons he pa_nil hs) hs)).imp fun σ H R ⟨Oo, ι, ow, ρ, h, f, q⟩ => ?_
  unfold mEnum mIter at q
  cases e0 : m ρ h with
  | none => rw [e0] at q; exact q.elim
  | some res =>
    cases res with
    | exc c h1 =>
      left
      refine ⟨Oo, ι, ow, ρ, h, f, ?_⟩
      rw [e0] at q ⊢
      exact q
    | ok r h1 =>
      rw [e0] at q
      have q' : ∀ H1 ι1, Step ι H ι1 H1 → Cells ι1 (Of Oo ι1 ow) H1 h1 → _ := fun H1 ι1 s1 c1 => Post.from (Post.bd q) s1
      cases r with
      | val d =>
        cases d with
        | lst ds =>
          left
          refine ⟨Oo, ι, ow, ρ, h, f, ?_⟩
          rw [e0]
          intro H1 ι1 s1 c1 v rv
          have q1 := q' H1 ι1 s1 c1 H1 ι1 (Step.refl _ _) c1 H1 ι1 (Step.refl _ _) c1
          have rv' : DR ι1 (Of Oo ι1 ow) H1 v (.lst ds) := rv
          cases rv' with
          | @lst a vs _ r0 n0 q0 => exact ⟨a, vs, rfl, .inl (.inl r0), q1 _ _ gi_enumL rv⟩
        | tup ds =>
          right
          refine ⟨Oo, ι, ow, ρ, h, f, ?_⟩
          rw [e0]
          intro H1 ι1 s1 c1 v rv
          have q1 := q' H1 ι1 s1 c1 H1 ι1 (Step.refl _ _) c1 H1 ι1 (Step.refl _ _) c1
          have rv' : DR ι1 (Of Oo ι1 ow) H1 v (.tup ds) := rv
          cases rv' with
          | @tup a vs _ r0 q0 => exact ⟨a, vs, rfl, .inl (.inl r0), q1 _ _ gi_enumT rv⟩
        | _ => exact q.elim
      | bor ds =>
        cases st with
        | true => exact q.elim
        | false =>
          left
          refine ⟨Oo, ι, ow, ρ, h, f, ?_⟩
          rw [e0]
          intro H1 ι1 s1 c1 v rv
          have q1 := q' H1 ι1 s1 c1 H1 ι1 (Step.refl _ _) c1 H1 ι1 (Step.refl _ _) c1
          obtain ⟨a, vs, rfl, o1, n1, r1, d1⟩ := rv
          refine ⟨a, vs, rfl, .inl r1, q1 _ _ (gi_enumB ⟨?_, n1⟩) ⟨vs, r1, d1⟩⟩
          rcases o1 with z | z | z
          · exact .inl z
          · exact absurd z n1
          · exact .inr z
theorem id_zip {a b : Expr} {ma mb : EM} (hg : Gl X "zip") (hm : X.mg "zip" = none) (ha : PE X a (TEv xa W ma)) (hb : PE X b (TEv xa W mb)) (hs2 : starEach [b] X.env = (false, eval b X.env) :: starEach [] X.env) (hs : starEach [a, b] X.env = (false, eval a X.env) :: starEach [b] X.env) :
    PI X (.Tuple elts kk tpos) (.Call (.Name "zip" p) [a, b] [] pos) (TIv st xa W (mZip ma mb)) := by
  refine (RZ.pi_zipA hg hm (pa_cons ha (pa_cons hb pa_nil hs2) hs) hs (by rw [hs2]; rfl)).imp fun σ H R ⟨Oo, ι, ow, ρ, h, f, q⟩ => ?_
  refine ⟨Oo, ι, ow, ρ, h, f, (Post.bd q).imp fun r h1 H1 ι1 s1 c1 p1 v rv => ?_⟩
  refine ⟨Oo, ι1, ow, ρ, h1, f.step s1 c1, (Post.bd p1).imp fun r2 h2 H2 ι2 s2 c2 p2 v2 rv2 => ?_⟩
  have rv1 := rv.step s2
  split at p2
  · rename_i xs ys
    have d1 : DR ι2 (Of Oo ι2 ow) H2 v (.tup xs) := rv1
    have d2 : DR ι2 (Of Oo ι2 ow) H2 v2 (.tup ys) := rv2
    have q1 := p2 H2 ι2 (Step.refl _ _) c2
    cases id d1 with
    | @tup a vs _ r0 q0 =>
      cases id d2 with
      | @tup b ws _ r0' q0' => exact ⟨a, b, vs, ws, rfl, .inr ⟨.inl (.inl r0), .inl (.inl r0'), q1 _ _ gi_zipT ⟨d1, d2⟩⟩⟩
  · rename_i xs ys
    have d1 : DR ι2 (Of Oo ι2 ow) H2 v (.lst xs) := rv1
    have d2 : DR ι2 (Of Oo ι2 ow) H2 v2 (.lst ys) := rv2
    have q1 := p2 H2 ι2 (Step.refl _ _) c2
    cases id d1 with
    | @lst a vs _ r0 n0 q0 =>
      cases id d2 with
      | @lst b ws _ r0' n0' q0' => exact ⟨a, b, vs, ws, rfl, .inl ⟨.inl (.inl r0), .inl (.inl r0'), q1 _ _ gi_zipL ⟨d1, d2⟩⟩⟩
  · exact p2.elim
end
end Kb
namespace Kb
open PySem L2

inductive BOp where
  | add | sub | mul | fdiv | mod
inductive COp where
  | lt | le | gt | ge | eq | ne | inn | nin
inductive Bi where
  | len | abs | max | min | all | any | sorted | tuple | list | int
mutual
inductive E where
  | var (i : Nat) | cI (i : Int) | cS (x : Str) | cB (b : Bool) | cN
  | bin (op : BOp) (a b : E) | neg (a : E) | not (a : E)
  | cmp (op : COp) (a b : E) | chain (op op' : COp) (a b c : E) | isN (a : E) | notN (a : E)
  | bop (an : Bool) (es : Es)
  | ite (c a b : E)
  | tup (es : Es) | lst (es : Es)
  | idx (a i : E) | cut (a : E) (lo hi : Eo)
  | call (f : Nat) (es : Es) | bi (b : Bi) (es : Es) | isi (t : Ty) (a : E)
  | comp (vs : List Nat) (t : Tg) (it : I) (c : Eo) (e : E)
  | lenSet (a : E)
inductive Es where
  | nil | cons (e : E) (es : Es)
inductive Eo where
  | none | some (e : E)
inductive I where
  | of (e : E) | rng1 (a : E) | rng2 (a b : E) | enum (e : E) | zip (a b : E)
end
def BOp.g : BOp → D → D → Option D
  | .add => D.add | .sub => D.sub | .mul => D.mul | .fdiv => D.fdiv | .mod => D.mod
def COp.g : COp → D → D → Option D
  | .lt => D.cmpI fun i j => decide (i < j)
  | .le => D.cmpI fun i j => decide (i ≤ j)
  | .gt => D.cmpI fun i j => decide (j < i)
  | .ge => D.cmpI fun i j => decide (j ≤ i)
  | .eq => D.eqO | .ne => D.neO | .inn => D.inO | .nin => D.ninO
def Bi.g : Bi → List D → Option D
  | .len => D.bLen | .abs => D.bAbs | .max => D.bMax | .min => D.bMin | .all => D.bAll | .any => D.bAny | .sorted => D.bSorted | .tuple => D.bTuple | .list => D.bList | .int => D.bInt
def mArgs : List (EM × TM) → AM
  | [] => mNil
  | m :: r => mCons m.1 (mArgs r)
def mAnds : List (EM × TM) → EM
  | [] => fun _ _ => none
  | [m] => m.1
  | m :: r => mAnd m.1 (mAnds r)
def mOrs : List (EM × TM) → EM
  | [] => fun _ _ => none
  | [m] => m.1
  | m :: r => mOr m.1 (mOrs r)
def mTAnds : List (EM × TM) → TM
  | [] => fun _ _ => none
  | [m] => m.2
  | m :: r => mTAnd m.2 (mTAnds r)
def mTOrs : List (EM × TM) → TM
  | [] => fun _ _ => none
  | [m] => m.2
  | m :: r => mTOr m.2 (mTOrs r)
/-! ### what may be a key -/
mutual
def D.key : D → Option NestedKey
  | .non => some .none
  | .bl b => some (.num (if b = true then 1 else 0))
  | .int i => some (.num i)
  | .str x => some (.text x)
  | .tup xs => (D.keyL xs).map .tup
  | .lst _ => none
  | .ref _ => none
def D.keyL : List D → Option (List NestedKey)
  | [] => some []
  | x :: xs => match D.key x, D.keyL xs with
    | some k, some ks => some (k :: ks)
    | _, _ => none
end
/-- each key once -/
def nubK : List NestedKey → List NestedKey
  | [] => []
  | k :: r => if k ∈ r then nubK r else k :: nubK r
def D.isT : D → Bool
  | .tup _ => true
  | _ => false
def D.lenSet : D → Option D
  | .tup xs => match D.keyL xs with
    | some ks => if xs.length < 64 ∧ NestedKey.depthAll ks ≤ 8 ∧ xs.all D.isT = true then some (.int (nubK ks).length) else none
    | none => none
  | _ => none
mutual
def ev (cl : Nat → FM) : E → EM × TM
  | .var i => (mVar i, mTru (mVar i))
  | .cI i => (mC (.int i), mTru (mC (.int i)))
  | .cS x => (mC (.str x), mTru (mC (.str x)))
  | .cB b => (mC (.bl b), mTru (mC (.bl b)))
  | .cN => (mC .non, mTru (mC .non))
  | .bin op a b => let m := mBin op.g (ev cl a).1 (ev cl b).1; (m, mTru m)
  | .neg a => let m := mUn D.neg (ev cl a).1; (m, mTru m)
  | .not a => (mNot (ev cl a).1, mTNot (ev cl a).2)
  | .cmp op a b => let m := mBin op.g (ev cl a).1 (ev cl b).1; (m, mIsB m)
  | .chain op op' a b c => let m := mChain op.g op'.g (ev cl a).1 (ev cl b).1 (ev cl c).1; (m, mIsB m)
  | .isN a => let m := mUn D.isNo (ev cl a).1; (m, mIsB m)
  | .notN a => let m := mUn D.notNo (ev cl a).1; (m, mIsB m)
  | .bop true es => (mAnds (evs cl es), mTAnds (evs cl es))
  | .bop false es => (mOrs (evs cl es), mTOrs (evs cl es))
  | .ite c a b => (mIf (ev cl c).2 (ev cl a).1 (ev cl b).1, fun _ _ => none)
  | .tup es => let m := mTup (mArgs (evs cl es)); (m, mTru m)
  | .lst es => let m := mLst (mArgs (evs cl es)); (m, mTru m)
  | .idx a i => let m := mBin D.at_ (ev cl a).1 (ev cl i).1; (m, mTru m)
  | .cut a lo hi => let m := mCut (ev cl a).1 (evo cl lo) (evo cl hi); (m, mTru m)
  | .call f es => let m := mCall (evs cl es).length (cl f) (mArgs (evs cl es)); (m, mTru m)
  | .bi b es => let m := mCallB b.g (mArgs (evs cl es)); (m, mTru m)
  | .isi t a => let m := mUn (D.isi t) (ev cl a).1; (m, mTru m)
  | .comp vs t it c e => let m := mComp vs (evi cl false it) t (evc cl c) (ev cl e).1; (m, mTru m)
  | .lenSet a => let m := mUn D.lenSet (ev cl a).1; (m, mTru m)
def evs (cl : Nat → FM) : Es → List (EM × TM)
  | .nil => []
  | .cons e es => ev cl e :: evs cl es
def evo (cl : Nat → FM) : Eo → OM
  | .none => mNoPart
  | .some e => mPart (ev cl e).1
def evc (cl : Nat → FM) : Eo → TM
  | .none => mYes
  | .some e => (ev cl e).2
def evi (cl : Nat → FM) (st : Bool) : I → IM
  | .of e => mIter st (ev cl e).1
  | .rng1 a => mRng1 (ev cl a).1
  | .rng2 a b => mRng2 (ev cl a).1 (ev cl b).1
  | .enum e => mEnum st (ev cl e).1
  | .zip a b => mZip (ev cl a).1 (ev cl b).1
end

/-! ### the text against the tree -/
structure Cfg where
  N : List Str
  nm : Nat → Str
  ar : Nat → Nat
  fs : List Nat
  xn : Nat → Str
  xs : List Nat
def visB (sc : Scope) (x : Str) : Bool := match sc.names.lookup x with
  | some .local => true | some .cell => true | some .free => true | _ => false
def locB (sc : Scope) (x : Str) : Bool := match sc.names.lookup x with
  | some .local => true | some .cell => true | _ => false
def lclB (sc : Scope) (x : Str) : Bool := match sc.names.lookup x with
  | some .local => true | _ => false
def glB (sc : Scope) (x : Str) : Bool := match sc.names.lookup x with
  | some .globalImplicit => true | _ => false
def nameOk (x : Str) : Bool := !(x == ("__debug__" : Str)) && !(x == ("__classdict__" : Str))
def BOp.ok : BOp → Operator → Bool
  | .add, .Add => true | .sub, .Sub => true | .mul, .Mult => true | .fdiv, .FloorDiv => true | .mod, .Mod => true
  | _, _ => false
def COp.ok : COp → CmpOp → Bool
  | .lt, .Lt => true | .le, .LtE => true | .gt, .Gt => true | .ge, .GtE => true | .eq, .Eq => true | .ne, .NotEq => true | .inn, .In => true | .nin, .NotIn => true
  | _, _ => false
def Bi.name : Bi → Str
  | .len => "len" | .abs => "abs" | .max => "max" | .min => "min" | .all => "all" | .any => "any" | .sorted => "sorted" | .tuple => "tuple" | .list => "list" | .int => "int"
def notSlice : Expr → Bool
  | .Slice .. => false
  | .Tuple .. => false
  | _ => true
def notSet : Expr → Bool
  | .Set .. => false
  | _ => true
def chkNames (N : List Str) (sc : Scope) : List Nat → List Expr → Bool
  | [], [] => true
  | i :: is, .Name x _ :: es => decide (N[i]? = some x) && locB sc x && chkNames N sc is es
  | _, _ => false
def chkTg (N : List Str) (sc : Scope) : Tg → Expr → Bool
  | .name i, .Name x _ => decide (N[i]? = some x) && locB sc x
  | .tup is, .Tuple es _ _ => chkNames N sc is es
  | _, _ => false
mutual
def chkE (c : Cfg) (sc : Scope) : E → Expr → Bool
  | .var i, .Name x _ => decide (c.N[i]? = some x) && visB sc x && nameOk x
  | .cI i, .Constant (.int j) _ _ => decide (i = j)
  | .cS x, .Constant (.str y) _ _ => decide (x = y) && PyData.strOk x && decide (x.length ≤ sizeLine)
  | .cB b, .Constant (.bool b') _ _ => b == b'
  | .cN, .Constant .none _ _ => true
  | .bin op a b, .BinOp pa o pb _ => op.ok o && chkE c sc a pa && chkE c sc b pb
  | .neg a, .UnaryOp .USub pa _ => chkE c sc a pa
  | .not a, .UnaryOp .Not pa _ => chkE c sc a pa
  | .cmp op a b, .Compare pa [o] [pb] _ => op.ok o && chkE c sc a pa && chkE c sc b pb && !(behindInMarks o pb)
  | .chain op op' a b d, .Compare pa [o, o'] [pb, pd] _ => op.ok o && op'.ok o' && chkE c sc a pa && chkE c sc b pb && chkE c sc d pd && !(lastMarks [o, o'] [pb, pd])
  | .isN a, .Compare pa [.Is] [.Constant .none _ _] _ => chkE c sc a pa
  | .notN a, .Compare pa [.IsNot] [.Constant .none _ _] _ => chkE c sc a pa
  | .bop true es, .BoolOp .And ps _ => chkEs c sc es ps && !ps.isEmpty
  | .bop false es, .BoolOp .Or ps _ => chkEs c sc es ps && !ps.isEmpty
  | .ite d a b, .IfExp pd pa pb _ => chkE c sc d pd && chkE c sc a pa && chkE c sc b pb
  | .tup es, .Tuple ps _ _ => chkEs c sc es ps
  | .lst es, .List ps _ => chkEs c sc es ps
  | .idx a i, .Subscript pa pi _ => chkE c sc a pa && chkE c sc i pi && notSlice pi
  | .cut a lo hi, .Subscript pa (.Slice plo phi none _) _ => chkE c sc a pa && chkO c sc lo plo && chkO c sc hi phi
  | .call f es, .Call (.Name x _) (p :: ps) [] _ => decide (x = c.nm f) && c.fs.contains f && decide (c.ar f = (p :: ps).length) && glB sc x && nameOk x && chkEs c sc es (p :: ps)
  | .bi b es, .Call (.Name x _) (p :: ps) [] _ => decide (x = b.name) && glB sc x && chkEs c sc es (p :: ps)
  | .isi t a, .Call (.Name x _) [pa, .Name y _] [] _ => decide (x = "isinstance") && glB sc x && decide (y = Str.ofString t.name) && glB sc y && chkE c sc a pa
  | .comp vs t it d e, .ListComp pe [⟨tg, iter, ifs, 0⟩] scope _ => blkC c.N sc scope (vs.map fun i => (c.N.getD i "", i)) && chkTg c.N scope t tg && chkI c sc it tg iter && chkC c (relS scope sc) d ifs && chkE c (relS scope sc) e pe && t.is.all vs.contains && notSet iter && (match scope.kind with | .function => true | _ => false)
  | .lenSet a, .Call (.Name x _) [.Call (.Name y _) [pa] [] _] [] _ => decide (x = "len") && glB sc x && decide (y = "set") && glB sc y && chkE c sc a pa
  | _, _ => false
def chkEs (c : Cfg) (sc : Scope) : Es → List Expr → Bool
  | .nil, [] => true
  | .cons e es, p :: ps => chkE c sc e p && chkEs c sc es ps
  | _, _ => false
def chkO (c : Cfg) (sc : Scope) : Eo → Option Expr → Bool
  | .none, none => true
  | .some e, some p => chkE c sc e p
  | _, _ => false
def chkC (c : Cfg) (sc : Scope) : Eo → List Expr → Bool
  | .none, [] => true
  | .some e, [p] => chkE c sc e p
  | _, _ => false
def chkI (c : Cfg) (sc : Scope) : I → Expr → Expr → Bool
  | .of e, _, p => chkE c sc e p
  | .rng1 a, _, .Call (.Name x _) [pa] [] _ => decide (x = "range") && glB sc x && chkE c sc a pa
  | .rng2 a b, _, .Call (.Name x _) [pa, pb] [] _ => decide (x = "range") && glB sc x && chkE c sc a pa && chkE c sc b pb
  | .enum e, .Tuple .., .Call (.Name x _) [pa] [] _ => decide (x = "enumerate") && glB sc x && chkE c sc e pa
  | .zip a b, .Tuple .., .Call (.Name x _) [pa, pb] [] _ => decide (x = "zip") && glB sc x && chkE c sc a pa && chkE c sc b pb
  | _, _, _ => false
end
end Kb
namespace Kb
open PySem L2

/-! ### small forms -/
theorem star_ne {p : Expr} {c : Cfg} {sc : Scope} {e : E} (h : chkE c sc e p = true) : ∀ (ps : List Expr) (env : Env), starEach (p :: ps) env = (false, eval p env) :: starEach ps env := by
  intro ps env
  cases p with
  | Starred => cases e <;> simp [chkE] at h
  | _ => rfl
theorem chkEs_len {c : Cfg} {sc : Scope} (cl : Nat → FM) : ∀ (es : Es) (ps : List Expr), chkEs c sc es ps = true → (evs cl es).length = ps.length
  | .nil, [], _ => by simp [evs]
  | .nil, _ :: _, h => by simp [chkEs] at h
  | .cons e es, [], h => by simp [chkEs] at h
  | .cons e es, p :: ps, h => by
    simp only [chkEs, Bool.and_eq_true] at h
    simp only [evs, List.length_cons]
    rw [chkEs_len cl es ps h.2]
theorem plain_es {c : Cfg} : ∀ (es : Es) (ps : List Expr) (sc : Scope), chkEs c sc es ps = true → ∀ (env : Env) (pos : Pos), (backTo pos (starEach ps env)).any (·.1) = false
  | .nil, [], _, _, env, pos => rfl
  | .nil, _ :: _, _, h, _, _ => by simp [chkEs] at h
  | .cons e es, [], _, h, _, _ => by simp [chkEs] at h
  | .cons e es, p :: ps, sc, h, env, pos => by
    simp only [chkEs, Bool.and_eq_true] at h
    rw [star_ne h.1 ps env]
    show (backTo pos (starEach ps env)).any (·.1) = false
    exact plain_es es ps sc h.2 env pos
theorem plainIx_of {b : Expr} (h : notSlice b = true) : PlainIx b := by
  intro o i
  cases b <;> first | rfl | (simp [notSlice] at h)
theorem folded_of {b : Expr} (h : notSet b = true) (env : Env) : ∀ x, foldedSetIterable b env x = pure x := by
  intro x
  cases b <;> first | rfl | (simp [notSet] at h)
theorem vis_of {sc : Scope} {x : Str} (h : visB sc x = true) : Vis sc x := by
  unfold visB at h
  split at h
  · exact .inl (by assumption)
  · exact .inr (.inl (by assumption))
  · exact .inr (.inr (by assumption))
  · cases h
theorem loc_of {sc : Scope} {x : Str} (h : locB sc x = true) : Loc sc x := by
  unfold locB at h
  split at h
  · exact .inl (by assumption)
  · exact .inr (by assumption)
  · cases h
theorem gl_of {sc : Scope} {x : Str} (h : glB sc x = true) : sc.names.lookup x = some .globalImplicit := by
  unfold glB at h
  split at h
  · assumption
  · cases h
/-- the surroundings -/
structure Wd where
  P : Program
  w : World
  K : PySem.W.Frag
  mg : Str → Option Value
  base : Heap
  k : Nat
  cl : Nat → FM
  xa : Nat → Addr
  c : Cfg
structure Wd.Ok (Z : Wd) : Prop where
  nd : Z.c.N.Nodup
  fn : ∀ f ∈ Z.c.fs, ∃ fa fd ps, FnOk Z.P Z.w Z.K Z.mg Z.base (L2.CX Z.P Z.w) Z.k fa fd ps (Prom (Z.c.ar f) Z.xa (Z.cl f)) ∧ Z.mg (Z.c.nm f) = some (.ref fa) ∧ PySem.W.keepIn Z.K (.ref fa) = true ∧ Binds Z.K fd ps []
  bi : ∀ b : Bi, Z.mg b.name = none
  ty : ∀ t : Ty, Z.mg (Str.ofString t.name) = none
  ii : Z.mg "isinstance" = none
  rg : Z.mg "range" = none
  en : Z.mg "enumerate" = none
  zp : Z.mg "zip" = none
  st : Z.mg "set" = none
  ex : ∀ c ∈ Z.c.xs, ExcF Z.K Z.mg (Z.c.xn c) (Z.xa c)
  xm : ∀ c ∈ Z.c.xs, ∀ d ∈ Z.c.xs, PySem.W.exmOne Z.K (.ref (Z.xa c)) (.ref (Z.xa d)) = some (decide (c = d))
  xk : ∀ c ∈ Z.c.xs, PySem.W.keepIn Z.K (.ref (Z.xa c)) = true
structure CtxE (Z : Wd) (X : Cx) (sc : Scope) : Prop where
  P : X.prog = Z.P
  w : X.w = Z.w
  K : X.K = Z.K
  mg : X.mg = Z.mg
  base : X.base = Z.base
  N : X.N = Z.c.N
  sc : X.env.scope = sc
  calm : X.calm = true
  room : Room Z.k X.A
theorem CtxE.gl {Z : Wd} {X : Cx} {sc : Scope} (cx : CtxE Z X sc) {x : Str} (h : glB sc x = true) : Gl X x := by
  show X.env.scope.names.lookup x = _
  rw [cx.sc]
  exact gl_of h
theorem CtxE.blk {Z : Wd} {X : Cx} {sc : Scope} (cx : CtxE Z X sc) (s : Shared) (H : Hp) (scope : Scope) (C : Addr) (cl : List (Str × Addr)) (fp : List Addr) : CtxE Z (X.blk s H scope (compEnvC scope cl C X.env) fp) (relS scope sc) :=
  ⟨cx.P, cx.w, cx.K, cx.mg, cx.base, cx.N, by show relS scope X.env.scope = _; rw [cx.sc], cx.calm, cx.room⟩
theorem bop_ok {X : Cx} {op : BOp} {o : Operator} (h : op.ok o = true) : OpV X (binaryOp o) op.g := by
  cases op <;> cases o <;> first | (simp [BOp.ok] at h; done) | exact ov_add | exact ov_sub | exact ov_mul | exact ov_fdiv | exact ov_mod
theorem cop_ok {X : Cx} {op : COp} {o : CmpOp} {k : Nat} (r : Room k X.A) (h : op.ok o = true) : OpV X (compareOp o) op.g := by
  have u1 : X.A.units + 64 < cLine := r.units
  have u2 : X.A.units + 65 < cLine := by have := r.un; omega
  cases op <;> cases o <;> first | (simp [COp.ok] at h; done) | exact ov_lt | exact ov_le | exact ov_gt | exact ov_ge | exact ov_eq u1 | exact ov_ne u1 | exact ov_in u2 | exact ov_nin u2
section
variable {Z : Wd}
/-- the names that may be stored -/
def Sto (X : Cx) (sc : Scope) : Prop := ∀ x, locB sc x = true → Loc X.env.scope x ∧ (X.fn x = true ∨ X.env.scope.names.lookup x = some .local)
theorem tg_names {X : Cx} {sc : Scope} (hN : X.N = Z.c.N) (zo : Z.Ok) (fx : Sto X sc) : ∀ (is : List Nat) (es : List Expr), chkNames Z.c.N sc is es = true → PGs X es (TGsv is) ∧ es.length = is.length ∧ (assignEach es X.env).length = is.length ∧ (assignEach es X.env).findIdx? (·.1) = none
  | [], [], _ => ⟨gd_nil, rfl, rfl, rfl⟩
  | [], _ :: _, h => by simp [chkNames] at h
  | _ :: _, [], h => by simp [chkNames] at h
  | i :: is, e :: es, h => by
    cases e with
    | Name x p =>
      simp only [chkNames, Bool.and_eq_true, decide_eq_true_eq] at h
      obtain ⟨⟨h1, h2⟩, h3⟩ := h
      obtain ⟨g1, g2, g3, g4⟩ := tg_names hN zo fx is es h3
      refine ⟨gd_cons (by rw [hN]; exact zo.nd) (by rw [hN]; exact h1) (fx x h2).1 (fx x h2).2 g1 rfl, by rw [List.length_cons, List.length_cons, g2], ?_, ?_⟩
      · show (assignEach es X.env).length + 1 = is.length + 1
        rw [g3]
      · show List.findIdx? (·.1) ((false, _) :: assignEach es X.env) = none
        rw [List.findIdx?_cons, g4]
        rfl
    | _ => simp [chkNames] at h
theorem tg_ok {X : Cx} {sc : Scope} (hN : X.N = Z.c.N) (hc : X.calm = true) (zo : Z.Ok) (fx : Sto X sc) {t : Tg} {e : Expr} (h : chkTg Z.c.N sc t e = true) : PG X e (TGv t) := by
  cases t with
  | name i =>
    cases e with
    | Name x p =>
      simp only [chkTg, Bool.and_eq_true, decide_eq_true_eq] at h
      exact gd_name (by rw [hN]; exact zo.nd) (by rw [hN]; exact h.1) (fx x h.2).1 (fx x h.2).2
    | _ => simp [chkTg] at h
  | tup is =>
    cases e with
    | Tuple es k p =>
      simp only [chkTg] at h
      obtain ⟨g1, g2, g3, g4⟩ := tg_names hN zo fx is es h
      exact gd_tup hc g1 rfl g3 g4
    | _ => simp [chkTg] at h
theorem fx_blk {X : Cx} {scope : Scope} {s : Shared} {H : Hp} {C : Addr} {cl : List (Str × Addr)} {fp : List Addr} : Sto (X.blk s H scope (compEnvC scope cl C X.env) fp) scope := by
  intro x h
  rcases loc_of h with h | h
  · have e : (relS scope X.env.scope).names.lookup x = some .local := lookup_relS_keep (by intro z; cases z) h
    exact ⟨.inl e, .inr e⟩
  · have e : (relS scope X.env.scope).names.lookup x = some .cell := lookup_relS_keep (by intro z; cases z) h
    refine ⟨.inr e, .inl ?_⟩
    show (scope.names.lookup x == some NameKind.cell) = true
    rw [h]
    rfl
theorem boot_bi (b : Bi) : (∃ id, bootBuiltins b.name = some (.builtin id) ∧ (∀ X : Cx, X.calm = true → CallV X (.builtin id) b.g)) ∨ (∃ T, bootBuiltins b.name = some (.type T) ∧ (∀ X : Cx, X.calm = true → CallV X (.type T) b.g)) := by
  cases b with
  | len => exact .inl ⟨"len", by decide +kernel, fun X _ => cv_len⟩
  | abs => exact .inl ⟨"abs", by decide +kernel, fun X _ => cv_abs⟩
  | max => exact .inl ⟨"max", by decide +kernel, fun X h => cv_max h⟩
  | min => exact .inl ⟨"min", by decide +kernel, fun X h => cv_min h⟩
  | all => exact .inl ⟨"all", by decide +kernel, fun X h => cv_all h⟩
  | any => exact .inl ⟨"any", by decide +kernel, fun X h => cv_any h⟩
  | sorted => exact .inl ⟨"sorted", by decide +kernel, fun X _ => cv_sorted⟩
  | tuple => exact .inr ⟨"tuple", by decide +kernel, fun X _ => cv_tuple⟩
  | list => exact .inr ⟨"list", by decide +kernel, fun X _ => cv_list⟩
  | int => exact .inr ⟨"int", by decide +kernel, fun X _ => cv_int⟩
theorem bi_name (b : Bi) : b.name ≠ "__name__" ∧ (b.name == ("__debug__" : Str)) = false := by cases b <;> exact ⟨by decide +kernel, by decide +kernel⟩
end
end Kb
/-! sets of nested keys: what the machine asks of them, the table, set(tuple), len -/
namespace Kb
open PySem L2
section
variable {P : Program} {w : World}
/-- the items of a key are keys, less deep -/
theorem parts_of {h : Heap} : ∀ {ks : List NestedKey} {vs : List Value}, NestedAll h ks vs → ∀ v ∈ vs, ∃ k, NestedIs h k v ∧ k.depth ≤ NestedKey.depthAll ks
  | [], _, r, v, hv => by cases r; cases hv
  | k :: ks, _, r, v, hv => by
    cases r with
    | cons a b =>
      rcases List.mem_cons.mp hv with rfl | hv
      · exact ⟨k, a, by unfold NestedKey.depthAll; omega⟩
      · obtain ⟨k', h1, h2⟩ := parts_of b v hv
        exact ⟨k', h1, by unfold NestedKey.depthAll; omega⟩
theorem noClass : ∀ (n : Nat) {k : NestedKey} {v : Value} {A : Around} {E : Value → Shared → Prop} {s : Shared} {Q : Bool → Shared → Prop}, NestedIs s.heap k v → k.depth ≤ n → Q false s → wpAny (model P w) A (ofAClassStatement n v) Q E s := by
  intro n
  induction n with
  | zero =>
    intro k v A E s Q hk hn hq
    cases hk with
    | tup => simp [NestedKey.depth] at hn
    | _ => exact wpAny_pure hq
  | succ n ih =>
    intro k v A E s Q hk hn hq
    cases hk with
    | @tup b o items m ks ho hc hd hi =>
      have hT : s.TypeIs (.ref b) "tuple" := ⟨o, ho, hc⟩
      have hp : ∀ v ∈ items.toList, ∃ k, NestedIs s.heap k v ∧ k.depth ≤ n := fun v hv => by
        obtain ⟨k, h1, h2⟩ := parts_of hi v hv
        refine ⟨k, h1, ?_⟩
        simp [NestedKey.depth] at hn
        omega
      unfold ofAClassStatement
      refine wpAny_bind (wpAny_typeOf hT ?_)
      have et : (("tuple" : String) == "tuple") = true := by decide
      simp only [et, if_true, Bool.not_true, Bool.false_eq_true, if_false]
      try refine wpAny_bind (wpAny_pure ?_)
      try simp only [Bool.not_true, Bool.false_eq_true, if_false]
      refine wpAny_bind (wpAny_seqItems ho hd ?_)
      dsimp only
      refine wpAny_bind ?_
      rw [← Array.forIn_toList]
      refine wpAny_forIn_list _ (fun rest r s' => (r.1 = none ∧ s' = s) ∧ ∀ v ∈ rest, ∃ k, NestedIs s.heap k v ∧ k.depth ≤ n) _ ?_ ?_ _ _ ⟨⟨rfl, rfl⟩, hp⟩
      · rintro v rest r s' ⟨⟨hr, rfl⟩, hall⟩
        obtain ⟨k, h1, h2⟩ := hall v List.mem_cons_self
        refine wpAny_bind (ih h1 h2 ?_)
        simp only [Bool.false_eq_true, if_false]
        exact wpAny_pure ⟨⟨rfl, rfl⟩, fun u hu => hall u (List.mem_cons_of_mem _ hu)⟩
      · rintro ⟨r1, r2⟩ s' ⟨⟨hr, rfl⟩, _⟩
        simp only at hr
        subst hr
        exact wpAny_pure hq
    | _ => exact wpAny_pure hq
theorem byValueOrNot : ∀ (n : Nat) {k : NestedKey} {v : Value} {A : Around} {E : Value → Shared → Prop} {s : Shared} {Q : Bool → Shared → Prop}, NestedIs s.heap k v → (∀ b, Q b s) → wpAny (model P w) A (hashByValue n v) Q E s := by
  intro n
  induction n with
  | zero =>
    intro k v A E s Q hk hq
    cases hk <;> exact wpAny_pure (hq _)
  | succ n ih =>
    intro k v A E s Q hk hq
    cases hk with
    | @tup b o items m ks ho hc hd hi =>
      have hT : s.TypeIs (.ref b) "tuple" := ⟨o, ho, hc⟩
      have hp : ∀ v ∈ items.toList, ∃ k, NestedIs s.heap k v := fun v hv => by
        obtain ⟨k, h1, h2⟩ := parts_of hi v hv
        exact ⟨k, h1⟩
      unfold hashByValue
      refine wpAny_bind (wpAny_specialOf hT F.slot_tuple_hash.lookup ?_)
      refine wpAny_bind (wpAny_seqItems ho hd ?_)
      refine wpAny_bind ?_
      show wpAny _ _ (forIn items _ _) _ _ s
      rw [← Array.forIn_toList]
      refine wpAny_forIn_list _ (fun rest r s' => (r.1 = none ∧ s' = s) ∧ ∀ v ∈ rest, ∃ k, NestedIs s.heap k v) _ ?_ ?_ _ _ ⟨⟨rfl, rfl⟩, hp⟩
      · rintro v rest r s' ⟨⟨hr, rfl⟩, hall⟩
        obtain ⟨k, h1⟩ := hall v List.mem_cons_self
        refine wpAny_bind (ih h1 fun c => ?_)
        cases c with
        | true =>
          simp only [Bool.not_true, Bool.false_eq_true, if_false]
          exact wpAny_pure ⟨⟨rfl, rfl⟩, fun u hu => hall u (List.mem_cons_of_mem _ hu)⟩
        | false =>
          simp only [Bool.not_false, if_true]
          exact wpAny_pure (wpAny_pure (hq false))
      · rintro ⟨r1, r2⟩ s' ⟨⟨hr, rfl⟩, _⟩
        simp only at hr
        subst hr
        exact wpAny_pure (hq true)
    | _ => exact wpAny_pure (hq _)
/-- a key that stands in the heap -/
def Nk (h : Heap) (k : NestedKey) (b : Addr) : Prop := NestedIs h k (.ref b) ∧ k.depth ≤ 8
theorem unseen {k : NestedKey} {b : Addr} {A : Around} {E : Value → Shared → Prop} {s : Shared} {Q : Bool → Shared → Prop} (hk : Nk s.heap k b) {ys : List Value} (hy : ∀ y ∈ ys, ∃ k' c, y = Value.ref c ∧ Nk s.heap k' c) (hq : Q false s) :
    wpAny (model P w) A (searchCouldBeSeen (.ref b) ys) Q E s := by
  unfold searchCouldBeSeen
  refine wpAny_bind ?_
  refine wpAny_forIn_list _ (fun rest r s' => (r.1 = none ∧ s' = s) ∧ ∀ y ∈ rest, ∃ k' c, y = Value.ref c ∧ Nk s.heap k' c) _ ?_ ?_ _ _ ⟨⟨rfl, rfl⟩, hy⟩
  · rintro v rest r s' ⟨⟨hr, rfl⟩, hall⟩
    obtain ⟨k', c, rfl, hc⟩ := hall v List.mem_cons_self
    have more : ∀ y ∈ rest, ∃ k' c, y = Value.ref c ∧ Nk s'.heap k' c := fun u hu => hall u (List.mem_cons_of_mem _ hu)
    dsimp only
    by_cases e : (b == c || (carriedByValue (.ref b) && carriedByValue (.ref c))) = true
    · exact wp_if_pos e (wpAny_pure ⟨⟨rfl, rfl⟩, more⟩)
    · refine wp_if_neg e (wpAny_bind (quiet_key k _ 8 s' hk.1 hk.2 _ _ _ ?_))
      simp only [Bool.not_true, Bool.false_eq_true, if_false]
      refine wpAny_bind (quiet_key k' _ 8 s' hc.1 hc.2 _ _ _ ?_)
      simp only [Bool.not_true, Bool.false_eq_true, if_false]
      refine wpAny_bind (noClass 8 hk.1 hk.2 ?_)
      simp only [Bool.false_eq_true, if_false]
      refine wpAny_bind (noClass 8 hc.1 hc.2 ?_)
      simp only [Bool.false_eq_true, if_false]
      exact wpAny_pure ⟨⟨rfl, rfl⟩, more⟩
  · rintro ⟨r1, r2⟩ s' ⟨⟨hr, rfl⟩, _⟩
    simp only at hr
    subst hr
    exact wpAny_pure hq
/-! ### the table: where a search goes -/
def spot (t : SetTable) (g : Int) (c : Nat) : SetTable.Probe := nth t.mask (runAt t.mask (SetTable.bits g % (t.mask + 1)) (SetTable.bits g)) c
theorem spot_j (t : SetTable) (g : Int) (c : Nat) : (spot t g c).j = way t.mask g c := rfl
theorem spot_add (t : SetTable) (g : Int) (c q : Nat) : nth t.mask (spot t g c) q = spot t g (c + q) := (nth_add t.mask c _ q).symm
theorem nth_dummy (m : Nat) : ∀ (n : Nat) (p : SetTable.Probe), p.dummy = none → (nth m p n).dummy = none
  | 0, _, h => h
  | n + 1, p, h => nth_dummy m n (adv m p) (by unfold adv; split <;> exact h)
theorem spot_dummy (t : SetTable) (g : Int) (c : Nat) : (spot t g c).dummy = none := nth_dummy t.mask c _ rfl
/-- from the c-th step on: a slot with this hash, or the empty slot K -/
theorem probe_from {t : SetTable} {hs : List Int} (T : TabOk t hs) {g : Int} {K c : Nat} (hf : K < 10 * SetTable.turns t.mask) (hK : way t.mask g K ∉ t.place.toList) (hb : ∀ c, c < K → way t.mask g c ∈ t.place.toList) (hc : c ≤ K) {hashAt : Nat → Int} :
    (∃ c' i, c ≤ c' ∧ c' < K ∧ t.place.toList[i]? = some (way t.mask g c') ∧ hashAt i = g ∧ (∀ d i', c ≤ d → d < c' → t.place.toList[i']? = some (way t.mask g d) → hashAt i' ≠ g) ∧ t.probe hashAt g (spot t g c) = some (.candidate (way t.mask g c') i (spot t g (c' + 1)))) ∨
    ((∀ d i', c ≤ d → d < K → t.place.toList[i']? = some (way t.mask g d) → hashAt i' ≠ g) ∧ t.probe hashAt g (spot t g c) = some (.empty (way t.mask g K) none)) := by
  have z := go_spec t T.ris T.dm hashAt g (10 * SetTable.turns t.mask) (K - c) (spot t g c) (spot_dummy t g c) (by omega) (fun q hq => by rw [spot_add, spot_j]; exact hb _ (by omega)) (by rw [spot_add, spot_j, show c + (K - c) = K by omega]; exact hK)
  rcases z with ⟨q, i, h1, h2, h3, h4, h5⟩ | ⟨h4, h5⟩
  · rw [spot_add, spot_j] at h2
    refine .inl ⟨c + q, i, by omega, by omega, h2, h3, fun d i' d1 d2 e => h4 (d - c) i' (by omega) (by rw [spot_add, spot_j, show c + (d - c) = d by omega]; exact e), ?_⟩
    rw [spot_add, spot_add, spot_j] at h5
    exact h5
  · refine .inr ⟨fun d i' d1 d2 e => h4 (d - c) i' (by omega) (by rw [spot_add, spot_j, show c + (d - c) = d by omega]; exact e), ?_⟩
    rw [spot_add, spot_j, show c + (K - c) = K by omega] at h5
    exact h5
/-! ### the set -/
abbrev Rows := List (Addr × NestedKey)
def ents (w : World) (L : Rows) : List (Int × Value) := L.map fun p => (p.2.hash w, Value.ref p.1)
def hks (w : World) (L : Rows) : List Int := L.map fun p => p.2.hash w
structure KSet (w : World) (h : Heap) (a : Addr) (L : Rows) (es : Array (Int × Value)) (ep : Nat) (t : SetTable) : Prop where
  obj : ∃ o, h.get? a = some o ∧ o.ExactSet ∧ o.data = .set es ep t
  ent : es.toList = ents w L
  tab : TabOk t (hks w L)
  diff : (L.map (·.2)).Nodup
  keys : ∀ p ∈ L, Nk h p.2 p.1
  led : w.params.followText "set-order" = true ∨ t.led = true
  room : L.length * 5 < t.mask * 3
  few : L.length < 64
variable {h : Heap} {a : Addr} {L : Rows} {es : Array (Int × Value)} {ep : Nat} {t : SetTable}
theorem KSet.size (R : KSet w h a L es ep t) : es.size = L.length := by
  rw [← Array.length_toList, R.ent, ents, List.length_map]
theorem KSet.psize (R : KSet w h a L es ep t) : t.place.size = L.length := by rw [R.tab.sz, hks, List.length_map]
theorem KSet.fits (R : KSet w h a L es ep t) : t.fits es.size = true := by
  have h1 := R.psize
  have h2 := R.size
  have h3 := R.room
  unfold SetTable.fits SetTable.fill
  rw [R.tab.dm, Bool.and_eq_true, beq_iff_eq, decide_eq_true_eq]
  exact ⟨by rw [h1, h2], by show t.place.size + 0 ≤ t.mask; omega⟩
theorem ents_at {L : Rows} {es : Array (Int × Value)} (e : es.toList = ents w L) {i : Nat} {p : Addr × NestedKey} (hp : L[i]? = some p) : es[i]? = some (p.2.hash w, Value.ref p.1) := by
  rw [← Array.getElem?_toList, e, ents, List.getElem?_map, hp]
  rfl
theorem KSet.steady (R : KSet w h a L es ep t) : ¬ t.gaveWay = true := by
  unfold SetTable.gaveWay
  rw [mask_odd R.tab.mok]
  decide
end
section
variable {P : Program} {w : World} {A : Around} {E : Value → Shared → Prop} {s : Shared} {a : Addr} {L : Rows} {es : Array (Int × Value)} {ep : Nat} {t : SetTable}
theorem look_from (R : KSet w s.heap a L es ep t) {x : Addr} {k : NestedKey} (hx : Nk s.heap k x) (hu : A.units + 8 < cLine) {K : Nat} (hf : K < 10 * SetTable.turns t.mask) (hK : way t.mask (k.hash w) K ∉ t.place.toList) (hb : ∀ c, c < K → way t.mask (k.hash w) c ∈ t.place.toList)
    {Q : SetFound → Shared → Prop} (old : k ∈ L.map (·.2) → Q (.there none) s) (new : k ∉ L.map (·.2) → Q (.free (way t.mask (k.hash w) K) false) s) :
    ∀ (f c : Nat) (st : Option SetTable.Probe), st.getD (t.probeStart (k.hash w)) = spot t (k.hash w) c → c ≤ K → K < f + c → (∀ (i : Nat) p, L[i]? = some p → p.2 = k → ∃ d, c ≤ d ∧ d < K ∧ t.place.toList[i]? = some (way t.mask (k.hash w) d)) →
      wpAny (model P w) A (setSearchFrom a (.ref x) (k.hash w) true f st) Q E s := by
  intro f
  induction f with
  | zero => intro c st _ h1 h2; omega
  | succ f ih =>
    intro c st hst hc hcf hin
    obtain ⟨o, ho, hex, hd⟩ := R.obj
    have hA : ∀ (i : Nat) p, L[i]? = some p → (fun i => (es[i]?.map (·.1)).getD 0) i = p.2.hash w := fun i p hp => by
      dsimp only
      rw [ents_at R.ent hp]
      rfl
    rw [setSearchFrom_succ]
    refine wpAny_bind (wpAny_setState_of ho hd R.fits ?_)
    dsimp only
    refine wp_if_neg R.steady ?_
    try refine wpAny_bind (wpAny_pure ?_)
    rw [hst]
    rcases probe_from R.tab (hashAt := fun i => (es[i]?.map (·.1)).getD 0) hf hK hb hc with ⟨c', i, c1, c2, hi, hh, hno, e⟩ | ⟨hno, e⟩
    · rw [e]
      dsimp only
      have hil : i < L.length := by
        have h1 := (List.getElem?_eq_some_iff.mp hi).1
        rw [Array.length_toList, R.psize] at h1
        exact h1
      obtain ⟨p, hp⟩ : ∃ p, L[i]? = some p := ⟨_, List.getElem?_eq_getElem hil⟩
      have hm : p ∈ L := List.mem_of_getElem? hp
      have ent := ents_at R.ent hp
      have go : wpAny (model P w) A (searchRest a (.ref x) (k.hash w) true f es t (way t.mask (k.hash w) c') i (spot t (k.hash w) (c' + 1))) Q E s := by
        unfold searchRest
        rw [ent]
        dsimp only
        refine wpAny_bind (wpAny_holding ((nestedKind P w).eqBool hu (R.keys p hm) hx ?_))
        refine wpAny_bind (wpAny_setState_of ho hd R.fits ?_)
        dsimp only
        by_cases hpk : p.2 = k
        · exact wp_if_pos (by simp [hpk]) (wpAny_pure (old (List.mem_map.mpr ⟨p, hm, hpk⟩)))
        · refine wp_if_neg (by simp [hpk]) ?_
          try refine wpAny_bind (wpAny_pure ?_)
          rw [sameMem]
          have hs : t.slot (way t.mask (k.hash w) c') = .live i := slot_live R.tab.ris hi
          dsimp only
          simp only [if_true, hs, ent]
          refine wpAny_bind (wpAny_isSame_ref_self (wpAny_bind (wpAny_pure ?_)))
          simp only [if_true]
          refine wp_if_neg (by simp [hpk]) (ih (c' + 1) _ rfl (by omega) (by omega) fun i0 p0 h0 hk0 => ?_)
          obtain ⟨d, d1, d2, d3⟩ := hin i0 p0 h0 hk0
          refine ⟨d, ?_, d2, d3⟩
          rcases Nat.lt_trichotomy d c' with z | z | z
          · exact absurd ((hA i0 p0 h0).trans (congrArg (NestedKey.hash w) hk0)) (hno d i0 d1 z d3)
          · subst z
            have s0 := slot_live R.tab.ris d3
            rw [hs] at s0
            injection s0 with s0
            subst s0
            rw [hp] at h0
            cases h0
            exact absurd hk0 hpk
          · omega
      by_cases hl : t.led = true
      · refine wp_if_neg (by simp [hl]) ?_
        try refine wpAny_bind (wpAny_pure ?_)
        exact go
      · refine wp_if_pos (by simp [hl]) (wpAny_bind (unseen hx (fun y hy => ?_) ?_))
        · obtain ⟨en, he, rfl⟩ := List.mem_map.mp hy
          have he1 : en ∈ es.toList := by
            have z : en ∈ es ∧ en.1 = k.hash w := by simpa using he
            simpa using z.1
          rw [R.ent] at he1
          obtain ⟨p2, hp2, rfl⟩ := List.mem_map.mp he1
          exact ⟨p2.2, p2.1, rfl, R.keys p2 hp2⟩
        · refine wp_if_neg (by decide) ?_
          try refine wpAny_bind (wpAny_pure ?_)
          exact go
    · rw [e]
      dsimp only
      refine wpAny_pure (new fun hm => ?_)
      obtain ⟨p0, h0, hk0⟩ := List.mem_map.mp hm
      obtain ⟨i0, hi0, e0⟩ := List.getElem_of_mem h0
      have h00 : L[i0]? = some p0 := by rw [List.getElem?_eq_getElem hi0, e0]
      obtain ⟨d, d1, d2, d3⟩ := hin i0 p0 h00 hk0
      exact hno d i0 d1 d2 d3 ((hA i0 p0 h00).trans (congrArg (NestedKey.hash w) hk0))
theorem look_for (R : KSet w s.heap a L es ep t) {x : Addr} {k : NestedKey} (hx : Nk s.heap k x) (hu : A.units + 8 < cLine) {Q : SetFound → Shared → Prop} (old : k ∈ L.map (·.2) → Q (.there none) s)
    (new : ∀ K, k ∉ L.map (·.2) → way t.mask (k.hash w) K ∉ t.place.toList → (∀ c, c < K → way t.mask (k.hash w) c ∈ t.place.toList) → Q (.free (way t.mask (k.hash w) K) false) s) : wpAny (model P w) A (setSearch a (.ref x) (k.hash w) true) Q E s := by
  have hr := R.room
  obtain ⟨K, h1, h2, h3⟩ := R.tab.first (by rw [hks, List.length_map]; omega) (k.hash w)
  have hb : K < 100000 + 0 := by
    have : 10 * SetTable.turns t.mask ≤ 1420 := by unfold SetTable.turns; rcases R.tab.mok with e | e | e <;> omega
    omega
  unfold setSearch
  refine look_from R hx hu h1 h2 h3 old (fun n => new K n h2 h3) 100000 0 none rfl (Nat.zero_le _) hb fun i p hp hk => ?_
  have hi : (hks w L)[i]? = some (k.hash w) := by rw [hks, List.getElem?_map, hp, ← hk]; rfl
  have hl : i < t.place.toList.length := by
    have := (List.getElem?_eq_some_iff.mp hp).1
    rw [Array.length_toList, R.psize]
    exact this
  have hj := List.getElem?_eq_getElem hl
  obtain ⟨c, hc, e⟩ := R.tab.before h2 hi hj
  exact ⟨c, Nat.zero_le _, hc, by rw [hj, e]⟩
/-! ### laid anew -/
theorem Nk.other {h h' : Heap} {k : NestedKey} {a b : Addr} {o : Obj} {es : Array (Int × Value)} {ep : Nat} {t : SetTable} (x : Nk h k b) (ho : h.get? a = some o) (hd : o.data = .set es ep t) (sb : Heap.SameBut a h h') : Nk h' k b :=
  ⟨NestedIs.at (fun c ob vs n hc hv => (sb.2 c fun e => by subst e; rw [ho] at hc; cases hc; rw [hd] at hv; cases hv).trans hc) k _ x.1, x.2⟩
theorem Nk.more {h h' : Heap} {k : NestedKey} {b : Addr} (x : Nk h k b) (hk : ∀ c o, h.get? c = some o → h'.get? c = some o) : Nk h' k b :=
  ⟨NestedIs.at (fun c ob _ _ hc _ => hk c ob hc) k _ x.1, x.2⟩
theorem ents_pick {es : Array (Int × Value)} (e : es.toList = ents w L) : ∀ l : List Nat, (∀ i ∈ l, i < L.length) → l.filterMap (fun i => es[i]?) = ents w (l.filterMap fun i => L[i]?) ∧ hks w (l.filterMap fun i => L[i]?) = l.map fun i => (es.map (·.1)).getD i 0
  | [], _ => ⟨rfl, rfl⟩
  | i :: l, hl => by
    obtain ⟨h1, h2⟩ := ents_pick e l fun j hj => hl j (List.mem_cons_of_mem _ hj)
    have hi := hl i List.mem_cons_self
    have hL : L[i]? = some L[i] := List.getElem?_eq_getElem hi
    have hE := ents_at e hL
    refine ⟨?_, ?_⟩
    · rw [List.filterMap_cons_some hE, List.filterMap_cons_some hL, h1]
      rfl
    · rw [List.filterMap_cons_some hL, List.map_cons, ← h2]
      have : (es.map (·.1)).getD i 0 = (L[i]).2.hash w := by
        have z : (es.map (·.1))[i]? = some ((L[i]).2.hash w) := by rw [Array.getElem?_map, hE]; rfl
        simp [Array.getD_eq_getD_getElem?, z]
      rw [this]
      rfl
theorem take_all {α : Type} (L : List α) : ∀ n, n ≤ L.length → (List.range n).filterMap (fun i => L[i]?) = L.take n
  | 0, _ => rfl
  | n + 1, h => by
    have hlt : n < L.length := h
    rw [List.range_succ, List.filterMap_append, take_all L n (Nat.le_of_lt hlt), List.take_succ, List.getElem?_eq_getElem hlt, List.filterMap_cons_some (List.getElem?_eq_getElem hlt)]
    rfl
theorem lay_anew {o : Obj} (ho : s.heap.get? a = some o) (hex : o.ExactSet) (hd : o.data = .set es ep t) (hent : es.toList = ents w L) (hps : t.place.size = L.length) (hdm : t.dummies = #[]) (hfl : L.length ≤ t.mask) (diff : (L.map (·.2)).Nodup) (keys : ∀ p ∈ L, Nk s.heap p.2 p.1)
    (led : w.params.followText "set-order" = true ∨ t.led = true) (few : L.length < 64) {wanted M : Nat} (hw : SetTable.sizeAbove wanted - 1 = M) (hM : MaskOk M) (h128 : SetTable.sizeAbove wanted ≤ 128) (room : L.length * 5 < M * 3) {Q : Unit → Shared → Prop}
    (hQ : ∀ h' L' es' ep' t', Heap.SameBut a s.heap h' → KSet w h' a L' es' ep' t' → L'.Perm L → Q () { s with heap := h' }) : wpAny (model P w) A (setRelay a wanted) Q E s := by
  have hsz : es.size = L.length := by rw [← Array.length_toList, hent, ents, List.length_map]
  have hfit : t.fits es.size = true := by
    unfold SetTable.fits SetTable.fill
    rw [hdm, Bool.and_eq_true, beq_iff_eq, decide_eq_true_eq]
    exact ⟨by rw [hps, hsz], by show t.place.size + 0 ≤ t.mask; omega⟩
  obtain ⟨t', order, e, hp, T, em, el, _, ed⟩ := relaid_ok t (hs := es.map (·.1)) (wanted := wanted) hw hM (by rw [Array.size_map, hsz]; omega)
  rw [Array.size_map, hsz] at hp
  obtain ⟨r1, r2⟩ := ents_pick hent order.toList fun i hi => List.mem_range.mp (hp.mem_iff.mp hi)
  have pm : (order.toList.filterMap fun i => L[i]?).Perm L := by
    have z := hp.filterMap fun i => L[i]?
    rw [take_all L L.length (Nat.le_refl _), List.take_length] at z
    exact z
  generalize order.toList.filterMap (fun i => L[i]?) = L2 at r1 r2 pm
  rw [← r2] at T
  have r1' : (order.filterMap (es[·]?)).toList = ents w L2 := by
    first
      | (rw [Array.toList_filterMap]; exact r1)
      | simpa using r1
  have hs2 : (order.filterMap (es[·]?)).size = es.size := by rw [← Array.length_toList, r1', ents, List.length_map, pm.length_eq, hsz]
  rw [setRelay_eq]
  refine wpAny_bind (wpAny_setState_of ho hd hfit ?_)
  dsimp only
  refine wp_if_neg (by rw [sizeLine_eq]; omega) ?_
  try refine wpAny_bind (wpAny_pure ?_)
  rw [e]
  dsimp only
  refine wpAny_bind (wp_if_neg (by rw [hs2]; simp) ?_)
  try refine wpAny_bind (wpAny_pure ?_)
  refine wpAny_pure ?_
  dsimp only
  refine wpAny_storeSet_of ho hd ?_ (by rw [hs2, hsz, sizeLine_eq]; omega)
  have sb : Heap.SameBut a s.heap (s.heap.update a (Obj.putSet (order.filterMap (es[·]?)) t')) := Heap.SameBut.update ..
  exact hQ _ L2 _ (ep + 1) t' sb ⟨⟨_, store_at ho hd, ⟨hex.1, hex.2.1, hex.2.2⟩, rfl⟩, r1', T, (pm.map (·.2)).nodup_iff.mpr diff, fun p hpm => (keys p (pm.mem_iff.mp hpm)).other ho hd sb, by rw [el]; exact led, by rw [pm.length_eq, em]; exact room, by rw [pm.length_eq]; exact few⟩ pm
/-! ### one more -/
theorem tabOk_plain {t : SetTable} {hs : List Int} (T : TabOk t hs) (b : Bool) : TabOk (if b = true then t else { t with plain := false }) hs := by
  cases b with
  | true => exact T
  | false => exact ⟨T.ris, T.dm, T.sz, T.mok, T.bd, T.reach⟩
theorem put_in (R : KSet w s.heap a L es ep t) {x : Addr} {k : NestedKey} (hx : Nk s.heap k x) (hu : A.units + 8 < cLine) (few : L.length + 1 < 64) {Q : Bool → Shared → Prop}
    (hQ : ∀ b h' L' es' ep' t', Heap.SameBut a s.heap h' → KSet w h' a L' es' ep' t' → (k ∈ L.map (·.2) → L' = L) → (k ∉ L.map (·.2) → L'.Perm ((x, k) :: L)) → Q b { s with heap := h' }) : wpAny (model P w) A (setAddHashed a (.ref x) (k.hash w)) Q E s := by
  obtain ⟨o, ho, hex, hd⟩ := R.obj
  have hsz := R.size
  have hroom := R.room
  unfold setAddHashed
  refine wpAny_holding ?_
  rw [show (100000 : Nat) = 99999 + 1 from rfl, setAddHashedIn_succ]
  refine wpAny_bind (wpAny_setState_of ho hd R.fits ?_)
  dsimp only
  refine wp_if_neg (by simp [byScan, Value.scannable]) ?_
  try refine wpAny_bind (wpAny_pure ?_)
  refine wpAny_bind (look_for R hx hu (fun hm => ?_) fun K hm hK hb => ?_)
  · exact wpAny_pure (hQ false s.heap L es ep t (Heap.SameBut.refl a s.heap) R (fun _ => rfl) fun z => absurd hm z)
  · dsimp only
    refine wpAny_bind (wpAny_setState_of ho hd R.fits ?_)
    dsimp only
    obtain ⟨q1, q2, q3, q4, q5, q6, q7, q8, q9⟩ := R.tab.put hK hb
    generalize hpt : t.put (way t.mask (k.hash w) K) = pt at q1 q3 q4 q5 q6 q7 q8 q9 ⊢
    obtain ⟨t1, p⟩ := pt
    dsimp only at q1 q3 q4 q5 q6 q7 q8 q9 ⊢
    subst q1
    -- the entry stands at p
    generalize hpp : SetTable.below t.place (way t.mask (k.hash w) K) = p at q2 q3 ⊢
    have pm : (L.take p ++ (x, k) :: L.drop p).Perm ((x, k) :: L) := by
      have z : (L.take p ++ (x, k) :: L.drop p).Perm ((x, k) :: (L.take p ++ L.drop p)) := List.perm_middle
      rw [List.take_append_drop] at z
      exact z
    have he1 : (SetTable.insertAt es p (k.hash w, Value.ref x)).toList = ents w (L.take p ++ (x, k) :: L.drop p) := by
      rw [SetTable.toList_insertAt, R.ent]
      simp only [ents, List.map_append, List.map_cons, List.map_take, List.map_drop]
    have hh1 : (hks w L).take p ++ k.hash w :: (hks w L).drop p = hks w (L.take p ++ (x, k) :: L.drop p) := by
      simp only [hks, List.map_append, List.map_cons, List.map_take, List.map_drop]
    rw [hh1] at q3
    generalize L.take p ++ (x, k) :: L.drop p = L1 at pm he1 q3
    have hl1 : L1.length = L.length + 1 := pm.length_eq
    have diff1 : (L1.map (·.2)).Nodup := by
      refine (pm.map (·.2)).nodup_iff.mpr ?_
      rw [List.map_cons]
      exact List.nodup_cons.mpr ⟨hm, R.diff⟩
    generalize SetTable.insertAt es p (k.hash w, Value.ref x) = es1 at he1 ⊢
    have hes : es1.size = L.length + 1 := by rw [← Array.length_toList, he1, ents, List.length_map, hl1]
    have q9' : t1.fill = L.length + 1 := by rw [q9, hks, List.length_map]
    have after : ∀ b : Bool, wpAny (model P w) A (do
        storeSet a es1 (if b = true then t1 else { t1 with plain := false })
        if !false && (if b = true then t1 else { t1 with plain := false }).tooFull then setRelay a (SetTable.grown (es.size + 1))
        return true) Q E s := by
      intro b
      have T2 := tabOk_plain q3 b
      have m2 : (if b = true then t1 else { t1 with plain := false }).mask = t.mask := by cases b <;> exact q4
      have l2 : (if b = true then t1 else { t1 with plain := false }).led = t.led := by cases b <;> exact q5
      have f2 : (if b = true then t1 else { t1 with plain := false }).fill = L.length + 1 := by cases b <;> exact q9'
      generalize (if b = true then t1 else { t1 with plain := false }) = t2 at T2 m2 l2 f2 ⊢
      refine wpAny_bind (wpAny_storeSet_of ho hd ?_ (by rw [hes, sizeLine_eq]; omega))
      have sb : Heap.SameBut a s.heap (s.heap.update a (Obj.putSet es1 t2)) := Heap.SameBut.update ..
      have ho1 := store_at (es' := es1) (t' := t2) ho hd
      generalize s.heap.update a (Obj.putSet es1 t2) = h1 at sb ho1 ⊢
      have keys1 : ∀ p ∈ L1, Nk h1 p.2 p.1 := fun q hq => by
        rcases List.mem_cons.mp (pm.mem_iff.mp hq) with e | hq
        · rw [e]; exact hx.other ho hd sb
        · exact (R.keys q hq).other ho hd sb
      have led1 : w.params.followText "set-order" = true ∨ t2.led = true := by rw [l2]; exact R.led
      have ps : t2.place.size = L1.length := by rw [T2.sz, hks, List.length_map]
      by_cases hf : t2.tooFull = true
      · have full : (L.length + 1) * 5 ≥ t.mask * 3 := by
          have z := hf
          unfold SetTable.tooFull at z
          rw [decide_eq_true_eq, f2, m2] at z
          exact z
        have go : ∀ M, SetTable.sizeAbove (SetTable.grown (L.length + 1)) - 1 = M → MaskOk M → SetTable.sizeAbove (SetTable.grown (L.length + 1)) ≤ 128 → (L.length + 1) * 5 < M * 3 → L.length + 1 ≤ t.mask →
            wpAny (model P w) A (setRelay a (SetTable.grown (L.length + 1))) (fun _ s' => wpAny (model P w) A (pure true) Q E s') E { s with heap := h1 } := fun M g1 g2 g3 g4 g5 => by
          refine lay_anew (s := { s with heap := h1 }) ho1 ⟨hex.1, hex.2.1, hex.2.2⟩ rfl he1 ps T2.dm (by rw [hl1, m2]; exact g5) diff1 keys1 led1 (by rw [hl1]; exact few) g1 g2 g3 (by rw [hl1]; exact g4) ?_
          intro h2 L2 es2 ep2 t2 sb2 R2 pm2
          exact wpAny_pure (hQ true h2 L2 es2 ep2 t2 (sb.trans sb2) R2 (fun z => absurd z hm) fun _ => pm2.trans pm)
        have run : wpAny (model P w) A (setRelay a (SetTable.grown (L.length + 1))) (fun _ s' => wpAny (model P w) A (pure true) Q E s') E { s with heap := h1 } := by
          rcases R.tab.mok with e | e | e
          · have e2 : L.length = 4 := by rw [e] at hroom full; omega
            exact go 31 (by rw [e2, size_20]) (.inr (.inl rfl)) (by rw [e2, size_20]; decide) (by omega) (by rw [e]; omega)
          · have e2 : L.length = 18 := by rw [e] at hroom full; omega
            exact go 127 (by rw [e2, size_76]) (.inr (.inr rfl)) (by rw [e2, size_76]; decide) (by omega) (by rw [e]; omega)
          · exfalso; rw [e] at full; omega
        rw [hsz]
        first
          | exact wpAny_bind (wp_if_pos (by simp [hf]) run)
          | exact wp_if_pos (by simp [hf]) (wpAny_bind run)
      · have last : Q true { s with heap := h1 } := hQ true h1 L1 es1 (ep + 1) t2 sb ⟨⟨_, ho1, ⟨hex.1, hex.2.1, hex.2.2⟩, rfl⟩, he1, T2, diff1, keys1, led1, by
          have z := hf
          unfold SetTable.tooFull at z
          rw [decide_eq_true_eq, f2] at z
          rw [hl1]
          omega, by rw [hl1]; exact few⟩ (fun z => absurd z hm) fun _ => pm
        first
          | exact wp_if_neg (by simp [hf]) (wpAny_pure last)
          | exact wpAny_bind (wp_if_neg (by simp [hf]) (wpAny_pure (wpAny_pure last)))
    by_cases hp1 : t1.plain = true
    · first
        | exact wpAny_bind (wp_if_pos hp1 (byValueOrNot 8 hx.1 fun b => after b))
        | exact wp_if_pos hp1 (wpAny_bind (byValueOrNot 8 hx.1 fun b => after b))
    · first
        | exact wpAny_bind (wp_if_neg hp1 (wpAny_pure (after true)))
        | exact wp_if_neg hp1 (wpAny_bind (wpAny_pure (after true)))
        | exact wp_if_neg hp1 (after true)
/-! ### set(tuple) -/
def bare0 (w : World) : Obj := { cls := .type "set", dict := none, data := .set #[] 0 (.fresh 0 0 (!w.params.followText "set-order")) }
theorem KSet.empty {h : Heap} (ho : h.get? a = some (bare0 w)) : KSet w h a [] #[] 0 (.fresh 0 0 (!w.params.followText "set-order")) where
  obj := ⟨_, ho, ⟨rfl, rfl, rfl⟩, rfl⟩
  ent := rfl
  tab := ⟨List.Pairwise.nil, rfl, rfl, .inl rfl, fun x hx => (by cases hx), fun i h j hi => (by simp [hks] at hi)⟩
  diff := List.nodup_nil
  keys := fun p hp => (by cases hp)
  led := by
    cases e : w.params.followText "set-order"
    · exact .inr rfl
    · exact .inl rfl
  room := by show 0 * 5 < 7 * 3; decide
  few := by show 0 < 64; decide
theorem KSet.kept {h h' : Heap} (R : KSet w h a L es ep t) (ha : ∀ o, h.get? a = some o → h'.get? a = some o) (hk : ∀ p ∈ L, Nk h' p.2 p.1) : KSet w h' a L es ep t :=
  let ⟨o, ho, r⟩ := R.obj
  ⟨⟨o, ha o ho, r⟩, R.ent, R.tab, R.diff, hk, R.led, R.room, R.few⟩
/-- L holds the first i keys -/
structure Upto (ks : Rows) (i : Nat) (L : Rows) : Prop where
  from_ : ∀ p ∈ L, p ∈ ks.take i
  has : ∀ p ∈ ks.take i, p.2 ∈ L.map (·.2)
  le : L.length ≤ i
theorem Upto.next {ks L L' : Rows} {i : Nat} {x : Addr × NestedKey} (u : Upto ks i L) (hx : ks[i]? = some x) (old : x.2 ∈ L.map (·.2) → L' = L) (new : x.2 ∉ L.map (·.2) → L'.Perm (x :: L)) : Upto ks (i + 1) L' := by
  have e : ks.take (i + 1) = ks.take i ++ [x] := by rw [List.take_succ, hx]; rfl
  by_cases c : x.2 ∈ L.map (·.2)
  · rw [old c]
    refine ⟨fun p hp => by rw [e]; exact List.mem_append_left _ (u.from_ p hp), fun p hp => ?_, Nat.le_succ_of_le u.le⟩
    rw [e] at hp
    rcases List.mem_append.mp hp with z | z
    · exact u.has p z
    · rw [List.mem_singleton.mp z]; exact c
  · have pm := new c
    refine ⟨fun p hp => ?_, fun p hp => ?_, ?_⟩
    · rw [e]
      rcases List.mem_cons.mp (pm.mem_iff.mp hp) with rfl | z
      · exact List.mem_append_right _ (List.mem_singleton.mpr rfl)
      · exact List.mem_append_left _ (u.from_ p z)
    · rw [(pm.map (·.2)).mem_iff, List.map_cons]
      rw [e] at hp
      rcases List.mem_append.mp hp with z | z
      · exact List.mem_cons_of_mem _ (u.has p z)
      · rw [List.mem_singleton.mp z]; exact List.mem_cons_self
    · rw [pm.length_eq, List.length_cons]
      exact Nat.succ_le_succ u.le
theorem fill_up {J : Addr} {fp wr : List Addr} {G : Array GenState → Array GenState → Prop} {n : Nat} {Pv : Nat → Value → Prop} {St : Nat → Shared → Prop} {R : Result → Shared → Prop} (W : WalksS P w A.in1 J fp wr G n Pv St) (S : Addr) (hS : S ∉ fp) (ks : Rows) (hn : n = ks.length) (few : ks.length < 64)
    (val : ∀ i v, Pv i v → ∃ p, ks[i]? = some p ∧ v = .ref p.1) (h0 : Heap) (hk : ∀ p ∈ ks, Nk h0 p.2 p.1) (hS0 : h0.get? S = none) (hw0 : ∀ b ∈ wr, h0.get? b = none) (hu : A.in1.units + 8 < cLine) :
    ∀ (m i : Nat) (s : Shared), n - i = m → i ≤ n → St i s → (∀ b o, h0.get? b = some o → s.heap.get? b = some o) → (∃ L es ep t, KSet w s.heap S L es ep t ∧ Upto ks i L) →
      (∀ s' L es ep t, Moved (S :: wr) G s s' → KSet w s'.heap S L es ep t → Upto ks n L → (∀ b o, h0.get? b = some o → s'.heap.get? b = some o) → R (.ok (.ret .none)) s') →
      codeAny (model P w) A (.builtin "set.update.loop" ⟨[.ref S, .ref J], []⟩) R s := by
  have hSw : S ∉ wr := fun z => hS (W.sub _ z)
  have wider : ∀ b ∈ wr, b ∈ S :: wr := fun b hb => List.mem_cons_of_mem _ hb
  have keep : ∀ {s s' : Shared}, Moved wr G s s' → (∀ b o, h0.get? b = some o → s.heap.get? b = some o) → ∀ b o, h0.get? b = some o → s'.heap.get? b = some o := fun mv k b o e =>
    mv.heap b o (fun hb => by rw [hw0 b hb] at e; cases e) (k b o e)
  intro m
  induction m with
  | zero =>
    intro i s hm hi st k0 ⟨L, es, ep, t, R0, u⟩ hR
    obtain rfl : i = n := by omega
    refine codeAny_builtin PyProof.Rows.F.entry_set_update_loop ?_
    rw [Around.under_plainId PyProof.Rows.F.plain_set_update_loop _]
    refine wpAny_bind (W.done s _ _ st fun s' mv => ?_)
    have k1 := keep mv k0
    exact wpAny_pure (hR s' L es ep t (mv.mono wider) (R0.kept (fun o e => mv.heap S o hSw e) fun p hp => (hk p (List.mem_of_mem_take (u.from_ p hp))).more k1) u k1)
  | succ m ih =>
    intro i s hm hi st k0 ⟨L, es, ep, t, R0, u⟩ hR
    have hlt : i < n := by omega
    refine codeAny_builtin PyProof.Rows.F.entry_set_update_loop ?_
    rw [Around.under_plainId PyProof.Rows.F.plain_set_update_loop _]
    refine wpAny_bind (W.item i s _ _ hlt st fun v s' hP st' mv => ?_)
    obtain ⟨p, hp, rfl⟩ := val i v hP
    have k1 := keep mv k0
    have R1 : KSet w s'.heap S L es ep t := R0.kept (fun o e => mv.heap S o hSw e) fun q hq => (hk q (List.mem_of_mem_take (u.from_ q hq))).more k1
    have hx : Nk s'.heap p.2 p.1 := (hk p (List.mem_of_getElem? hp)).more k1
    refine wpAny_bind (wpAny_holding ?_)
    unfold setAdd
    refine wpAny_holding (wpAny_bind ((nestedKind P w).pyHash hu hx ?_))
    refine put_in (s := { s' with toks := s'.toks + (nestedKind P w).draws p.2 }) R1 hx hu (by have := u.le; omega) fun b h' L' es' ep' t' sb R2 c1 c2 => ?_
    have k2 : ∀ b o, h0.get? b = some o → h'.get? b = some o := fun b o e => (sb.2 b (fun z => by rw [z, hS0] at e; cases e)).trans (k1 b o e)
    refine wpAny_pure ⟨plainId_quiet PyProof.Rows.F.plain_set_update_loop _, ih (i + 1) _ (by omega) hlt (W.frame _ s' _ _ st' (Nat.le_add_right _ _) fun b hb o e => ?_) k2 ⟨L', es', ep', t', R2, u.next hp c1 c2⟩ fun s2 L2 es2 ep2 t2 mv2 R3 u2 k3 => ?_⟩
    · rw [sb.2 b (fun z : b = S => hS (by rw [← z]; exact hb))]; exact e
    · refine hR s2 L2 es2 ep2 t2 (Moved.trans W.gtrans ((mv.mono wider).then_heap (Nat.le_add_right _ _) fun b o hb e => ?_) mv2) R3 u2 k3
      rw [sb.2 b (fun z : b = S => hb (by rw [z]; exact List.mem_cons_self))]; exact e
set_option maxHeartbeats 8000000 in
open PySem.Spec PyProof.Rows in
theorem set_of {l : Addr} {items : Array Value} (ks : Rows) {Q : Value → Shared → Prop} (hh : A.handled = none) (hl : s.heap.IsTuple l items) (hit : items.toList = ks.map fun p => Value.ref p.1) (hk : ∀ p ∈ ks, Nk s.heap p.2 p.1) (few : ks.length < 64) (hu : A.units + 16 < cLine)
    (hQ : ∀ (h' : Heap) (tk : Nat) L es ep t, KSet w h' s.heap.objs.size L es ep t → Upto ks ks.length L → (∀ b o, s.heap.get? b = some o → h'.get? b = some o) → Q (.ref s.heap.objs.size) { s with heap := h', toks := tk }) :
    wpAny (model P w) A (call (.type "set") [.ref l]) Q E s := by
  have hisz : items.size = ks.length := by rw [← Array.length_toList, hit, List.length_map]
  have gone : ∀ b, s.heap.objs.size ≤ b → s.heap.get? b = none := fun b hb => by
    cases q : s.heap.get? b with
    | none => rfl
    | some o => exact absurd (Heap.lt_size q) (Nat.not_lt.mpr hb)
  obtain ⟨c, tl, hmro⟩ := F.called_set.mro
  have hmade := F.called_set.made
  have hsub := F.called_set.sub
  have h1 := F.called_set.notType
  have h2 := F.called_set.canCreate
  have hct := F.typeCall_set_1 (.ref l)
  refine wpAny_call (codeAny_of_tree ?_)
  show wpAny _ _ (callAny (.type "set") _) _ _ _
  refine wpAny_pure ⟨Code.quiet_builtin _ (by decide +kernel), codeAny_builtin F.entry_type_call ?_⟩
  rw [Around.under_plain (weight_type_call_type "set" [.ref l] []) rfl]
  repeat (any_goals (first | assumption | wp_step))
  refine codeAny_mono (code_set_led1 (.ref l) (E := E) (Q₁ := fun obj s₁ => obj = .ref s.heap.objs.size ∧ s₁ = { s with heap := s.heap.push (bare0 w) }) ⟨rfl, rfl⟩) fun r s₁ hr => ?_
  cases r with
  | error e => exact hr
  | ok fl =>
    cases fl with
    | ret obj =>
      obtain ⟨rfl, rfl⟩ := hr
      have hS : (s.heap.push (bare0 w)).get? s.heap.objs.size = some (bare0 w) := Heap.get?_push_size _ rfl
      have hT : Shared.TypeIs { s with heap := s.heap.push (bare0 w) } (.ref s.heap.objs.size) "set" := ⟨_, hS, rfl⟩
      have hli := F.called_set.init.lookup
      have hbi := F.called_set.init.bind (.ref s.heap.objs.size)
      repeat (any_goals (first | assumption | wp_step))
      refine codeAny_mono (codeAny_call_builtin (R := wants (fun r s₂ => r = .none ∧ ∃ h' tk L es ep t, s₂ = { s with heap := h', toks := tk } ∧ KSet w h' s.heap.objs.size L es ep t ∧ Upto ks ks.length L ∧
          (∀ b o, s.heap.get? b = some o → h'.get? b = some o)) E) F.called_set.init.plain F.entry_set_init (check_set_init_1 hT ?_)) fun r₂ s₂ hr₂ => ?_
      · obtain ⟨ol, hol, hcl, nl, hdl⟩ := hl
        obtain ⟨ocls, odict, odata, oslots⟩ := ol
        simp only at hcl hdl
        subst hcl; subst hdl
        have hol' : (s.heap.push (bare0 w)).get? l = some { cls := .type "tuple", dict := odict, data := .seq items nl, slots := oslots } := Heap.get?_push_of_some _ hol
        have hsls := F.sub_tuple_set
        have hslf := F.sub_tuple_frozenset
        have hne : (Value.type "tuple" == Value.type "dict") = false := by decide
        have hl1 : (s.heap.push (bare0 w)).IsTuple l items := ⟨_, hol', rfl, nl, rfl⟩
        unfold Builtin.«set.__init__» noKeywords Builtin.Frozenset.updateFrom
        generalize hPI : pyIter = PI
        wp_walk
        subst hPI
        refine wpAny_pyIter_tuple hl1 ?_
        refine wpAny_bind (wpAny_runValue ?_)
        have hlS : l < s.heap.objs.size := Heap.lt_size hol
        have hh3 : A.in1.in1.in1.handled = none := by simp [hh]
        have hneI : l ≠ (s.heap.push (bare0 w)).objs.size := by rw [Heap.size_push]; exact Nat.ne_of_lt (Nat.lt_succ_of_lt hlS)
        refine fill_up ((Walks.tuple hh3 _ l hneI items).toS) s.heap.objs.size (by rw [Heap.size_push]; simp only [List.mem_cons, List.mem_singleton, List.not_mem_nil, or_false, not_or]; exact ⟨Nat.ne_of_lt (Nat.lt_succ_self _), Nat.ne_of_gt hlS⟩) ks hisz few (fun i v hv => ?val) s.heap hk (gone _ (Nat.le_refl _))
          (fun b hb => gone b (by rw [List.mem_singleton.mp hb, Heap.size_push]; exact Nat.le_succ _)) (by simp only [Around.in1_units]; omega) (items.size - 0) 0 _ (by omega) (Nat.zero_le _) ⟨⟨_, Heap.get?_push_size _ rfl, rfl, rfl⟩, (hl1.push _)⟩ (fun b o e => Heap.get?_push_of_some _ (Heap.get?_push_of_some _ e))
          ⟨[], #[], 0, _, KSet.empty (Heap.get?_push_of_some _ hS), ⟨fun p hp => (by cases hp), fun p hp => (by simp at hp), Nat.le_refl _⟩⟩ ?hR
        case val =>
          have q : items.toList[i]? = some v := by rw [Array.getElem?_toList]; exact hv
          rw [hit, List.getElem?_map] at q
          obtain ⟨p, q1, q2⟩ := Option.map_eq_some_iff.mp q
          exact ⟨p, q1, q2.symm⟩
        case hR =>
          intro s' L es ep t mv R u k
          obtain ⟨h', g2, d', tk', os'⟩ := s'
          have eg : g2 = s.gens := mv.gens
          have ed : d' = s.drawn := mv.drawn
          have eo : os' = s.os := mv.os
          subst eg; subst ed; subst eo
          refine wpAny_pure ?_
          show wpAny _ _ (PySem.ret Value.none) _ _ _
          rw [hisz] at u
          exact wpAny_pure ⟨rfl, h', tk', L, es, ep, t, rfl, R, u, k⟩
      · cases r₂ with
        | error e => exact hr₂
        | ok fl₂ =>
          cases fl₂ with
          | ret r =>
            obtain ⟨rfl, h', tk, L, es, ep, t, rfl, R, u, k⟩ := hr₂
            repeat (any_goals (first | assumption | wp_step))
            exact hQ _ _ _ _ _ _ R u k
          | _ => exact hr₂.elim
    | _ => exact hr.elim
end
end Kb
namespace Kb
open PySem L2
theorem mem_nub {x : NestedKey} : ∀ {l : List NestedKey}, x ∈ nubK l ↔ x ∈ l
  | [] => by simp [nubK]
  | k :: r => by
    unfold nubK
    split
    · rename_i h
      rw [mem_nub, List.mem_cons]
      constructor
      · exact .inr
      · rintro (rfl | z)
        · exact h
        · exact z
    · rw [List.mem_cons, List.mem_cons, mem_nub]
theorem nub_nodup : ∀ l : List NestedKey, (nubK l).Nodup
  | [] => List.nodup_nil
  | k :: r => by
    unfold nubK
    split
    · exact nub_nodup r
    · rename_i h
      exact List.nodup_cons.mpr ⟨fun z => h (mem_nub.mp z), nub_nodup r⟩
theorem nodup_le {α : Type} [DecidableEq α] : ∀ (l m : List α), l.Nodup → (∀ x ∈ l, x ∈ m) → l.length ≤ m.length
  | [], _, _, _ => Nat.zero_le _
  | a :: l, m, nd, h => by
    have h1 := List.nodup_cons.mp nd
    have hm : a ∈ m := h a List.mem_cons_self
    have := nodup_le l (m.erase a) h1.2 fun x hx => (List.mem_erase_of_ne (fun e : x = a => h1.1 (e ▸ hx))).mpr (h x (List.mem_cons_of_mem _ hx))
    rw [List.length_erase_of_mem hm] at this
    have hp : 0 < m.length := List.length_pos_of_mem hm
    rw [List.length_cons]
    omega
section
variable {X : Cx} {pins : List (Addr × Obj)} {σ : St} {H : Hp} {s : Shared} {ι : List Addr} {O : Addr → Prop}
mutual
theorem DR.nest (I : Inv X pins σ H s) : ∀ {v : V} {d : D} {k : NestedKey} {u : Value}, DR ι O H v d → d.key = some k → RelV v u → NestedIs s.heap k u
  | _, _, k, u, .non, e, r => by
    simp only [D.key] at e
    cases e
    obtain rfl : u = Value.none := r
    exact .none
  | _, _, k, u, .bl b, e, r => by
    simp only [D.key] at e
    cases e
    obtain rfl : u = Value.bool b := r
    exact .bool rfl
  | _, _, k, u, .int i, e, r => by
    simp only [D.key] at e
    cases e
    obtain ⟨t, rfl⟩ := r
    exact .int _ _
  | _, _, k, u, .str x _ _, e, r => by
    simp only [D.key] at e
    cases e
    obtain ⟨t, rfl⟩ := r
    exact .text _ _
  | _, _, k, u, .tup (a := a) (vs := vs) (ds := ds) hr q, e, r => by
    simp only [D.key] at e
    obtain ⟨ks, e1, rfl⟩ := Option.map_eq_some_iff.mp e
    obtain rfl : u = Value.ref a := r
    obtain ⟨its, rv, ⟨o, ho, hc, n, hd⟩, _⟩ := I.tuple (a := a) (xs := vs) (.inl (.inl hr))
    exact .tup ho hc hd (by simpa using DRs.nest I q e1 rv)
  | _, _, k, u, .lst _ _ _, e, r => by simp [D.key] at e
  | _, _, k, u, .ref _, e, r => by simp [D.key] at e
theorem DRs.nest (I : Inv X pins σ H s) : ∀ {vs : List V} {ds : List D} {ks : List NestedKey} {us : List Value}, DRs ι O H vs ds → D.keyL ds = some ks → Vals vs us → NestedAll s.heap ks us
  | _, _, ks, us, .nil, e, r => by
    simp only [D.keyL] at e
    cases e
    cases r
    exact .nil
  | _, _, ks, us, .cons (d := d) (ds := ds) a b, e, r => by
    simp only [D.keyL] at e
    cases r with
    | cons r1 r2 =>
      cases e1 : D.key d with
      | none => rw [e1] at e; cases e
      | some k =>
        cases e2 : D.keyL ds with
        | none => rw [e1, e2] at e; cases e
        | some ks' =>
          rw [e1, e2] at e
          cases e
          exact .cons (DR.nest I a e1 r1) (DRs.nest I b e2 r2)
end
/-- the rows of a tuple of keys -/
theorem rows_of {h : Heap} : ∀ {vs : List V} {ds : List D} {ks : List NestedKey} {us : List Value}, DRs ι O H vs ds → ds.all D.isT = true → D.keyL ds = some ks → Vals vs us → NestedAll h ks us → NestedKey.depthAll ks ≤ 8 →
    ∃ L : Rows, us = L.map (fun p => Value.ref p.1) ∧ L.map (·.2) = ks ∧ ∀ p ∈ L, Nk h p.2 p.1
  | _, _, ks, us, .nil, _, e, r, _, _ => by
    simp only [D.keyL] at e
    cases e
    cases r
    exact ⟨[], rfl, rfl, fun p hp => by cases hp⟩
  | _, _, ks, us, .cons (d := d) (ds := ds) a b, ht, e, r, na, hd => by
    rw [List.all_cons, Bool.and_eq_true] at ht
    simp only [D.keyL] at e
    cases r with
    | cons r1 r2 =>
      cases e1 : D.key d with
      | none => rw [e1] at e; cases e
      | some k =>
        cases e2 : D.keyL ds with
        | none => rw [e1, e2] at e; cases e
        | some ks' =>
          rw [e1, e2] at e
          cases e
          cases na with
          | cons n1 n2 =>
            unfold NestedKey.depthAll at hd
            obtain ⟨L, l1, l2, l3⟩ := rows_of b ht.2 e2 r2 n2 (by omega)
            cases a with
            | tup hr q =>
              rename_i ad vs' ds'
              rename_i u us'
              obtain rfl : u = Value.ref ad := r1
              refine ⟨(ad, k) :: L, by rw [l1]; rfl, by rw [List.map_cons, l2], fun p hp => ?_⟩
              rcases List.mem_cons.mp hp with rfl | hp
              · exact ⟨n1, by show k.depth ≤ 8; omega⟩
              · exact l3 p hp
            | _ => cases ht.1
end
theorem lenSet_of {X : Cx} {pins : List (Addr × Obj)} {σ : St} {H : Hp} {s : Shared} {ι : List Addr} {O : Addr → Prop} {x : V} {d r : D} {u : Value} (I : Inv X pins σ H s) (vw : VW ι O H x d) (e : D.lenSet d = some r) (rx : RelV x u) :
    ∃ (l : Addr) (its : List Value) (L : Rows) (ks : List NestedKey), u = .ref l ∧ s.heap.IsTuple l its.toArray ∧ its = L.map (fun p => Value.ref p.1) ∧ L.map (·.2) = ks ∧ (∀ p ∈ L, Nk s.heap p.2 p.1) ∧ L.length < 64 ∧ r = .int (nubK ks).length := by
  rcases vw with vw | ⟨a, vs, xs, rfl, rfl, _, _⟩
  · cases vw with
    | tup hr q =>
      rename_i a vs ds
      obtain rfl : u = Value.ref a := rx
      cases e1 : D.keyL ds with
      | none => simp [D.lenSet, e1] at e
      | some ks =>
        simp only [D.lenSet, e1] at e
        by_cases c : ds.length < 64 ∧ NestedKey.depthAll ks ≤ 8 ∧ ds.all D.isT = true
        · rw [if_pos c] at e
          cases e
          obtain ⟨its, rv, hT, _⟩ := I.tuple (a := a) (xs := vs) (.inl (.inl hr))
          obtain ⟨L, l1, l2, l3⟩ := rows_of q c.2.2 e1 rv (DRs.nest I q e1 rv) c.2.1
          refine ⟨a, its, L, ks, rfl, hT, l1, l2, l3, ?_, rfl⟩
          have z1 : its.length = L.length := by rw [l1, List.length_map]
          rw [← z1, ← rv.length, q.length]
          exact c.1
        · rw [if_neg c] at e
          cases e
    | _ => simp [D.lenSet] at e
  · simp [D.lenSet] at e
theorem upto_len {ks L : Rows} (u : Upto ks ks.length L) (nd : (L.map (·.2)).Nodup) : L.length = (nubK (ks.map (·.2))).length := by
  have a1 : (L.map (·.2)).length ≤ (nubK (ks.map (·.2))).length := nodup_le _ _ nd fun x hx => by
    obtain ⟨p, hp, rfl⟩ := List.mem_map.mp hx
    exact mem_nub.mpr (List.mem_map.mpr ⟨p, List.mem_of_mem_take (u.from_ p hp), rfl⟩)
  have a2 : (nubK (ks.map (·.2))).length ≤ (L.map (·.2)).length := nodup_le _ _ (nub_nodup _) fun x hx => by
    obtain ⟨p, hp, rfl⟩ := List.mem_map.mp (mem_nub.mp hx)
    exact u.has p (by rw [List.take_length]; exact hp)
  rw [List.length_map] at a1 a2
  omega
open PySem.Spec PyProof.Rows in
theorem pd_lenSet {X : Cx} {xa : Nat → Addr} {W : WX} {a : Expr} {ma : EM} {pos p p2 q : Pos} {k : Nat} (hc : X.calm = true) (hr : Room k X.A) (hg : Gl X "len") (hm : X.mg "len" = none) (hg2 : Gl X "set") (hm2 : X.mg "set" = none) (ha : PE X a (TEv xa W ma))
    (hs : ∀ ps, starEach (a :: ps) X.env = (false, eval a X.env) :: starEach ps X.env) : PE X (.Call (.Name "len" p) [.Call (.Name "set" p2) [a] [] q] [] pos) (TEv xa W (mUn D.lenSet ma)) := by
  refine ⟨fun pins s σ H Q I hh => ?_⟩
  obtain ⟨Oo, ι, ow, ρ, h, fr, po⟩ := hh
  refine Call_ (ld_blt I hg hm PySem.boot_len ?_)
  refine PyProof.Rows.callWith_builtin1 (PyProof.Rows.args_cons ?_ rfl) rfl rfl
  refine Call_ (ld_blt I hg2 hm2 PyProof.Rows.boot_set ?_)
  refine PyProof.Rows.callWith_type1 (PyProof.Rows.args_cons (thn (ha.run pins s σ H (fun x H1 => ∃ (ι' : List Addr) (d : D) (r : D), VW ι' (Of Oo ι' ow) H1 x d ∧ D.lenSet d = some r ∧ ∀ v, DR ι' (Of Oo ι' ow) H1 v r → Q v H1) I ?_) fun v s1 ⟨x, H1, I1, r1, q1⟩ => PyProof.Rows.args_nil ?_) (hs [])) (hs []) rfl
  · refine ⟨Oo, ι, ow, ρ, h, fr, (Post.bd po).imp fun r h1 H1 ι1 s1 c1 p1 v rv => ?_⟩
    obtain ⟨d, e, z⟩ := Post.lift c1 (Post.bd p1)
    exact ⟨ι1, _, d, rv.vs c1, e, fun v' dv => by
      exact z H1 (Same.refl _) H1 ι1 (Step.refl _ _) c1 v' dv⟩
  · obtain ⟨ι', d, r, vw, e, q1⟩ := q1
    obtain ⟨l, its, L, ks, rfl, hT, l1, l2, l3, l4, rfl⟩ := lenSet_of I1 vw e r1
    refine set_of (P := X.prog) (w := X.w) L (I1.ok.hd hc) hT (by simpa using l1) l3 l4 (by have := hr.un; omega) fun h' tk L' es ep t R u kp => ?_
    refine PyProof.Rows.args_nil ?_
    obtain ⟨o, ho, hex, hd⟩ := R.obj
    have I2 : Inv X pins σ H1 { s1 with heap := h', toks := tk } := I1.kept fun b o e => kp b o e
    have hn : es.size = (nubK ks).length := by rw [R.size, upto_len u R.diff, l2]
    refine call_len_set ho hex hd R.fits (by rw [R.size]; have := R.few; omega) ⟨.int (nubK ks).length, H1, I2.tok _, ⟨_, by rw [hn]⟩, q1 _ (.int _)⟩
end Kb
namespace Kb
open PySem L2

section
variable {Z : Wd}
theorem tk_blk {X : Cx} {W : WX} : Takes X W0 ∨ True := .inr trivial
theorem takes_blk {X : Cx} {s : Shared} {H : Hp} {scope : Scope} {e : Env} {fp : List Addr} : Takes (X.blk s H scope e fp) W0 := takes0
set_option maxHeartbeats 0 in
mutual
theorem sndE (zo : Z.Ok) : ∀ (e : E) (p : Expr) (sc : Scope), chkE Z.c sc e p = true → ∀ (X : Cx), CtxE Z X sc → ∀ W, Takes X W → PE X p (TEv Z.xa W (ev Z.cl e).1) ∧ PT X p (TTv Z.xa W (ev Z.cl e).2)
  | .var i, p, sc, h, X, cx, W, tk => by
    cases p with
    | Name x pos =>
      simp only [chkE, Bool.and_eq_true, decide_eq_true_eq, nameOk, Bool.not_eq_true'] at h
      have g : PE X (.Name x pos) (TEv Z.xa W (mVar i)) := pd_var (by rw [cx.N]; exact h.1.1) (by rw [cx.sc]; exact vis_of h.1.2) h.2.1 h.2.2
      simp only [ev]
      exact ⟨g, pt_tru g (fun _ => rfl)⟩
    | _ => simp [chkE] at h
  | .cI i, p, sc, h, X, cx, W, tk => by
    cases p with
    | Constant k j pos =>
      cases k with
      | int j' =>
        simp only [chkE, decide_eq_true_eq] at h
        subst h
        simp only [ev]
        exact ⟨pd_int, pt_tru pd_int (fun _ => rfl)⟩
      | _ => simp [chkE] at h
    | _ => simp [chkE] at h
  | .cS x, p, sc, h, X, cx, W, tk => by
    cases p with
    | Constant k j pos =>
      cases k with
      | str y =>
        simp only [chkE, Bool.and_eq_true, decide_eq_true_eq] at h
        obtain ⟨⟨rfl, h2⟩, h3⟩ := h
        simp only [ev]
        exact ⟨pd_str h2 h3, pt_tru (pd_str h2 h3) (fun _ => rfl)⟩
      | _ => simp [chkE] at h
    | _ => simp [chkE] at h
  | .cB b, p, sc, h, X, cx, W, tk => by
    cases p with
    | Constant k j pos =>
      cases k with
      | bool y =>
        simp only [chkE, beq_iff_eq] at h
        subst h
        simp only [ev]
        exact ⟨pd_bl, pt_tru pd_bl (fun _ => rfl)⟩
      | _ => simp [chkE] at h
    | _ => simp [chkE] at h
  | .cN, p, sc, h, X, cx, W, tk => by
    cases p with
    | Constant k j pos =>
      cases k with
      | none =>
        simp only [ev]
        exact ⟨pd_non, pt_tru pd_non (fun _ => rfl)⟩
      | _ => simp [chkE] at h
    | _ => simp [chkE] at h
  | .bin op a b, p, sc, h, X, cx, W, tk => by
    cases p with
    | BinOp pa o pb pos =>
      simp only [chkE, Bool.and_eq_true] at h
      have g := pd_bin (pos := pos) (bop_ok h.1.1) (sndE zo a pa sc h.1.2 X cx W tk).1 (sndE zo b pb sc h.2 X cx W tk).1
      simp only [ev]
      exact ⟨g, pt_tru g (fun _ => rfl)⟩
    | _ => simp [chkE] at h
  | .neg a, p, sc, h, X, cx, W, tk => by
    cases p with
    | UnaryOp o pa pos =>
      cases o with
      | USub =>
        simp only [chkE] at h
        have g := pd_un (pos := pos) ov_neg (sndE zo a pa sc h X cx W tk).1
        simp only [ev]
        exact ⟨g, pt_tru g (fun _ => rfl)⟩
      | _ => simp [chkE] at h
    | _ => simp [chkE] at h
  | .not a, p, sc, h, X, cx, W, tk => by
    cases p with
    | UnaryOp o pa pos =>
      cases o with
      | Not =>
        simp only [chkE] at h
        have g := sndE zo a pa sc h X cx W tk
        simp only [ev]
        exact ⟨pd_not g.1, pt_notD g.2⟩
      | _ => simp [chkE] at h
    | _ => simp [chkE] at h
  | .cmp op a b, p, sc, h, X, cx, W, tk => by
    cases p with
    | Compare pa os pbs pos =>
      cases os with
      | nil => simp [chkE] at h
      | cons o os =>
        cases os with
        | cons _ _ => simp [chkE] at h
        | nil =>
          cases pbs with
          | nil => simp [chkE] at h
          | cons pb pbs =>
            cases pbs with
            | cons _ _ => simp [chkE] at h
            | nil =>
              simp only [chkE, Bool.and_eq_true, Bool.not_eq_true'] at h
              have g1 := (sndE zo a pa sc h.1.1.2 X cx W tk).1
              have g2 := (sndE zo b pb sc h.1.2 X cx W tk).1
              simp only [ev]
              exact ⟨pd_cmp (cop_ok cx.room h.1.1.1) g1 g2 h.2, pt_cmpD (cop_ok cx.room h.1.1.1) g1 g2 h.2⟩
    | _ => simp [chkE] at h
  | .chain op op' a b d, p, sc, h, X, cx, W, tk => by
    cases p with
    | Compare pa os pbs pos =>
      match os, pbs, h with
      | [o, o'], [pb, pd], h =>
        simp only [chkE, Bool.and_eq_true, Bool.not_eq_true'] at h
        have g1 := (sndE zo a pa sc h.1.1.1.2 X cx W tk).1
        have g2 := (sndE zo b pb sc h.1.1.2 X cx W tk).1
        have g3 := (sndE zo d pd sc h.1.2 X cx W tk).1
        simp only [ev]
        exact ⟨pd_chain (cop_ok cx.room h.1.1.1.1.1) (cop_ok cx.room h.1.1.1.1.2) g1 g2 g3 h.2, pt_chainD (cop_ok cx.room h.1.1.1.1.1) (cop_ok cx.room h.1.1.1.1.2) g1 g2 g3 h.2⟩
      | [], _, h => simp [chkE] at h
      | [_], _, h => simp [chkE] at h
      | _ :: _ :: _ :: _, _, h => simp [chkE] at h
      | [_, _], [], h => simp [chkE] at h
      | [_, _], [_], h => simp [chkE] at h
      | [_, _], _ :: _ :: _ :: _, h => simp [chkE] at h
    | _ => simp [chkE] at h
  | .isN a, p, sc, h, X, cx, W, tk => by
    cases p with
    | Compare pa os pbs pos =>
      match os, pbs, h with
      | [.Is], [.Constant .none j p'], h =>
        simp only [chkE] at h
        have g1 := (sndE zo a pa sc h X cx W tk).1
        simp only [ev]
        exact ⟨pd_isN g1, pt_isND g1⟩
    | _ => simp [chkE] at h
  | .notN a, p, sc, h, X, cx, W, tk => by
    cases p with
    | Compare pa os pbs pos =>
      match os, pbs, h with
      | [.IsNot], [.Constant .none j p'], h =>
        simp only [chkE] at h
        have g1 := (sndE zo a pa sc h X cx W tk).1
        simp only [ev]
        exact ⟨pd_notN g1, pt_notND g1⟩
    | _ => simp [chkE] at h
  | .bop true es, p, sc, h, X, cx, W, tk => by
    cases p with
    | BoolOp o ps pos =>
      cases o with
      | And =>
        simp only [chkE, Bool.and_eq_true, Bool.not_eq_true'] at h
        have g := (sndEs zo es ps sc h.1 X cx W tk).2 (by intro z; rw [z] at h; cases h.2) pos
        simp only [ev]
        exact ⟨g.1, g.2.1.pt⟩
      | _ => simp [chkE] at h
    | _ => simp [chkE] at h
  | .bop false es, p, sc, h, X, cx, W, tk => by
    cases p with
    | BoolOp o ps pos =>
      cases o with
      | Or =>
        simp only [chkE, Bool.and_eq_true, Bool.not_eq_true'] at h
        have g := (sndEs zo es ps sc h.1 X cx W tk).2 (by intro z; rw [z] at h; cases h.2) pos
        simp only [ev]
        exact ⟨g.2.2.1, g.2.2.2.pt⟩
      | _ => simp [chkE] at h
    | _ => simp [chkE] at h
  | .ite d a b, p, sc, h, X, cx, W, tk => by
    cases p with
    | IfExp pd pa pb pos =>
      simp only [chkE, Bool.and_eq_true] at h
      have g := pd_if (pos := pos) (sndE zo d pd sc h.1.1 X cx W tk).2 (sndE zo a pa sc h.1.2 X cx W tk).1 (sndE zo b pb sc h.2 X cx W tk).1
      simp only [ev]
      exact ⟨g, ⟨fun _ _ _ _ _ _ q => by obtain ⟨_, _, _, _, _, _, f⟩ := q; exact f.elim⟩⟩
    | _ => simp [chkE] at h
  | .tup es, p, sc, h, X, cx, W, tk => by
    cases p with
    | Tuple ps k pos =>
      simp only [chkE] at h
      have g : PE X (.Tuple ps k pos) _ := pd_tup (sndEs zo es ps sc h X cx W tk).1
      simp only [ev]
      exact ⟨g, pt_tru g (fun _ => rfl)⟩
    | _ => simp [chkE] at h
  | .lst es, p, sc, h, X, cx, W, tk => by
    cases p with
    | List ps pos =>
      simp only [chkE] at h
      have g : PE X (.List ps pos) _ := pd_lst (sndEs zo es ps sc h X cx W tk).1
      simp only [ev]
      exact ⟨g, pt_tru g (fun _ => rfl)⟩
    | _ => simp [chkE] at h
  | .idx a i, p, sc, h, X, cx, W, tk => by
    cases p with
    | Subscript pa pi pos =>
      simp only [chkE, Bool.and_eq_true] at h
      have g : PE X (.Subscript pa pi pos) _ := pd_ix (sndE zo a pa sc h.1.1 X cx W tk).1 (sndE zo i pi sc h.1.2 X cx W tk).1 (plainIx_of h.2)
      simp only [ev]
      exact ⟨g, pt_tru g (fun _ => rfl)⟩
    | _ => simp [chkE] at h
  | .cut a lo hi, p, sc, h, X, cx, W, tk => by
    cases p with
    | Subscript pa pi pos =>
      cases pi with
      | Slice plo phi pst p2 =>
        cases pst with
        | some _ => simp [chkE] at h
        | none =>
          simp only [chkE, Bool.and_eq_true] at h
          have g : PE X (.Subscript pa (.Slice plo phi none p2) pos) _ := pd_cut (sndE zo a pa sc h.1.1 X cx W tk).1 (sndO zo lo plo sc h.1.2 X cx W tk) (sndO zo hi phi sc h.2 X cx W tk)
          simp only [ev]
          exact ⟨g, pt_tru g (fun _ => rfl)⟩
      | _ => simp [chkE] at h
    | _ => simp [chkE] at h
  | .call f es, p, sc, h, X, cx, W, tk => by
    cases p with
    | Call pf ps kw pos =>
      match pf, ps, kw, h with
      | .Name x p1, q :: qs, [], h =>
        simp only [chkE, Bool.and_eq_true, decide_eq_true_eq, List.contains_iff_mem, nameOk, Bool.not_eq_true'] at h
        obtain ⟨⟨⟨⟨⟨h1, h2⟩, h3⟩, h4⟩, h5, _⟩, h6⟩ := h
        obtain ⟨fa, fd, ps', G, g1, g2, g3⟩ := zo.fn f h2
        have hl := chkEs_len Z.cl es (q :: qs) h6
        rw [h3, ← hl] at G
        cases es with
        | nil => simp [chkEs] at h6
        | cons e es =>
          have h7 := h6
          simp only [chkEs, Bool.and_eq_true] at h7
          have gs := (sndEs zo (.cons e es) (q :: qs) sc h6 X cx W tk).1
          have cP := cx.P
          have cw := cx.w
          have cK := cx.K
          have cmg := cx.mg
          have cb := cx.base
          have g : PE X (.Call (.Name x p1) (q :: qs) [] pos) _ := pd_call (f := fa) (fd := fd) (ps := ps') tk (by rw [cP, cw, cK, cmg, cb]; exact G) cx.room (cx.gl h4) (by rw [cmg, h1]; exact g1) (by rw [cK]; exact g2) (by rw [cK]; exact g3) gs h5 (star_ne h7.1 qs X.env) (plain_es es qs sc h7.2 X.env pos)
          simp only [ev]
          exact ⟨g, pt_tru g (fun _ => rfl)⟩
    | _ => simp [chkE] at h
  | .bi b es, p, sc, h, X, cx, W, tk => by
    cases p with
    | Call pf ps kw pos =>
      match pf, ps, kw, h with
      | .Name x p1, q :: qs, [], h =>
        simp only [chkE, Bool.and_eq_true, decide_eq_true_eq] at h
        obtain ⟨⟨h1, h4⟩, h6⟩ := h
        cases es with
        | nil => simp [chkEs] at h6
        | cons e es =>
          have h7 := h6
          simp only [chkEs, Bool.and_eq_true] at h7
          have gs := (sndEs zo (.cons e es) (q :: qs) sc h6 X cx W tk).1
          subst h1
          have g : PE X (.Call (.Name b.name p1) (q :: qs) [] pos) (TEv Z.xa W (mCallB b.g (mArgs (evs Z.cl (.cons e es))))) := by
            rcases boot_bi b with ⟨id, b1, b2⟩ | ⟨T, b1, b2⟩
            · exact pd_callB (b2 X cx.calm) (cx.gl h4) (by rw [cx.mg]; exact zo.bi b) b1 gs (bi_name b).1 (bi_name b).2 (star_ne h7.1 qs X.env) (plain_es es qs sc h7.2 X.env pos)
            · exact pd_callTy (b2 X cx.calm) (cx.gl h4) (by rw [cx.mg]; exact zo.bi b) b1 gs (bi_name b).1 (bi_name b).2 (star_ne h7.1 qs X.env) (plain_es es qs sc h7.2 X.env pos)
          simp only [ev]
          exact ⟨g, pt_tru g (fun _ => rfl)⟩
    | _ => simp [chkE] at h
  | .isi t a, p, sc, h, X, cx, W, tk => by
    cases p with
    | Call pf ps kw pos =>
      match pf, ps, kw, h with
      | .Name x p1, [pa, .Name y p2], [], h =>
        simp only [chkE, Bool.and_eq_true, decide_eq_true_eq] at h
        obtain ⟨⟨⟨⟨rfl, h2⟩, rfl⟩, h4⟩, h5⟩ := h
        have g : PE X (.Call (.Name "isinstance" p1) [pa, .Name (Str.ofString t.name) p2] [] pos) _ := pd_isi (cx.gl h2) (by rw [cx.mg]; exact zo.ii) rfl (cx.gl h4) (by rw [cx.mg]; exact zo.ty t) (sndE zo a pa sc h5 X cx W tk).1 (star_ne h5 _ X.env)
        simp only [ev]
        exact ⟨g, pt_tru g (fun _ => rfl)⟩
    | _ => simp [chkE] at h
  | .comp vs t it d e, p, sc, h, X, cx, W, tk => by
    cases p with
    | ListComp pe gs scope pos =>
      match gs, h with
      | [⟨tg, iter, ifs, 0⟩], h =>
        simp only [chkE, Bool.and_eq_true] at h
        obtain ⟨⟨⟨⟨⟨⟨⟨h1, h2⟩, h3⟩, h4⟩, h5⟩, h6⟩, h7⟩, h8⟩ := h
        have ok : BlkOk X.N X.env.scope scope (vs.map fun i => (Z.c.N.getD i "", i)) := by rw [cx.N, cx.sc]; exact blkOk_by h1
        have ev2 : (vs.map fun i => (Z.c.N.getD i "", i)).map (·.2) = vs := by rw [List.map_map]; exact List.map_id _
        have sub : ∀ i ∈ t.is, i ∈ (vs.map fun i => (Z.c.N.getD i "", i)).map (·.2) := by
          rw [ev2]
          intro i hi
          have := List.all_eq_true.mp h6 i hi
          exact List.contains_iff_mem.mp this
        have g := pd_lc (xa := Z.xa) (W := W) (pos := pos) (own := vs.map fun i => (Z.c.N.getD i "", i)) cx.calm (by rw [cx.N]; exact zo.nd) (sndI zo false it tg iter sc h3 X cx W tk) ok
          (fun s H C cl fp => tg_ok (X := X.blk s H scope (compEnvC scope cl C X.env) fp) (sc := scope) cx.N cx.calm zo fx_blk h2)
          (fun s H C cl fp => sndC zo d ifs (relS scope sc) h4 _ (cx.blk s H scope C cl fp) W0 takes0)
          (fun s H C cl fp => (sndE zo e pe (relS scope sc) h5 _ (cx.blk s H scope C cl fp) W0 takes0).1) (folded_of h7 _) sub
        rw [ev2] at g
        simp only [ev]
        exact ⟨g, pt_tru g (fun _ => rfl)⟩
    | _ => simp [chkE] at h
  | .lenSet a, p, sc, h, X, cx, W, tk => by
    cases p with
    | Call pf ps kw pos =>
      match pf, ps, kw, h with
      | .Name x p1, [.Call (.Name y p2) [pa] [] q], [], h =>
        simp only [chkE, Bool.and_eq_true, decide_eq_true_eq] at h
        obtain ⟨⟨⟨⟨rfl, h2⟩, rfl⟩, h4⟩, h5⟩ := h
        have g : PE X (.Call (.Name "len" p1) [.Call (.Name "set" p2) [pa] [] q] [] pos) _ := pd_lenSet cx.calm cx.room (cx.gl h2) (by rw [cx.mg]; exact zo.bi .len) (cx.gl h4) (by rw [cx.mg]; exact zo.st) (sndE zo a pa sc h5 X cx W tk).1 (fun ps => star_ne h5 ps X.env)
        simp only [ev]
        exact ⟨g, pt_tru g (fun _ => rfl)⟩
    | _ => simp [chkE] at h
theorem sndEs (zo : Z.Ok) : ∀ (es : Es) (ps : List Expr) (sc : Scope), chkEs Z.c sc es ps = true → ∀ (X : Cx), CtxE Z X sc → ∀ W, Takes X W → PA X ps (TAv Z.xa W (mArgs (evs Z.cl es))) ∧
    (ps ≠ [] → ∀ pos, PE X (.BoolOp .And ps pos) (TEv Z.xa W (mAnds (evs Z.cl es))) ∧ PW X (.BoolOp .And ps pos) (TTv Z.xa W (mTAnds (evs Z.cl es))) ∧ PE X (.BoolOp .Or ps pos) (TEv Z.xa W (mOrs (evs Z.cl es))) ∧ PW X (.BoolOp .Or ps pos) (TTv Z.xa W (mTOrs (evs Z.cl es))))
  | .nil, [], sc, h, X, cx, W, tk => ⟨by simp only [evs, mArgs]; exact pd_nil, fun z => absurd rfl z⟩
  | .nil, _ :: _, sc, h, X, cx, W, tk => by simp [chkEs] at h
  | .cons e es, [], sc, h, X, cx, W, tk => by simp [chkEs] at h
  | .cons e es, p :: ps, sc, h, X, cx, W, tk => by
    simp only [chkEs, Bool.and_eq_true] at h
    obtain ⟨h1, h2⟩ := h
    have g := sndE zo e p sc h1 X cx W tk
    have gs := sndEs zo es ps sc h2 X cx W tk
    refine ⟨by simp only [evs, mArgs]; exact pd_cons g.1 gs.1 (star_ne h1 ps X.env), fun _ pos => ?_⟩
    cases es with
    | nil =>
      cases ps with
      | nil =>
        simp only [evs, mAnds, mTAnds, mOrs, mTOrs]
        exact ⟨pe_one g.1, pw_and1 g.2, pe_one g.1, pw_or1 g.2⟩
      | cons _ _ => simp [chkEs] at h2
    | cons e2 es2 =>
      cases ps with
      | nil => simp [chkEs] at h2
      | cons p2 ps2 =>
        have k := gs.2 (fun z => nomatch z) pos
        simp only [evs, mAnds, mTAnds, mOrs, mTOrs] at k ⊢
        exact ⟨pd_and g.1 k.1, pw_andD g.2 k.2.1, pd_or g.1 k.2.2.1, pw_orD g.2 k.2.2.2⟩
theorem sndO (zo : Z.Ok) : ∀ (o : Eo) (p : Option Expr) (sc : Scope), chkO Z.c sc o p = true → ∀ (X : Cx), CtxE Z X sc → ∀ W, Takes X W → PO X p (TOv Z.xa W (evo Z.cl o))
  | .none, none, sc, h, X, cx, W, tk => by simp only [evo]; exact pd_noPart
  | .none, some _, sc, h, X, cx, W, tk => by simp [chkO] at h
  | .some e, none, sc, h, X, cx, W, tk => by simp [chkO] at h
  | .some e, some p, sc, h, X, cx, W, tk => by
    simp only [chkO] at h
    simp only [evo]
    exact pd_part (sndE zo e p sc h X cx W tk).1
theorem sndC (zo : Z.Ok) : ∀ (o : Eo) (p : List Expr) (sc : Scope), chkC Z.c sc o p = true → ∀ (X : Cx), CtxE Z X sc → ∀ W, Takes X W → PTs X p (TTv Z.xa W (evc Z.cl o))
  | .none, [], sc, h, X, cx, W, tk => by simp only [evc]; exact td_yes
  | .none, _ :: _, sc, h, X, cx, W, tk => by simp [chkC] at h
  | .some e, [], sc, h, X, cx, W, tk => by simp [chkC] at h
  | .some e, _ :: _ :: _, sc, h, X, cx, W, tk => by simp [chkC] at h
  | .some e, [p], sc, h, X, cx, W, tk => by
    simp only [chkC] at h
    simp only [evc]
    exact td_one (sndE zo e p sc h X cx W tk).2
theorem sndI (zo : Z.Ok) (st : Bool) : ∀ (i : I) (tg p : Expr) (sc : Scope), chkI Z.c sc i tg p = true → ∀ (X : Cx), CtxE Z X sc → ∀ W, Takes X W → PI X tg p (TIv st Z.xa W (evi Z.cl st i))
  | .of e, tg, p, sc, h, X, cx, W, tk => by
    simp only [chkI] at h
    simp only [evi]
    exact id_iter (sndE zo e p sc h X cx W tk).1
  | .rng1 a, tg, p, sc, h, X, cx, W, tk => by
    cases p with
    | Call pf ps kw pos =>
      match pf, ps, kw, h with
      | .Name x p1, [pa], [], h =>
        simp only [chkI, Bool.and_eq_true, decide_eq_true_eq] at h
        obtain ⟨⟨rfl, h2⟩, h3⟩ := h
        simp only [evi]
        exact id_rng1 (cx.gl h2) (by rw [cx.mg]; exact zo.rg) (sndE zo a pa sc h3 X cx W tk).1 (star_ne h3 _ X.env)
    | _ => simp [chkI] at h
  | .rng2 a b, tg, p, sc, h, X, cx, W, tk => by
    cases p with
    | Call pf ps kw pos =>
      match pf, ps, kw, h with
      | .Name x p1, [pa, pb], [], h =>
        simp only [chkI, Bool.and_eq_true, decide_eq_true_eq] at h
        obtain ⟨⟨⟨rfl, h2⟩, h3⟩, h4⟩ := h
        simp only [evi]
        exact id_rng2 (cx.gl h2) (by rw [cx.mg]; exact zo.rg) (sndE zo a pa sc h3 X cx W tk).1 (sndE zo b pb sc h4 X cx W tk).1 (star_ne h4 _ X.env) (star_ne h3 _ X.env)
    | _ => simp [chkI] at h
  | .enum e, tg, p, sc, h, X, cx, W, tk => by
    cases tg with
    | Tuple el kk tp =>
      cases p with
      | Call pf ps kw pos =>
        match pf, ps, kw, h with
        | .Name x p1, [pa], [], h =>
          simp only [chkI, Bool.and_eq_true, decide_eq_true_eq] at h
          obtain ⟨⟨rfl, h2⟩, h3⟩ := h
          simp only [evi]
          exact id_enum (cx.gl h2) (by rw [cx.mg]; exact zo.en) (sndE zo e pa sc h3 X cx W tk).1 (star_ne h3 _ X.env)
      | _ => simp [chkI] at h
    | _ => simp [chkI] at h
  | .zip a b, tg, p, sc, h, X, cx, W, tk => by
    cases tg with
    | Tuple el kk tp =>
      cases p with
      | Call pf ps kw pos =>
        match pf, ps, kw, h with
        | .Name x p1, [pa, pb], [], h =>
          simp only [chkI, Bool.and_eq_true, decide_eq_true_eq] at h
          obtain ⟨⟨⟨rfl, h2⟩, h3⟩, h4⟩ := h
          simp only [evi]
          exact id_zip (cx.gl h2) (by rw [cx.mg]; exact zo.zp) (sndE zo a pa sc h3 X cx W tk).1 (sndE zo b pb sc h4 X cx W tk).1 (star_ne h4 _ X.env) (star_ne h3 _ X.env)
      | _ => simp [chkI] at h
    | _ => simp [chkI] at h
end
end
end Kb
namespace Kb
open PySem L2

mutual
inductive S where
  | set (i : Nat) (e : E) | own (i : Nat) (es : Es) | cell (i : Nat) (es : Es)
  | unp (t : Tg) (e : E) | par (i j : Nat) (es : Es) | aug (i : Nat) (e : E)
  | app (i : Nat) (e : E) | ext (i : Nat) (e : E) | put (i : Nat) (j e : E)
  | expr (e : E) | ret (e : E) | retN | pass
  | ite (c : E) (a b : Ss) | loop (t : Tg) (it : I) (b : Ss) | whl (n : Nat) (c : E) (b : Ss)
  | raise (c : Nat) | tr (b : Ss) (hs : List (Nat × Str))
inductive Ss where
  | nil | cons (s : S) (r : Ss) | frz (i : Nat) (r : Ss)
end
mutual
def evS (cl : Nat → FM) : S → SM
  | .set i e => mSet i (ev cl e).1
  | .own i es => mOwn i (mArgs (evs cl es))
  | .cell i es => mCell i (mArgs (evs cl es))
  | .unp t e => mUnp t (ev cl e).1
  | .par i j es => mPar [i, j] (mArgs (evs cl es))
  | .aug i e => mAug i (ev cl e).1
  | .app i e => mApp i (ev cl e).1
  | .ext i e => mExt i (ev cl e).1
  | .put i j e => mPut i (ev cl j).1 (ev cl e).1
  | .expr e => mDo (ev cl e).1
  | .ret e => mRet (ev cl e).1
  | .retN => mRetN
  | .pass => mSkip
  | .ite c a b => mIte (ev cl c).2 (evSs cl a) (evSs cl b)
  | .loop t it b => mFor (evi cl true it) t (evSs cl b)
  | .whl n c b => whileD (ev cl c).2 (evSs cl b) n
  | .raise c => mRaise c
  | .tr b hs => mTry (evSs cl b) hs
def evSs (cl : Nat → FM) : Ss → SM
  | .nil => mSkip
  | .cons s r => mSeq (evS cl s) (evSs cl r)
  | .frz i r => mSeq (mFreeze i) (evSs cl r)
end

/-! ### the text against the tree -/
def notComp : Expr → Bool
  | .ListComp .. => false | .SetComp .. => false | .DictComp .. => false
  | _ => true
def isStar : Expr → Bool
  | .Starred .. => true
  | _ => false
def swB (sc scope : Scope) (pos : Pos) (y : Str) (py : Pos) : Bool := (if sc.kind.isAnnotationScope then ScopeKind.function else sc.kind) == .function && sc.names.lookup y == some .local && py.line == pos.line && !(scope.names.any fun (n, k) => n == y && (k == .local || k == .cell))
def chkHs (c : Cfg) (sc : Scope) : List (Nat × Str) → List ExceptHandler → Bool
  | [], [] => true
  | (n, s) :: l, .ExceptHandler (some (.Name x _)) none [.Return (some (.Constant (.str y) _ _)) _] _ :: hds => decide (x = c.xn n) && c.xs.contains n && glB sc x && nameOk x && decide (s = y) && PyData.strOk s && decide (s.length ≤ sizeLine) && chkHs c sc l hds
  | _, _ => false
def unpOk (sc : Scope) : Expr → Bool
  | .Tuple .. => false
  | _ => true
def kindB (sc : Scope) : Bool := match sc.kind with | .function => true | _ => false
def asgN : Stmt → Option (Str × Pos × Expr × Pos)
  | .Assign [.Name x py] p pos => some (x, py, p, pos)
  | _ => none
theorem asgN_eq {s : Stmt} {r : Str × Pos × Expr × Pos} (h : asgN s = some r) : s = .Assign [.Name r.1 r.2.1] r.2.2.1 r.2.2.2 := by
  unfold asgN at h
  split at h
  · cases h; rfl
  · cases h
def asgL : Stmt → Option (Str × Pos × List Expr × Pos × Pos)
  | .Assign [.Name x py] (.List ps q) pos => some (x, py, ps, q, pos)
  | _ => none
theorem asgL_eq {s : Stmt} {r : Str × Pos × List Expr × Pos × Pos} (h : asgL s = some r) : s = .Assign [.Name r.1 r.2.1] (.List r.2.2.1 r.2.2.2.1) r.2.2.2.2 := by
  unfold asgL at h
  split at h
  · cases h; rfl
  · cases h
def asgT : Stmt → Option (List Expr × Nat × Pos × Expr × Pos)
  | .Assign [.Tuple ts k q] p pos => some (ts, k, q, p, pos)
  | _ => none
theorem asgT_eq {s : Stmt} {r : List Expr × Nat × Pos × Expr × Pos} (h : asgT s = some r) : s = .Assign [.Tuple r.1 r.2.1 r.2.2.1] r.2.2.2.1 r.2.2.2.2 := by
  unfold asgT at h
  split at h
  · cases h; rfl
  · cases h
def asgP : Stmt → Option (Str × Pos × Str × Pos × Nat × Pos × Expr × Expr × Nat × Pos × Pos)
  | .Assign [.Tuple [.Name x px, .Name y py] k q] (.Tuple [a, b] k2 q2) pos => some (x, px, y, py, k, q, a, b, k2, q2, pos)
  | _ => none
theorem asgP_eq {s : Stmt} {r : Str × Pos × Str × Pos × Nat × Pos × Expr × Expr × Nat × Pos × Pos} (h : asgP s = some r) : s = .Assign [.Tuple [.Name r.1 r.2.1, .Name r.2.2.1 r.2.2.2.1] r.2.2.2.2.1 r.2.2.2.2.2.1] (.Tuple [r.2.2.2.2.2.2.1, r.2.2.2.2.2.2.2.1] r.2.2.2.2.2.2.2.2.1 r.2.2.2.2.2.2.2.2.2.1) r.2.2.2.2.2.2.2.2.2.2 := by
  unfold asgP at h
  split at h
  · cases h; rfl
  · cases h
def augN : Stmt → Option (Str × Pos × Expr × Pos)
  | .AugAssign (.Name x py) .Add p pos => some (x, py, p, pos)
  | _ => none
theorem augN_eq {s : Stmt} {r : Str × Pos × Expr × Pos} (h : augN s = some r) : s = .AugAssign (.Name r.1 r.2.1) .Add r.2.2.1 r.2.2.2 := by
  unfold augN at h
  split at h
  · cases h; rfl
  · cases h
def exA : Stmt → Option (Str × Pos × Str × Pos × Expr × Pos × Pos)
  | .Expr (.Call (.Attribute (.Name x q) m ap) [p] [] cp) pos => some (x, q, m, ap, p, cp, pos)
  | _ => none
theorem exA_eq {s : Stmt} {r : Str × Pos × Str × Pos × Expr × Pos × Pos} (h : exA s = some r) : s = .Expr (.Call (.Attribute (.Name r.1 r.2.1) r.2.2.1 r.2.2.2.1) [r.2.2.2.2.1] [] r.2.2.2.2.2.1) r.2.2.2.2.2.2 := by
  unfold exA at h
  split at h
  · cases h; rfl
  · cases h
def asgS : Stmt → Option (Str × Pos × Expr × Pos × Expr × Pos)
  | .Assign [.Subscript (.Name x q) pj q2] p pos => some (x, q, pj, q2, p, pos)
  | _ => none
theorem asgS_eq {s : Stmt} {r : Str × Pos × Expr × Pos × Expr × Pos} (h : asgS s = some r) : s = .Assign [.Subscript (.Name r.1 r.2.1) r.2.2.1 r.2.2.2.1] r.2.2.2.2.1 r.2.2.2.2.2 := by
  unfold asgS at h
  split at h
  · cases h; rfl
  · cases h
def exP : Stmt → Option (Expr × Pos)
  | .Expr p pos => some (p, pos)
  | _ => none
theorem exP_eq {s : Stmt} {r : Expr × Pos} (h : exP s = some r) : s = .Expr r.1 r.2 := by
  unfold exP at h
  split at h
  · cases h; rfl
  · cases h
def retP : Stmt → Option (Expr × Pos)
  | .Return (some p) pos => some (p, pos)
  | _ => none
theorem retP_eq {s : Stmt} {r : Expr × Pos} (h : retP s = some r) : s = .Return (some r.1) r.2 := by
  unfold retP at h
  split at h
  · cases h; rfl
  · cases h
def retZ : Stmt → Option (Pos)
  | .Return none pos => some pos
  | _ => none
theorem retZ_eq {s : Stmt} {r : Pos} (h : retZ s = some r) : s = .Return none r := by
  unfold retZ at h
  split at h
  · cases h; rfl
  · cases h
def passZ : Stmt → Option (Pos)
  | .Pass pos => some pos
  | _ => none
theorem passZ_eq {s : Stmt} {r : Pos} (h : passZ s = some r) : s = .Pass r := by
  unfold passZ at h
  split at h
  · cases h; rfl
  · cases h
def ifP : Stmt → Option (Expr × List Stmt × List Stmt × Pos)
  | .If p pa pb pos => some (p, pa, pb, pos)
  | _ => none
theorem ifP_eq {s : Stmt} {r : Expr × List Stmt × List Stmt × Pos} (h : ifP s = some r) : s = .If r.1 r.2.1 r.2.2.1 r.2.2.2 := by
  unfold ifP at h
  split at h
  · cases h; rfl
  · cases h
def forP : Stmt → Option (Expr × Expr × List Stmt × Pos)
  | .For tg p pb [] pos => some (tg, p, pb, pos)
  | _ => none
theorem forP_eq {s : Stmt} {r : Expr × Expr × List Stmt × Pos} (h : forP s = some r) : s = .For r.1 r.2.1 r.2.2.1 [] r.2.2.2 := by
  unfold forP at h
  split at h
  · cases h; rfl
  · cases h
def whP : Stmt → Option (Expr × List Stmt × Pos)
  | .While p pb [] pos => some (p, pb, pos)
  | _ => none
theorem whP_eq {s : Stmt} {r : Expr × List Stmt × Pos} (h : whP s = some r) : s = .While r.1 r.2.1 [] r.2.2 := by
  unfold whP at h
  split at h
  · cases h; rfl
  · cases h
def raP : Stmt → Option (Str × Pos × Pos × Pos)
  | .Raise (some (.Call (.Name x q) [] [] q2)) none pos => some (x, q, q2, pos)
  | _ => none
theorem raP_eq {s : Stmt} {r : Str × Pos × Pos × Pos} (h : raP s = some r) : s = .Raise (some (.Call (.Name r.1 r.2.1) [] [] r.2.2.1)) none r.2.2.2 := by
  unfold raP at h
  split at h
  · cases h; rfl
  · cases h
def tryP : Stmt → Option (List Stmt × ExceptHandler × List ExceptHandler × Pos)
  | .Try pb (h₀ :: hds) [] [] pos => some (pb, h₀, hds, pos)
  | _ => none
theorem tryP_eq {s : Stmt} {r : List Stmt × ExceptHandler × List ExceptHandler × Pos} (h : tryP s = some r) : s = .Try r.1 (r.2.1 :: r.2.2.1) [] [] r.2.2.2 := by
  unfold tryP at h
  split at h
  · cases h; rfl
  · cases h
mutual
def chkS (c : Cfg) (sc : Scope) : S → Stmt → Bool
  | .set i e, s => match asgN s with
    | some (x, py, p, pos) => decide (c.N[i]? = some x) && locB sc x && chkE c sc e p && (match e with | .comp .. => true | _ => notComp p)
    | none => false
  | .own i es, s => match asgL s with
    | some (x, py, ps, q, pos) => decide (c.N[i]? = some x) && locB sc x && chkEs c sc es ps
    | none => false
  | .cell i es, s => match asgL s with
    | some (x, py, ps, q, pos) => decide (c.N[i]? = some x) && locB sc x && chkEs c sc es ps
    | none => false
  | .unp t e, s => match asgT s with
    | some (ts, k, q, p, pos) => chkTg c.N sc t (.Tuple ts k q) && chkE c sc e p && unpOk sc p
    | none => false
  | .par i j es, s => match asgP s with
    | some (x, px, y, py, k, q, a, b, k2, q2, pos) => decide (c.N[i]? = some x) && decide (c.N[j]? = some y) && decide (i ≠ j) && lclB sc x && lclB sc y && chkEs c sc es [a, b] && decide (px.line = py.line) && !(x == y) && !([a, b].all (foldedForSure 8)) && !([a, b].all (constantsAlone 8)) && !(isStar a) && !(isStar b)
    | none => false
  | .aug i e, s => match augN s with
    | some (x, py, p, pos) => decide (c.N[i]? = some x) && locB sc x && chkE c sc e p
    | none => false
  | .app i e, s => match exA s with
    | some (x, q, m, ap, p, cp, pos) => decide (m = "append") && decide (c.N[i]? = some x) && visB sc x && nameOk x && chkE c sc e p && (ap.endLine == cp.line)
    | none => false
  | .ext i e, s => match exA s with
    | some (x, q, m, ap, p, cp, pos) => decide (m = "extend") && decide (c.N[i]? = some x) && visB sc x && nameOk x && chkE c sc e p && (ap.endLine == cp.line)
    | none => false
  | .put i j e, s => match asgS s with
    | some (x, q, pj, q2, p, pos) => decide (c.N[i]? = some x) && visB sc x && nameOk x && chkE c sc j pj && chkE c sc e p && notSlice pj
    | none => false
  | .expr e, s => match exP s with
    | some (p, pos) => chkE c sc e p && notComp p
    | none => false
  | .ret e, s => match retP s with
    | some (p, pos) => chkE c sc e p
    | none => false
  | .retN, s => (retZ s).isSome
  | .pass, s => (passZ s).isSome
  | .ite d a b, s => match ifP s with
    | some (p, pa, pb, pos) => chkE c sc d p && chkSs c sc a pa && chkSs c sc b pb
    | none => false
  | .loop t it b, s => match forP s with
    | some (tg, p, pb, pos) => chkTg c.N sc t tg && chkI c sc it tg p && chkSs c sc b pb && notSet p
    | none => false
  | .whl n d b, s => match whP s with
    | some (p, pb, pos) => chkE c sc d p && chkSs c sc b pb
    | none => false
  | .raise n, s => match raP s with
    | some (x, q, q2, pos) => decide (x = c.xn n) && c.xs.contains n && glB sc x && nameOk x
    | none => false
  | .tr b hs, s => match tryP s with
    | some (pb, h₀, hds, pos) => chkSs c sc b pb && chkHs c sc hs (h₀ :: hds)
    | none => false
def chkSs (c : Cfg) (sc : Scope) : Ss → List Stmt → Bool
  | .nil, [] => true
  | .cons s r, p :: ps => chkS c sc s p && chkSs c sc r ps
  | .frz _ r, ps => chkSs c sc r ps
  | _, _ => false
end

/-! ### what holds around a statement -/
structure CtxS (Z : Wd) (X : Cx) (sc : Scope) : Prop where
  e : CtxE Z X sc
  kind : sc.kind = .function
  pass : PassesOwn (model X.prog X.w) X.A X.env X.xe
  stk : X.stack = X.env :: X.outer
  frm : X.env.frame = some X.env.locals
  sto : Sto X sc
section
variable {Z : Wd}
theorem CtxS.blk {X : Cx} {sc : Scope} (cx : CtxS Z X sc) : X.env.blockKind = .function := by
  unfold Env.blockKind
  rw [cx.e.sc, cx.kind]
  rfl
theorem CtxS.tr {X : Cx} {sc : Scope} (cx : CtxS Z X sc) (pn : List (Addr × Obj)) (xe : Value → Shared → Prop) (h : PassesOwn (model X.prog X.w) X.A X.env xe) : CtxS Z (X.tr pn xe) sc :=
  ⟨⟨cx.e.P, cx.e.w, cx.e.K, cx.e.mg, cx.e.base, cx.e.N, cx.e.sc, cx.e.calm, cx.e.room⟩, cx.kind, h, cx.stk, cx.frm, cx.sto⟩
theorem sw_no {p : Expr} (h : notComp p = true) (t : Option Expr) (l : Nat) (env : Env) : swapsWith p t l env = pure false := by
  cases p <;> first | rfl | (simp [notComp] at h)
theorem sw_tup {p : Expr} {ts : List Expr} {k : Nat} {q : Pos} (l : Nat) (env : Env) : swapsWithSole [.Tuple ts k q] p l env = pure false := by
  cases p <;> rfl
theorem st_tup {sc : Scope} {p : Expr} {ts : List Expr} {k : Nat} {q : Pos} (env : Env) (h : unpOk sc p = true) : swappedStores [.Tuple ts k q] p env = pure none := by
  cases p <;> first | rfl | (simp [unpOk] at h)
theorem lcl_of {sc : Scope} {x : Str} (h : lclB sc x = true) : sc.names.lookup x = some .local := by
  unfold lclB at h
  split at h
  · assumption
  · cases h
theorem sw_lc {elt : Expr} {gs : List Comprehension} {scope : Scope} {pos : Pos} {y : Str} {py : Pos} {l : Nat} {env : Env} : swapsWith (.ListComp elt gs scope pos) (some (.Name y py)) l env = pure (swB env.scope scope pos y py) := rfl
theorem swB_lcl {sc scope : Scope} {pos : Pos} {y : Str} {py : Pos} (h : swB sc scope pos y py = true) : sc.names.lookup y = some .local := by
  unfold swB at h
  simp only [Bool.and_eq_true] at h
  have := h.1.1.2
  cases e : sc.names.lookup y with
  | none => rw [e] at this; cases this
  | some k => rw [e] at this; cases k <;> first | rfl | cases this
theorem st_par {X : Cx} {sc : Scope} (cx : CtxS Z X sc) {x y : Str} {px py q q2 : Pos} {a b : Expr} {k k2 : Nat} (hx : X.env.scope.names.lookup x = some .local) (hy : X.env.scope.names.lookup y = some .local) (hl : px.line = py.line) (hne : (x == y) = false)
    (h1 : ([a, b].all (foldedForSure 8)) = false) (h2 : ([a, b].all (constantsAlone 8)) = false) (h3 : isStar a = false) (h4 : isStar b = false) : swappedStores [.Tuple [.Name x px, .Name y py] k q] (.Tuple [a, b] k2 q2) X.env = pure (some [x, y]) := by
  have hb := cx.blk
  have kx : X.env.kindOf x = some .local := hx
  have ky : X.env.kindOf y = some .local := hy
  have h5 : (x == y) = false := hne
  have h6 : (y == x) = false := by
    cases e : (y == x) with
    | false => rfl
    | true => rw [beq_iff_eq.mp e] at h5; rw [beq_self_eq_true] at h5; exact h5
  have hs : ([a, b].any fun | .Starred .. => true | _ => false) = false := by
    cases a <;> first | (cases h3; done) | (cases b <;> first | (cases h4; done) | rfl)
  unfold swappedStores
  simp only [hb, hs, h1, h2]
  simp [kx, ky, Expr.pos, hl, h5, h6, List.eraseDups_cons, List.filter]
  intro h
  exfalso
  rcases h with h | h
  · cases a <;> first | (cases h3; done) | (cases h; done)
  · cases b <;> first | (cases h4; done) | (cases h; done)
theorem comp_lc {c : Cfg} {sc : Scope} {vs : List Nat} {t : Tg} {it : I} {d : Eo} {e : E} {p : Expr} (hn : ¬ notComp p = true) (h : chkE c sc (.comp vs t it d e) p = true) : ∃ pe tg iter ifs scope q, p = .ListComp pe [⟨tg, iter, ifs, 0⟩] scope q := by
  cases p with
  | ListComp pe gs scope pos =>
    match gs, h with
    | [⟨tg, iter, ifs, 0⟩], h => exact ⟨pe, tg, iter, ifs, scope, pos, rfl⟩
  | SetComp _ _ _ _ => simp [chkE] at h
  | DictComp _ _ _ _ _ => simp [chkE] at h
  | _ => exact absurd rfl hn
theorem hs_ok (zo : Z.Ok) {X : Cx} {sc : Scope} (cx : CtxS Z X sc) : ∀ (l : List (Nat × Str)) (hds : List ExceptHandler), chkHs Z.c sc l hds = true → HdC X Z.xa hds l ∧ (∀ p ∈ l, p.1 ∈ Z.c.xs ∧ PyData.strOk p.2 = true ∧ p.2.length ≤ sizeLine)
  | [], [], h => ⟨.nil, fun p hp => by cases hp⟩
  | [], _ :: _, h => by simp [chkHs] at h
  | _ :: _, [], h => by simp [chkHs] at h
  | (n, s) :: l, hd :: hds, h => by
    match hd, h with
    | .ExceptHandler (some (.Name x q1)) none [.Return (some (.Constant (.str y) q2 q3)) q4] q5, h =>
      simp only [chkHs, Bool.and_eq_true, decide_eq_true_eq, List.contains_iff_mem, nameOk, Bool.not_eq_true'] at h
      obtain ⟨⟨⟨⟨⟨⟨⟨rfl, h1⟩, h2⟩, h3⟩, rfl⟩, h5⟩, h6⟩, h7⟩ := h
      obtain ⟨g1, g2⟩ := hs_ok zo cx l hds h7
      refine ⟨.cons ⟨cx.e.gl h2, h3.1, .inl (by rw [cx.e.mg]; exact (zo.ex n h1).g)⟩ h5 h6 g1, fun p hp => ?_⟩
      rcases List.mem_cons.mp hp with rfl | hp
      · exact ⟨h1, h5, h6⟩
      · exact g2 p hp
set_option maxHeartbeats 0 in
mutual
theorem sndS (zo : Z.Ok) : ∀ (s : S) (p : Stmt) (sc : Scope), chkS Z.c sc s p = true → ∀ (X : Cx), CtxS Z X sc → ∀ W, Takes X W → PS X p (TSv Z.xa W (evS Z.cl s))
  | .set i e, p, sc, h, X, cx, W, tk => by
    cases hp : asgN p with
    | none => simp only [chkS, hp] at h; exact absurd h Bool.false_ne_true
    | some r =>
      simp only [chkS, hp] at h
      rw [asgN_eq hp]
      obtain ⟨x, py, p, pos⟩ := r
      dsimp only at h ⊢
      simp only [Bool.and_eq_true, decide_eq_true_eq] at h
      obtain ⟨⟨⟨h1, h2⟩, h3⟩, h4⟩ := h
      have cxe := cx.e
      have hN : X.N.Nodup := by rw [cxe.N]; exact zo.nd
      have hi : X.N[i]? = some x := by rw [cxe.N]; exact h1
      simp only [evS]
      by_cases hn : notComp p = true
      · exact sd_set hN hi (cx.sto x h2).1 (sndE zo e p sc h3 X cxe W tk).1 (sw_no hn _ _ _) (cx.sto x h2).2
      · split at h4
        · rename_i vs t it d e
          obtain ⟨pe, tg, iter, ifs, scope, q, rfl⟩ := comp_lc hn h3
          cases hb : swB X.env.scope scope q x py with
          | false => exact sd_set hN hi (cx.sto x h2).1 (sndE zo _ _ sc h3 X cxe W tk).1 (by rw [sw_lc, hb]) (cx.sto x h2).2
          | true =>
            simp only [chkE, Bool.and_eq_true] at h3
            obtain ⟨⟨⟨⟨⟨⟨⟨g1, g2⟩, g3⟩, g4⟩, g5⟩, g6⟩, g7⟩, g8⟩ := h3
            have ok : BlkOk X.N X.env.scope scope (vs.map fun i => (Z.c.N.getD i "", i)) := by rw [cxe.N, cxe.sc]; exact blkOk_by g1
            have ev2 : (vs.map fun i => (Z.c.N.getD i "", i)).map (·.2) = vs := by rw [List.map_map]; exact List.map_id _
            have sub : ∀ i ∈ t.is, i ∈ (vs.map fun i => (Z.c.N.getD i "", i)).map (·.2) := by
              rw [ev2]
              intro i hi
              have := List.all_eq_true.mp g6 i hi
              exact List.contains_iff_mem.mp this
            have g := sd_setLc (xa := Z.xa) (W := W) (pos := q) (spos := pos) (py := py) (own := vs.map fun i => (Z.c.N.getD i "", i)) cxe.calm hN hi (swB_lcl hb) (by rw [sw_lc, hb]) (sndI zo false it tg iter sc g3 X cxe W tk) ok
              (fun s H C cl fp => tg_ok (X := X.blk s H scope (compEnvC scope cl C X.env) fp) (sc := scope) cxe.N cxe.calm zo fx_blk g2)
              (fun s H C cl fp => sndC zo d ifs (relS scope sc) g4 _ (cxe.blk s H scope C cl fp) W0 takes0)
              (fun s H C cl fp => (sndE zo e pe (relS scope sc) g5 _ (cxe.blk s H scope C cl fp) W0 takes0).1) (folded_of g7 _) sub
            rw [ev2] at g
            simp only [ev]
            exact g
        · exact absurd h4 hn
  | .own i es, p, sc, h, X, cx, W, tk => by
    cases hp : asgL p with
    | none => simp only [chkS, hp] at h; exact absurd h Bool.false_ne_true
    | some r =>
      simp only [chkS, hp] at h
      rw [asgL_eq hp]
      obtain ⟨x, py, ps, q, pos⟩ := r
      dsimp only at h ⊢
      simp only [Bool.and_eq_true, decide_eq_true_eq] at h
      simp only [evS]
      exact sd_own (by rw [cx.e.N]; exact zo.nd) (by rw [cx.e.N]; exact h.1.1) (cx.sto x h.1.2).1 (sndEs zo es ps sc h.2 X cx.e W tk).1 rfl (cx.sto x h.1.2).2
  | .cell i es, p, sc, h, X, cx, W, tk => by
    cases hp : asgL p with
    | none => simp only [chkS, hp] at h; exact absurd h Bool.false_ne_true
    | some r =>
      simp only [chkS, hp] at h
      rw [asgL_eq hp]
      obtain ⟨x, py, ps, q, pos⟩ := r
      dsimp only at h ⊢
      simp only [Bool.and_eq_true, decide_eq_true_eq] at h
      simp only [evS]
      exact sd_cell (by rw [cx.e.N]; exact zo.nd) (by rw [cx.e.N]; exact h.1.1) (cx.sto x h.1.2).1 (sndEs zo es ps sc h.2 X cx.e W tk).1 rfl (cx.sto x h.1.2).2
  | .unp t e, p, sc, h, X, cx, W, tk => by
    cases hp : asgT p with
    | none => simp only [chkS, hp] at h; exact absurd h Bool.false_ne_true
    | some r =>
      simp only [chkS, hp] at h
      rw [asgT_eq hp]
      obtain ⟨ts, k, q, p, pos⟩ := r
      dsimp only at h ⊢
      simp only [Bool.and_eq_true, decide_eq_true_eq] at h
      simp only [evS]
      exact sd_unp (sndE zo e p sc h.1.2 X cx.e W tk).1 (tg_ok cx.e.N cx.e.calm zo cx.sto h.1.1) (sw_tup _ _) (st_tup _ h.2) rfl
  | .par i j es, p, sc, h, X, cx, W, tk => by
    cases hp : asgP p with
    | none => simp only [chkS, hp] at h; exact absurd h Bool.false_ne_true
    | some r =>
      simp only [chkS, hp] at h
      rw [asgP_eq hp]
      obtain ⟨x, px, y, py, k, q, a, b, k2, q2, pos⟩ := r
      dsimp only at h ⊢
      simp only [Bool.and_eq_true, decide_eq_true_eq, Bool.not_eq_true'] at h
      obtain ⟨⟨⟨⟨⟨⟨⟨⟨⟨⟨⟨h1, h2⟩, h3⟩, h4⟩, h5⟩, h6⟩, h7⟩, h8⟩, h9⟩, h10⟩, h11⟩, h12⟩ := h
      simp only [evS]
      have hx : X.env.scope.names.lookup x = some .local := by rw [cx.e.sc]; exact lcl_of h4
      have hy : X.env.scope.names.lookup y = some .local := by rw [cx.e.sc]; exact lcl_of h5
      exact sd_par cx.e.calm (by rw [cx.e.N]; exact zo.nd) (by rw [cx.e.N]; exact h1) (by rw [cx.e.N]; exact h2) h3 hx hy (sndEs zo es [a, b] sc h6 X cx.e W tk).1 (st_par cx hx hy h7 h8 h9 h10 h11 h12)
  | .aug i e, p, sc, h, X, cx, W, tk => by
    cases hp : augN p with
    | none => simp only [chkS, hp] at h; exact absurd h Bool.false_ne_true
    | some r =>
      simp only [chkS, hp] at h
      rw [augN_eq hp]
      obtain ⟨x, py, p, pos⟩ := r
      dsimp only at h ⊢
      simp only [Bool.and_eq_true, decide_eq_true_eq] at h
      simp only [evS]
      exact sd_aug (by rw [cx.e.N]; exact zo.nd) (by rw [cx.e.N]; exact h.1.1) (cx.sto x h.1.2).1 (sndE zo e p sc h.2 X cx.e W tk).1 (cx.sto x h.1.2).2
  | .app i e, p, sc, h, X, cx, W, tk => by
    cases hp : exA p with
    | none => simp only [chkS, hp] at h; exact absurd h Bool.false_ne_true
    | some r =>
      simp only [chkS, hp] at h
      rw [exA_eq hp]
      obtain ⟨x, q, m, ap, p, cp, pos⟩ := r
      dsimp only at h ⊢
      simp only [Bool.and_eq_true, decide_eq_true_eq, nameOk, Bool.not_eq_true'] at h
      obtain ⟨⟨⟨⟨⟨rfl, h1⟩, h2⟩, h3⟩, h4⟩, h5⟩ := h
      simp only [evS]
      exact sd_app (by rw [cx.e.N]; exact h1) (by rw [cx.e.sc]; exact vis_of h2) h3.1 h3.2 (sndE zo e p sc h4 X cx.e W tk).1 rfl (by rw [star_ne h4 [] X.env]; rfl) h5 (star_ne h4 [] X.env) rfl
  | .ext i e, p, sc, h, X, cx, W, tk => by
    cases hp : exA p with
    | none => simp only [chkS, hp] at h; exact absurd h Bool.false_ne_true
    | some r =>
      simp only [chkS, hp] at h
      rw [exA_eq hp]
      obtain ⟨x, q, m, ap, p, cp, pos⟩ := r
      dsimp only at h ⊢
      simp only [Bool.and_eq_true, decide_eq_true_eq, nameOk, Bool.not_eq_true'] at h
      obtain ⟨⟨⟨⟨⟨rfl, h1⟩, h2⟩, h3⟩, h4⟩, h5⟩ := h
      simp only [evS]
      exact sd_ext (by rw [cx.e.N]; exact h1) (by rw [cx.e.sc]; exact vis_of h2) h3.1 h3.2 (sndE zo e p sc h4 X cx.e W tk).1 rfl (by rw [star_ne h4 [] X.env]; rfl) h5 (star_ne h4 [] X.env) rfl
  | .put i j e, p, sc, h, X, cx, W, tk => by
    cases hp : asgS p with
    | none => simp only [chkS, hp] at h; exact absurd h Bool.false_ne_true
    | some r =>
      simp only [chkS, hp] at h
      rw [asgS_eq hp]
      obtain ⟨x, q, pj, q2, p, pos⟩ := r
      dsimp only at h ⊢
      simp only [Bool.and_eq_true, decide_eq_true_eq, nameOk, Bool.not_eq_true'] at h
      obtain ⟨⟨⟨⟨⟨h1, h2⟩, h3⟩, h4⟩, h5⟩, h6⟩ := h
      simp only [evS]
      exact sd_put (o := .Name x q) (by rw [cx.e.N]; exact h1) (by rw [cx.e.sc]; exact vis_of h2) h3.1 h3.2 (sndE zo j pj sc h4 X cx.e W tk).1 (sndE zo e p sc h5 X cx.e W tk).1 (by intro v; cases pj <;> first | rfl | (simp [notSlice] at h6)) (by cases p <;> rfl) (by cases p <;> rfl) rfl
  | .expr e, p, sc, h, X, cx, W, tk => by
    cases hp : exP p with
    | none => simp only [chkS, hp] at h; exact absurd h Bool.false_ne_true
    | some r =>
      simp only [chkS, hp] at h
      rw [exP_eq hp]
      obtain ⟨p, pos⟩ := r
      dsimp only at h ⊢
      simp only [Bool.and_eq_true] at h
      simp only [evS]
      exact sd_expr (sndE zo e p sc h.1 X cx.e W tk).1 (sw_no h.2 _ _ _)
  | .ret e, p, sc, h, X, cx, W, tk => by
    cases hp : retP p with
    | none => simp only [chkS, hp] at h; exact absurd h Bool.false_ne_true
    | some r =>
      simp only [chkS, hp] at h
      rw [retP_eq hp]
      obtain ⟨p, pos⟩ := r
      dsimp only at h ⊢
      simp only [evS]
      exact sd_ret (sndE zo e p sc h X cx.e W tk).1
  | .retN, p, sc, h, X, cx, W, tk => by
    simp only [chkS] at h
    obtain ⟨pos, hp⟩ := Option.isSome_iff_exists.mp h
    rw [retZ_eq hp]
    · skip
      simp only [evS]
      exact sd_retN
  | .pass, p, sc, h, X, cx, W, tk => by
    simp only [chkS] at h
    obtain ⟨pos, hp⟩ := Option.isSome_iff_exists.mp h
    rw [passZ_eq hp]
    · skip
      simp only [evS]
      exact sd_pass
  | .ite d a b, p, sc, h, X, cx, W, tk => by
    cases hp : ifP p with
    | none => simp only [chkS, hp] at h; exact absurd h Bool.false_ne_true
    | some r =>
      simp only [chkS, hp] at h
      rw [ifP_eq hp]
      obtain ⟨p, pa, pb, pos⟩ := r
      dsimp only at h ⊢
      simp only [Bool.and_eq_true] at h
      simp only [evS]
      exact sd_if (sndE zo d p sc h.1.1 X cx.e W tk).2 (sndSs zo a pa sc h.1.2 X cx W tk) (sndSs zo b pb sc h.2 X cx W tk)
  | .loop t it b, p, sc, h, X, cx, W, tk => by
    cases hp : forP p with
    | none => simp only [chkS, hp] at h; exact absurd h Bool.false_ne_true
    | some r =>
      simp only [chkS, hp] at h
      rw [forP_eq hp]
      obtain ⟨tg, p, pb, pos⟩ := r
      dsimp only at h ⊢
      simp only [Bool.and_eq_true] at h
      simp only [evS]
      exact sd_for cx.pass cx.e.calm (sndI zo true it tg p sc h.1.1.2 X cx.e W tk) (tg_ok cx.e.N cx.e.calm zo cx.sto h.1.1.1) (sndSs zo b pb sc h.1.2 X cx W tk) (folded_of h.2 _)
  | .whl n d b, p, sc, h, X, cx, W, tk => by
    cases hp : whP p with
    | none => simp only [chkS, hp] at h; exact absurd h Bool.false_ne_true
    | some r =>
      simp only [chkS, hp] at h
      rw [whP_eq hp]
      obtain ⟨p, pb, pos⟩ := r
      dsimp only at h ⊢
      simp only [Bool.and_eq_true] at h
      simp only [evS]
      exact sd_while cx.pass (sndE zo d p sc h.1 X cx.e W tk).2 (sndSs zo b pb sc h.2 X cx W tk)
  | .raise n, p, sc, h, X, cx, W, tk => by
    cases hp : raP p with
    | none => simp only [chkS, hp] at h; exact absurd h Bool.false_ne_true
    | some r =>
      simp only [chkS, hp] at h
      rw [raP_eq hp]
      obtain ⟨x, q, q2, pos⟩ := r
      dsimp only at h ⊢
      simp only [Bool.and_eq_true, decide_eq_true_eq, List.contains_iff_mem, nameOk, Bool.not_eq_true'] at h
      obtain ⟨⟨⟨rfl, h1⟩, h2⟩, h3⟩ := h
      simp only [evS]
      have F := zo.ex n h1
      rw [← cx.e.K, ← cx.e.mg] at F
      exact sd_raise cx.e.calm tk F (cx.e.gl h2) h3.1
  | .tr b hs, p, sc, h, X, cx, W, tk => by
    cases hp : tryP p with
    | none => simp only [chkS, hp] at h; exact absurd h Bool.false_ne_true
    | some r =>
      simp only [chkS, hp] at h
      rw [tryP_eq hp]
      obtain ⟨pb, h₀, hds, pos⟩ := r
      dsimp only at h ⊢
      simp only [Bool.and_eq_true] at h
      simp only [evS]
      obtain ⟨g1, g2⟩ := hs_ok zo cx hs (h₀ :: hds) h.2
      exact sd_try cx.stk cx.frm tk (fun W pn xe tk' hp => sndSs zo b pb sc h.1 _ (cx.tr pn xe hp) W tk') g1 (fun q hq p hp => by rw [cx.e.K]; exact zo.xm _ (g2 q hq).1 _ (g2 p hp).1) (fun p hp => (g2 p hp).2)
theorem sndSs (zo : Z.Ok) : ∀ (s : Ss) (p : List Stmt) (sc : Scope), chkSs Z.c sc s p = true → ∀ (X : Cx), CtxS Z X sc → ∀ W, Takes X W → PSs X p (TSv Z.xa W (evSs Z.cl s))
  | .nil, [], sc, h, X, cx, W, tk => by
    simp only [evSs]; exact sd_nil
  | .nil, _ :: _, sc, h, X, cx, W, tk => by simp [chkSs] at h
  | .cons _ _, [], sc, h, X, cx, W, tk => by simp [chkSs] at h
  | .cons s r, p :: ps, sc, h, X, cx, W, tk => by
    simp only [chkSs, Bool.and_eq_true] at h
    simp only [evSs]
    exact sd_cons (sndS zo s p sc h.1 X cx W tk) (sndSs zo r ps sc h.2 X cx W tk)
  | .frz i r, ps, sc, h, X, cx, W, tk => by
    simp only [chkSs] at h
    simp only [evSs]
    exact sd_freeze (sndSs zo r ps sc h X cx W tk)
end
end
end Kb
namespace Kb
open PySem L2

/-! ### defs -/
def RV.sv : RV → SV
  | .val d => .val d
  | .bor xs => .bor xs
def startE (n : Nat) (rs : List RV) : En := rs.map (fun r => some r.sv) ++ List.replicate (n - rs.length) none
def endOf : Option SRes → Option (Res D)
  | none => none
  | some (.next _ h) => some (.ok .non h)
  | some (.ret d h) => some (.ok d h)
  | some (.exc c h) => some (.exc c h)
def runF (cl : Nat → FM) (n : Nat) (b : Ss) : FM := fun rs h => endOf (evSs cl b (startE n rs) h)
structure Df where
  nm : Str
  N : List Str
  ar : Nat
  body : Ss
  ix : Nat
def Df.none : Df := ⟨"", [], 0, .nil, 0⟩
def fnAt (T : List Df) (f : Nat) : Df := T.getD f Df.none
def clAt (T : List Df) : Nat → Nat → FM
  | 0, _ => fun _ _ => none
  | k + 1, f => runF (clAt T k) (fnAt T f).N.length (fnAt T f).body
theorem of_none (Oo : Addr → Prop) (ι : List Addr) (n : Nat) : Of Oo ι (List.replicate n none) = Of Oo ι [] := by
  funext a
  apply propext
  unfold Of
  constructor
  · rintro (h | h | h)
    · exact .inl h
    · exact .inr (.inl h)
    · have := List.eq_of_mem_replicate h
      cases this
  · rintro (h | h | h)
    · exact .inl h
    · exact .inr (.inl h)
    · cases h
theorem rvrs_at {ι : List Addr} {O : Addr → Prop} {H : Hp} : ∀ {vs : List V} {rs : List RV}, RVRs ι O H vs rs → ∀ (i : Nat) (r : RV), rs[i]? = some r → ∃ v, vs[i]? = some v ∧ RVR ι O H v r
  | _, _, .nil, i, r, h => by simp at h
  | _, _, .cons a b, 0, r, h => by simp at h; subst h; exact ⟨_, rfl, a⟩
  | _, _, .cons a b, i + 1, r, h => by
    obtain ⟨v, h1, h2⟩ := rvrs_at b i r (by simpa using h)
    exact ⟨v, by simpa using h1, h2⟩
theorem fr_start {Oo : Addr → Prop} {ι : List Addr} {H : Hp} {N : List Str} {vs : List V} {rs : List RV} {h : List Cell} (q : RVRs ι (Of Oo ι []) H vs rs) (hl : vs.length ≤ N.length) (c : Cells ι (Of Oo ι []) H h) (dis : ∀ a ∈ ι, ¬ Oo a) (trk : ∀ a, Oo a → H a ≠ none) :
    FRS Oo ι H ι (List.replicate N.length none) (start N vs) H (startE N.length rs) h := by
  have hn := q.length
  have no : ∀ (i : Nat) (a : Addr), (List.replicate N.length (none : Option Addr))[i]? ≠ some (some a) := fun i a e => by
    have := List.eq_of_mem_replicate (List.mem_of_getElem? e)
    cases this
  refine ⟨⟨?_, ?_, ?_, ?_, ?_, ?_, ?_, dis, trk⟩, Step.refl _ _, fun i a e => absurd e (no i a)⟩
  · simp [startE, L2.start, hn]
  · simp [L2.start]; omega
  · intro i sv e
    unfold startE at e
    rcases Nat.lt_or_ge i rs.length with hi | hi
    · rw [List.getElem?_append_left (by simpa using hi), List.getElem?_map] at e
      obtain ⟨r, e1, e2⟩ := Option.map_eq_some_iff.mp e
      obtain ⟨v, g1, g2⟩ := rvrs_at q i r e1
      have gs : (start N vs)[i]? = some (some v) := by
        unfold L2.start
        rw [List.getElem?_append_left (by rw [List.length_map, hn]; exact hi), List.getElem?_map, g1]
        rfl
      cases e2
      cases r with
      | val d => exact ⟨v, gs, by rw [of_none]; exact g2⟩
      | bor xs =>
        obtain ⟨a, ws, rfl, h1, h2, h3, h4⟩ := g2
        refine ⟨a, ws, gs, ?_, h3, by rw [of_none]; exact h4⟩
        rcases h1 with h1 | h1 | h1
        · exact h1
        · exact absurd h1 h2
        · cases h1
    · rw [List.getElem?_append_right (by simpa using hi)] at e
      have := List.eq_of_mem_replicate (List.mem_of_getElem? e)
      cases this
  · exact fun i j a e => absurd e (no i a)
  · exact fun i a e => absurd e (no i a)
  · exact fun i a _ e => absurd e (no i a)
  · rw [of_none]; exact c
theorem of_nil {Oo : Addr → Prop} {ι : List Addr} {ow : List (Option Addr)} {a : Addr} (h : Of Oo ι [] a) : Of Oo ι ow a := by
  rcases h with h | h | h
  · exact .inl h
  · exact .inr (.inl h)
  · cases h
/-- a def of the text -/
structure DefOk (Z : Wd) (qual : Str) (st : Stmt) (d : Df) (fa : Addr) (fd : FuncData) (ps : List Str) : Prop where
  F : Fun Z.K d.nm qual st fa fd
  S : FnScope d.N ps (defScope st)
  len : ps.length = d.ar
  b : Binds Z.K fd ps []
  m : Z.mg d.nm = some (.ref fa)
theorem def_ok {Z : Wd} {qual : Str} {st : Stmt} {d : Df} {fa : Addr} {fd : FuncData} {ps : List Str} (zo : Z.Ok) (D : DefOk Z qual st d fa fd ps) (hN : Z.c.N = d.N) (hc : chkSs Z.c (defScope st) d.body (defBody st) = true) :
    FnOk Z.P Z.w Z.K Z.mg Z.base (L2.CX Z.P Z.w) (Z.k + 1) fa fd ps (Prom d.ar Z.xa (runF Z.cl d.N.length d.body)) := by
  have hle : ps.length ≤ d.N.length := by
    have := congrArg List.length D.S.pre
    rw [List.length_take] at this
    omega
  refine D.F.okX D.S (fun vs H Q E h => h.1.trans D.len.symm) fun cdv A outer s H vs Q E hr hsp => ?_
  obtain ⟨hl, Oo, ι, rs, h, q, cs, dis, trk, p⟩ := hsp
  refine ⟨TSv Z.xa (fun cls d _ H => E cls d H) (evSs Z.cl d.body), sndSs zo d.body (defBody st) (defScope st) hc _ ⟨⟨rfl, rfl, rfl, rfl, rfl, hN.symm, rfl, rfl, hr⟩, D.S.kind, passes_of rfl, rfl, rfl, fun x hx => ⟨loc_of hx, .inl rfl⟩⟩ _ (takes_of rfl rfl rfl rfl), ?_⟩
  refine ⟨Oo, ι, H, ι, _, _, h, fr_start q (by rw [hl, ← D.len]; exact hle) cs dis trk, ?_⟩
  unfold runF at p
  cases e : evSs Z.cl d.body (startE d.N.length rs) h with
  | none => rw [e] at p; exact p.elim
  | some r =>
    rw [e] at p
    cases r with
    | next ρ h' => exact fun σ' H' ι' ow' f _ => p .non H' ι' f.st (f.fr.cells.less fun a => of_nil) .non
    | ret d' h' => exact fun v σ' H' ι' ow' ρ' f dr => p v H' ι' f.st (f.fr.cells.less fun a => of_nil) (dr.less fun a => of_nil)
    | exc c h' => exact fun σ' H' ι' ow' ρ' f => p H' ι' f.st (f.fr.cells.less fun a => of_nil)
/-! ### all defs, level by level -/
structure World1 where
  P : Program
  w : World
  K : PySem.W.Frag
  mg : Str → Option Value
  base : Heap
  xa : Nat → Addr
  xn : Nat → Str
  xs : List Nat
  T : List Df
def World1.cfg (V : World1) (N : List Str) : Cfg := ⟨N, fun f => (fnAt V.T f).nm, fun f => (fnAt V.T f).ar, List.range V.T.length, V.xn, V.xs⟩
def World1.wd (V : World1) (k : Nat) (N : List Str) : Wd := ⟨V.P, V.w, V.K, V.mg, V.base, k, clAt V.T k, V.xa, V.cfg N⟩
structure World1.Ok (V : World1) : Prop where
  bi : ∀ b : Bi, V.mg b.name = none
  ty : ∀ t : Ty, V.mg (Str.ofString t.name) = none
  ii : V.mg "isinstance" = none
  rg : V.mg "range" = none
  en : V.mg "enumerate" = none
  zp : V.mg "zip" = none
  st : V.mg "set" = none
  ex : ∀ c ∈ V.xs, ExcF V.K V.mg (V.xn c) (V.xa c)
  xm : ∀ c ∈ V.xs, ∀ d ∈ V.xs, PySem.W.exmOne V.K (.ref (V.xa c)) (.ref (V.xa d)) = some (decide (c = d))
  df : ∀ f, f < V.T.length → ∃ qual st fa fd ps, DefOk (V.wd 0 (fnAt V.T f).N) qual st (fnAt V.T f) fa fd ps ∧ chkSs (V.cfg (fnAt V.T f).N) (defScope st) (fnAt V.T f).body (defBody st) = true
theorem World1.Ok.level {V : World1} (vo : V.Ok) : ∀ k, ∀ f, f < V.T.length → ∃ fa fd ps, FnOk V.P V.w V.K V.mg V.base (L2.CX V.P V.w) k fa fd ps (Prom (fnAt V.T f).ar V.xa (clAt V.T k f)) ∧ V.mg (fnAt V.T f).nm = some (.ref fa) ∧ PySem.W.keepIn V.K (.ref fa) = true ∧ Binds V.K fd ps []
  | 0, f, hf => by
    obtain ⟨qual, st, fa, fd, ps, D, _⟩ := vo.df f hf
    refine ⟨fa, fd, ps, ⟨fun vs H Q E h => ?_, fun A outer s H args us vs Q E _ _ _ _ h => ?_⟩, D.m, D.F.kp, D.b⟩
    · obtain ⟨_, _, _, _, _, _, _, _, _, h⟩ := h
      exact h.elim
    · obtain ⟨_, _, _, _, _, _, _, _, _, h⟩ := h
      exact h.elim
  | k + 1, f, hf => by
    obtain ⟨qual, st, fa, fd, ps, D, hc⟩ := vo.df f hf
    have zo : (V.wd k (fnAt V.T f).N).Ok := ⟨D.S.nd, fun g hg => World1.Ok.level vo k g (List.mem_range.mp hg), vo.bi, vo.ty, vo.ii, vo.rg, vo.en, vo.zp, vo.st, vo.ex, vo.xm, fun c hc => (vo.ex c hc).k⟩
    exact ⟨fa, fd, ps, def_ok (Z := V.wd k (fnAt V.T f).N) zo ⟨D.F, D.S, D.len, D.b, D.m⟩ rfl hc, D.m, D.F.kp, D.b⟩
theorem World1.Ok.at_ {V : World1} (vo : V.Ok) (k : Nat) {f : Nat} {qual : Str} {st : Stmt} {fa : Addr} {fd : FuncData} {ps : List Str} (D : DefOk (V.wd 0 (fnAt V.T f).N) qual st (fnAt V.T f) fa fd ps) (hc : chkSs (V.cfg (fnAt V.T f).N) (defScope st) (fnAt V.T f).body (defBody st) = true) :
    FnOk V.P V.w V.K V.mg V.base (L2.CX V.P V.w) (k + 1) fa fd ps (Prom (fnAt V.T f).ar V.xa (clAt V.T (k + 1) f)) := by
  have zo : (V.wd k (fnAt V.T f).N).Ok := ⟨D.S.nd, fun g hg => World1.Ok.level vo k g (List.mem_range.mp hg), vo.bi, vo.ty, vo.ii, vo.rg, vo.en, vo.zp, vo.st, vo.ex, vo.xm, fun c hc => (vo.ex c hc).k⟩
  exact def_ok (Z := V.wd k (fnAt V.T f).N) zo ⟨D.F, D.S, D.len, D.b, D.m⟩ rfl hc
end Kb
namespace Kb
open PySem L2

def topS (P : Program) (i : Nat) : Stmt := P.main.body.getD i (.Pass ⟨0, 0, 0, 0⟩)
/-! ### facts of the head -/
def noL (K : PySem.W.Frag) : Bool := K.all fun p => match p.2.cls with
  | .type c => !(c == "list")
  | _ => true
theorem lookup_mem {K : List (Addr × Obj)} {a : Addr} {o : Obj} (h : K.lookup a = some o) : (a, o) ∈ K := by
  induction K with
  | nil => cases h
  | cons p r ih =>
    obtain ⟨b, q⟩ := p
    rw [List.lookup_cons] at h
    cases e : (a == b) with
    | true =>
      rw [e] at h
      cases h
      rw [beq_iff_eq.mp e]
      exact List.mem_cons_self
    | false =>
      rw [e] at h
      exact List.mem_cons_of_mem _ (ih h)
theorem noL_at {K : PySem.W.Frag} (h : noL K = true) {a : Addr} {o : Obj} (e : K.lookup a = some o) : o.cls ≠ .type "list" := fun z => by
  have q := List.all_eq_true.mp h (a, o) (lookup_mem e)
  dsimp only at q
  rw [z] at q
  cases q
def hookL (n : Nat) (fa : List He.Fa) (fn : List He.DefD) : PySem.W.Hook where
  α := He.AlD × Bool
  obs := fun s => (He.obsDG n fa fn s.heap.get?, noL (He.frG s.heap.get? (He.asD s.heap.get? n)))
  val := fun _ => (He.valD fn, true)
  says := fun _ h => ∃ K : PySem.W.Frag, K.In h ∧ He.SaysD fa fn K ∧ noL K = true
  of := fun _ _ e => ⟨_, He.frG_in, congrArg (fun z : He.AlD × Bool => z.1) e, congrArg (fun z : He.AlD × Bool => z.2) e⟩
  keeps := fun _ _ _ ⟨K, hK, c⟩ k => ⟨K, PySem.W.Frag.In.keeps hK k, c⟩
def obL (n : Nat) (fa : List He.Fa) (fn : List He.DefD) (s : PySem.W.SharedT) : He.AlD × Bool :=
  (He.obsDG n fa fn (HandSHeadRun.getT s), noL (He.frG (HandSHeadRun.getT s) (He.asD (HandSHeadRun.getT s) n)))
theorem obL_eq {n : Nat} {fa : List He.Fa} {fn : List He.DefD} (s : PySem.W.SharedT) : obL n fa fn s = (hookL n fa fn).obs s.abs := by
  have e : HandSHeadRun.getT s = s.abs.heap.get? := funext (HandSHeadRun.getT_eq s)
  unfold obL
  rw [e]
  rfl
theorem says_fact {fa : List He.Fa} {fn : List He.DefD} {K : PySem.W.Frag} (c : He.SaysD fa fn K) {f : He.Fa} (h : f ∈ fa) : f.ok K = true := by
  obtain ⟨i, hi, e⟩ := List.mem_iff_getElem.mp h
  exact c.fact i (f := f) (by rw [List.getElem?_eq_getElem hi, e])
theorem says_def {fa : List He.Fa} {fn : List He.DefD} {K : PySem.W.Frag} (c : He.SaysD fa fn K) {d : He.DefD} (h : d ∈ fn) : ∃ fd, FunD K d.name d.qual d.params d.body d.scope (d.dvs K) (d.kws K) (He.fAd K d.at_) fd := by
  obtain ⟨i, hi, e⟩ := List.mem_iff_getElem.mp h
  exact c.def_ i (d := d) (by rw [List.getElem?_eq_getElem hi, e])
/-! ### the table -/
structure Tb where
  P : Program
  xn : List Str
  T : List Df
def Tb.st (t : Tb) (d : Df) : Stmt := topS t.P d.ix
def Tb.dd (t : Tb) (d : Df) : He.DefD := ⟨(d.nm, none), d.nm, d.nm, defArgs (t.st d), defBody (t.st d), defScope (t.st d), [], []⟩
def Tb.fn (t : Tb) : List He.DefD := t.T.map t.dd
def freeN : List Str := ["len", "abs", "max", "min", "all", "any", "sorted", "tuple", "list", "int", "isinstance", "range", "enumerate", "zip", "set", "str", "bool", "dict"]
def Tb.fa (t : Tb) : List He.Fa := t.T.map (fun d => .glo d.nm) ++ freeN.map .free ++ t.xn.map .glo ++ t.xn.map .exc ++ t.xn.flatMap fun x => t.xn.map fun y => .exm x y (decide (x = y))
def Tb.cfg (t : Tb) (N : List Str) : Cfg := ⟨N, fun f => (fnAt t.T f).nm, fun f => (fnAt t.T f).ar, List.range t.T.length, fun c => t.xn.getD c "", List.range t.xn.length⟩
def scB (N ps : List Str) (sc : Scope) : Bool := (match sc.kind with | .function => true | _ => false) && !sc.isCoroutine && !sc.isGenerator && decide N.Nodup && decide (N.take ps.length = ps) && ps.all (fun x => locB sc x) && sc.names.all fun y => match y.2 with | .free => false | _ => true
theorem scB_ok {N ps : List Str} {sc : Scope} (h : scB N ps sc = true) : FnScope N ps sc := by
  simp only [scB, Bool.and_eq_true, decide_eq_true_eq, Bool.not_eq_true'] at h
  obtain ⟨⟨⟨⟨⟨⟨h1, h2⟩, h3⟩, h4⟩, h5⟩, h6⟩, h7⟩ := h
  refine ⟨?_, h2, h3, h4, h5, fun x hx => loc_of (List.all_eq_true.mp h6 x hx), fun y hy e => ?_⟩
  · split at h1
    · assumption
    · cases h1
  · have := List.all_eq_true.mp h7 y hy
    rw [e] at this
    cases this
def Tb.chk1 (t : Tb) (d : Df) : Bool := scB d.N (d.N.take d.ar) (defScope (t.st d)) && decide (d.ar ≤ d.N.length) && chkSs (t.cfg d.N) (defScope (t.st d)) d.body (defBody (t.st d))
def Tb.BindOk (t : Tb) (d : Df) : Prop := ∀ (kV doc pm : Value) (an : Option Addr) (cdv ct : Value) (us : List Value), us.length = (d.N.take d.ar).length → bindArgs (PySem.W.fnOf d.nm d.nm (defArgs (t.st d)) (defBody (t.st d)) (defScope (t.st d)) .none kV doc pm an cdv ct) ⟨us, []⟩ = pure ((d.N.take d.ar).zip us)
structure Tb.Ok (t : Tb) : Prop where
  chk : ∀ d ∈ t.T, t.chk1 d = true
  bind : ∀ d ∈ t.T, t.BindOk d
  nd : t.xn.Nodup
theorem fun_of {K : PySem.W.Frag} {x qual : Str} {st : Stmt} {f : Addr} {fd : FuncData} (F : FunD K x qual (defArgs st) (defBody st) (defScope st) [] [] f fd) : Fun K x qual st f fd := by
  obtain ⟨oc, od, dV, kV, doc, pm, an, cdv, ct, osl, e, lk, hcd, hD, hK⟩ := F.ex
  rcases hD with ⟨_, rfl⟩ | ⟨e, _⟩
  · exact ⟨⟨oc, od, kV, doc, pm, an, cdv, ct, osl, e, lk, hcd⟩, F.kp⟩
  · exact absurd rfl e
def Tb.wd (t : Tb) (w : World) (K : PySem.W.Frag) (mg : Str → Option Value) (base : Heap) : World1 := ⟨t.P, w, K, mg, base, fun c => He.ga K (t.xn.getD c ""), fun c => t.xn.getD c "", List.range t.xn.length, t.T⟩
theorem fnAt_mem {T : List Df} {f : Nat} (h : f < T.length) : fnAt T f ∈ T := by
  unfold fnAt
  rw [List.getD_eq_getElem?_getD, List.getElem?_eq_getElem h]
  exact List.getElem_mem h
theorem Tb.Ok.world {t : Tb} (o : t.Ok) {w : World} {K : PySem.W.Frag} {mg : Str → Option Value} {h base : Heap} (X : K.In h) (G : h.Ns mainGlobals mg) (c : He.SaysD t.fa t.fn K) : (t.wd w K mg base).Ok := by
  have fr : ∀ x ∈ freeN, mg x = none := fun x hx => He.free_ok X G (says_fact c (by
    unfold Tb.fa
    simp only [List.mem_append, List.mem_map]
    exact .inl (.inl (.inl (.inr ⟨x, hx, rfl⟩)))))
  have gx : ∀ x ∈ t.xn, mg x = some (.ref (He.ga K x)) := fun x hx => He.glo_ok X G (says_fact c (by
    unfold Tb.fa
    simp only [List.mem_append, List.mem_map]
    exact .inl (.inl (.inr ⟨x, hx, rfl⟩))))
  have gd : ∀ d ∈ t.T, mg d.nm = some (.ref (He.ga K d.nm)) := fun d hd => He.glo_ok X G (says_fact c (by
    unfold Tb.fa
    simp only [List.mem_append, List.mem_map]
    exact .inl (.inl (.inl (.inl ⟨d, hd, rfl⟩)))))
  have xe : ∀ x ∈ t.xn, (He.Fa.exc x).ok K = true := fun x hx => says_fact c (by
    unfold Tb.fa
    simp only [List.mem_append, List.mem_map]
    exact .inl (.inr ⟨x, hx, rfl⟩))
  have xm : ∀ x ∈ t.xn, ∀ y ∈ t.xn, (He.Fa.exm x y (decide (x = y))).ok K = true := fun x hx y hy => says_fact c (by
    unfold Tb.fa
    simp only [List.mem_append, List.mem_flatMap, List.mem_map]
    exact .inr ⟨x, hx, y, hy, rfl⟩)
  have at_ : ∀ i, i < t.xn.length → t.xn.getD i "" ∈ t.xn := fun i hi => by
    rw [List.getD_eq_getElem?_getD, List.getElem?_eq_getElem hi]
    exact List.getElem_mem hi
  refine ⟨fun b => fr _ (by cases b <;> decide +kernel), fun ty => fr _ (by cases ty <;> decide +kernel), fr _ (by decide +kernel), fr _ (by decide +kernel), fr _ (by decide +kernel), fr _ (by decide +kernel), fr _ (by decide +kernel), ?_, ?_, ?_⟩
  · intro i hi
    have hi' := at_ i (List.mem_range.mp hi)
    obtain ⟨e1, e2, e3, e4⟩ := He.exc_ok (xe _ hi')
    exact ⟨e1, gx _ hi', e2, e3, e4⟩
  · intro i hi j hj
    have li := List.mem_range.mp hi
    have lj := List.mem_range.mp hj
    have q := He.exm_ok (xm _ (at_ i li) _ (at_ j lj))
    have e : decide (t.xn.getD i "" = t.xn.getD j "") = decide (i = j) := by
      by_cases z : i = j
      · subst z; simp
      · have ne : t.xn.getD i "" ≠ t.xn.getD j "" := fun y => by
          rw [List.getD_eq_getElem?_getD, List.getElem?_eq_getElem li, List.getD_eq_getElem?_getD, List.getElem?_eq_getElem lj] at y
          rcases Nat.lt_or_gt_of_ne z with q | q
          · exact List.pairwise_iff_getElem.mp o.nd i j li lj q y
          · exact List.pairwise_iff_getElem.mp o.nd j i lj li q y.symm
        rw [decide_eq_false ne, decide_eq_false z]
    rw [e] at q
    exact q
  · intro f hf
    have hm : fnAt t.T f ∈ t.T := fnAt_mem hf
    obtain ⟨fd, F⟩ := says_def c (d := t.dd (fnAt t.T f)) (List.mem_map.mpr ⟨_, hm, rfl⟩)
    have F2 : FunD K (fnAt t.T f).nm (fnAt t.T f).nm (defArgs (t.st (fnAt t.T f))) (defBody (t.st (fnAt t.T f))) (defScope (t.st (fnAt t.T f))) [] [] (He.ga K (fnAt t.T f).nm) fd := F
    have k := o.chk _ hm
    unfold Tb.chk1 at k
    simp only [Bool.and_eq_true, decide_eq_true_eq] at k
    refine ⟨_, t.st (fnAt t.T f), _, fd, (fnAt t.T f).N.take (fnAt t.T f).ar, ⟨fun_of F2, scB_ok k.1.1, ?_, F2.bindsN (o.bind _ hm), gd _ hm⟩, k.2⟩
    rw [List.length_take]
    exact Nat.min_eq_left k.1.2
/-! ### the law -/
theorem fnOk_cx {P : Program} {w : World} {K : PySem.W.Frag} {mg : Str → Option Value} {base : Heap} {CX CX' : CXT} {k : Nat} {f : Addr} {fd : FuncData} {ps : List Str} {sp : Sp} (F : FnOk P w K mg base CX k f fd ps sp) (h : ∀ outer H s E e s', CX outer H s E e s' → CX' outer H s E e s') : FnOk P w K mg base CX' k f fd ps sp :=
  ⟨F.len, fun A outer s H args us vs Q E hr he hb hv hs => codeAny_mono (F.run A outer s H args us vs Q E hr he hb hv hs) fun r s' q => by
    cases r with
    | error e => exact h _ _ _ _ _ _ q
    | ok fl => cases fl <;> exact q⟩
theorem drs_ints {ι : List Addr} {O : Addr → Prop} {H : Hp} : ∀ ns : List Int, DRs ι O H (ns.map V.int) (ns.map D.int)
  | [] => .nil
  | _ :: r => .cons (.int _) (drs_ints r)
theorem Tb.Ok.law {t : Tb} (o : t.Ok) {k f n : Nat} (hf : f < t.T.length) (ha : (fnAt t.T f).ar = 1) (hl : ∀ ns : List Int, ns.length ≤ n → ∃ h, clAt t.T (k + 1) f [.bor (ns.map D.int)] [] = some (.ok (.bl true) h)) {w : World} {mg : Str → Option Value} {fa : Addr} {h : Heap} {K : PySem.W.Frag} (X : K.In h) (G : h.Ns mainGlobals mg) (hfa : mg (fnAt t.T f).nm = some (.ref fa)) (c : He.SaysD t.fa t.fn K) (hK : noL K = true) :
    ∃ (fd : FuncData) (sp : Sp), (∀ (s : Shared) (u : Value), BindsTo s fd ⟨[u], []⟩ [((fnAt t.T f).N.headD "", u)]) ∧
        (∀ (H : Hp) (a : Addr) (ns : List Int), ns.length ≤ n → Only H → SqL K H a (ns.map V.int) → sp [.ref a] H (fun v _ => v = .bl true) fun _ _ _ => False) ∧
        ∀ base : Heap, K.In base → base.Ns mainGlobals mg → FnOk t.P w K mg base (L2.CX t.P w) (k + 1) fa fd [(fnAt t.T f).N.headD ""] sp := by
  have hm : fnAt t.T f ∈ t.T := fnAt_mem hf
  obtain ⟨fd, F⟩ := says_def c (d := t.dd (fnAt t.T f)) (List.mem_map.mpr ⟨_, hm, rfl⟩)
  have F2 : FunD K (fnAt t.T f).nm (fnAt t.T f).nm (defArgs (t.st (fnAt t.T f))) (defBody (t.st (fnAt t.T f))) (defScope (t.st (fnAt t.T f))) [] [] (He.ga K (fnAt t.T f).nm) fd := F
  have hg : mg (fnAt t.T f).nm = some (.ref (He.ga K (fnAt t.T f).nm)) := He.glo_ok X G (says_fact c (by
    unfold Tb.fa
    simp only [List.mem_append, List.mem_map]
    exact .inl (.inl (.inl (.inl ⟨_, hm, rfl⟩)))))
  rw [hg] at hfa
  cases hfa
  have kk := o.chk _ hm
  unfold Tb.chk1 at kk
  simp only [Bool.and_eq_true, decide_eq_true_eq] at kk
  have hp : (fnAt t.T f).N.take (fnAt t.T f).ar = [(fnAt t.T f).N.headD ""] := by
    have h1 := kk.1.2
    rw [ha] at h1 ⊢
    cases e : (fnAt t.T f).N with
    | nil => rw [e] at h1; exact absurd h1 (by simp)
    | cons x r => rfl
  have ob := o.bind _ hm
  unfold Tb.BindOk at ob
  rw [hp] at ob
  refine ⟨fd, Prom (fnAt t.T f).ar (fun c => He.ga K (t.xn.getD c "")) (clAt t.T (k + 1) f), fun s u => F2.bindsA ob s [u] rfl, fun H a ns hn hO hS => ?_, fun base hb hG => ?_⟩
  · have hr : Rd H a (.lst (ns.map V.int)) := by
      rcases hS with hS | ⟨ob, _, _, h1, h2, _⟩
      · exact hS
      · exact absurd h2 (noL_at hK h1)
    obtain ⟨h', e⟩ := hl ns hn
    refine ⟨ha.symm, fun b => b = a, [], [.bor (ns.map D.int)], [], .cons ⟨a, _, rfl, .inl rfl, by simp, hr, drs_ints ns⟩ .nil, ⟨rfl, List.nodup_nil, fun r b cl h1 => by simp at h1⟩, by simp, fun b hb => by rw [hb]; exact Rd.ne hr, ?_⟩
    rw [e]
    intro v H' ι' _ _ dr
    cases dr
    rfl
  · have D : DefOk ((t.wd w K mg base).wd 0 (fnAt t.T f).N) (fnAt t.T f).nm (t.st (fnAt t.T f)) (fnAt t.T f) (He.ga K (fnAt t.T f).nm) fd [(fnAt t.T f).N.headD ""] :=
      ⟨fun_of F2, by have := scB_ok kk.1.1; rw [hp] at this; exact this, by rw [ha]; rfl, F2.bindsN ob, hg⟩
    exact World1.Ok.at_ (V := t.wd w K mg base) (o.world X G c) k D kk.2
end Kb
namespace Kb
open PySem L2

def b_is_integer : Ss :=
  (.cons (.ret (.bop true (.cons (.isi .int (.var 0)) (.cons (.not (.isi .bool (.var 0))) (.cons (.chain .le .le (.var 1) (.var 0) (.var 2)) .nil)))))
  .nil)
def b_is_word (n_is_integer : Nat) : Ss :=
  (.cons (.ite (.not (.isi .str (.var 0))) (.cons (.ret (.cB false))
  .nil) .nil)
  (.cons (.ite (.cmp .eq (.var 0) (.cS "only")) (.cons (.ret (.call n_is_integer (.cons (.var 1) (.cons (.cI 0) (.cons (.cI 2) .nil)))))
  .nil) .nil)
  (.cons (.ite (.cmp .eq (.var 0) (.cS "limit")) (.cons (.ret (.call n_is_integer (.cons (.var 1) (.cons (.cI 1) (.cons (.cI 24) .nil)))))
  .nil) .nil)
  (.cons (.ret (.bop true (.cons (.cmp .inn (.var 0) (.tup (.cons (.cS "none") (.cons (.cS "free") .nil)))) (.cons (.call n_is_integer (.cons (.var 1) (.cons (.cI 0) (.cons (.cI 0) .nil)))) .nil))))
  .nil))))
def b_are_days (n_is_integer : Nat) : Ss :=
  (.cons (.ite (.bop false (.cons (.not (.isi .tuple (.var 0))) (.cons (.not (.chain .le .le (.cI 1) (.bi .len (.cons (.var 0) .nil)) (.cI 7))) .nil))) (.cons (.ret (.cB false))
  .nil) .nil)
  (.cons (.ite (.not (.bi .all (.cons (.comp [1] (.name 1) (.of (.var 0)) .none (.call n_is_integer (.cons (.var 1) (.cons (.cI 0) (.cons (.cI 6) .nil))))) .nil))) (.cons (.ret (.cB false))
  .nil) .nil)
  (.cons (.ret (.bi .all (.cons (.comp [1, 2] (.tup [1, 2]) (.zip (.var 0) (.cut (.var 0) (.some (.cI 1)) .none)) .none (.cmp .lt (.var 1) (.var 2))) .nil)))
  .nil)))
def b_is_sign (n_is_word n_is_integer n_are_days : Nat) : Ss :=
  (.cons (.ite (.bop false (.cons (.not (.isi .tuple (.var 1))) (.cons (.cmp .ne (.bi .len (.cons (.var 1) .nil)) (.cI 8)) .nil))) (.cons (.ret (.cB false))
  .nil) .nil)
  (.cons (.unp (.tup [2, 3, 4, 5, 6, 7, 8, 9]) (.var 1))
  (.cons (.ite (.bop false (.cons (.not (.call n_is_integer (.cons (.var 2) (.cons (.cI 0) (.cons (.cI 3) .nil))))) (.cons (.not (.call n_is_integer (.cons (.var 4) (.cons (.cI 1) (.cons (.var 0) .nil))))) (.cons (.not (.call n_is_integer (.cons (.var 3) (.cons (.cI 0) (.cons (.bin .sub (.var 4) (.cI 1)) .nil))))) .nil)))) (.cons (.ret (.cB false))
  .nil) .nil)
  (.cons (.ite (.bop false (.cons (.not (.call n_are_days (.cons (.var 5) .nil))) (.cons (.not (.call n_is_integer (.cons (.var 6) (.cons (.cI 0) (.cons (.cI 23) .nil))))) (.cons (.not (.call n_is_integer (.cons (.var 7) (.cons (.cI 0) (.cons (.cI 24) .nil))))) .nil)))) (.cons (.ret (.cB false))
  .nil) .nil)
  (.cons (.ret (.call n_is_word (.cons (.var 8) (.cons (.var 9) .nil))))
  .nil)))))
def b_is_street (n_is_sign n_is_integer : Nat) : Ss :=
  (.cons (.ite (.bop false (.cons (.not (.isi .tuple (.var 0))) (.cons (.cmp .ne (.bi .len (.cons (.var 0) .nil)) (.cI 2)) (.cons (.not (.call n_is_integer (.cons (.idx (.var 0) (.cI 0)) (.cons (.cI 1) (.cons (.cI 4) .nil))))) .nil)))) (.cons (.ret (.cB false))
  .nil) .nil)
  (.cons (.unp (.tup [1, 2]) (.var 0))
  (.cons (.ite (.bop false (.cons (.not (.isi .tuple (.var 2))) (.cons (.cmp .gt (.bi .len (.cons (.var 2) .nil)) (.cI 6)) (.cons (.not (.bi .all (.cons (.comp [3] (.name 3) (.of (.var 2)) .none (.call n_is_sign (.cons (.var 1) (.cons (.var 3) .nil)))) .nil))) .nil)))) (.cons (.ret (.cB false))
  .nil) .nil)
  (.cons (.ret (.cmp .eq (.lenSet (.var 2)) (.bi .len (.cons (.var 2) .nil))))
  .nil))))
def b__law_draw : Ss :=
  (.cons (.ite (.not (.var 1)) (.cons (.app 1 (.bi .max (.cons (.bin .add (.comp [3] (.name 3) (.of (.var 0)) .none (.bi .abs (.cons (.var 3) .nil))) (.lst (.cons (.cI 0) .nil))) .nil)))
  .nil) .nil)
  (.cons (.app 1 (.cI 0))
  (.cons (.set 4 (.bi .len (.cons (.var 1) .nil)))
  (.cons (.set 3 (.ite (.var 0) (.idx (.var 0) (.bin .mod (.var 4) (.bi .len (.cons (.var 0) .nil)))) (.cI 0)))
  (.cons (.set 5 (.bin .mod (.idx (.var 1) (.cI 0)) (.cI 65536)))
  (.cons (.put 1 (.cI 0) (.bin .fdiv (.idx (.var 1) (.cI 0)) (.cI 65536)))
  (.cons (.set 6 (.bin .mod (.bin .add (.bin .add (.var 3) (.bin .mul (.cI 40503) (.var 5))) (.bin .mul (.cI 104729) (.var 4))) (.cI 4294967291)))
  (.cons (.set 6 (.bin .mod (.bin .mul (.bin .mod (.bin .mul (.var 6) (.var 6)) (.cI 4294967279)) (.cI 48271)) (.cI 4294967291)))
  (.cons (.set 7 (.bin .mod (.bin .mul (.bin .mod (.bin .mul (.var 6) (.var 6)) (.cI 4294967279)) (.cI 69621)) (.cI 4294967291)))
  (.cons (.ret (.bin .mod (.bin .add (.bin .mul (.bin .fdiv (.var 6) (.cI 64)) (.cI 67108864)) (.bin .fdiv (.var 7) (.cI 64))) (.var 2)))
  .nil))))))))))
def b__law_pick (n__law_draw : Nat) : Ss :=
  (.cons (.ret (.idx (.var 2) (.call n__law_draw (.cons (.var 0) (.cons (.var 1) (.cons (.bi .len (.cons (.var 2) .nil)) .nil))))))
  .nil)
def b__law_sign (n__law_draw n__law_pick : Nat) : Ss :=
  (.cons (.set 3 (.call n__law_draw (.cons (.var 0) (.cons (.var 1) (.cons (.var 2) .nil)))))
  (.cons (.set 4 (.bin .add (.bin .add (.var 3) (.cI 1)) (.call n__law_draw (.cons (.var 0) (.cons (.var 1) (.cons (.bin .sub (.var 2) (.var 3)) .nil))))))
  (.cons (.set 5 (.comp [6] (.name 6) (.rng1 (.cI 7)) (.some (.call n__law_draw (.cons (.var 0) (.cons (.var 1) (.cons (.cI 2) .nil))))) (.var 6)))
  (.cons (.set 5 (.ite (.var 5) (.var 5) (.lst (.cons (.call n__law_draw (.cons (.var 0) (.cons (.var 1) (.cons (.cI 7) .nil)))) .nil))))
  (.cons (.par 7 8 (.cons (.call n__law_pick (.cons (.var 0) (.cons (.var 1) (.cons (.lst (.cons (.cS "none") (.cons (.cS "only") (.cons (.cS "limit") (.cons (.cS "limit") (.cons (.cS "free") .nil)))))) .nil)))) (.cons (.cI 0) .nil)))
  (.cons (.ite (.cmp .eq (.var 7) (.cS "only")) (.cons (.set 8 (.call n__law_draw (.cons (.var 0) (.cons (.var 1) (.cons (.cI 3) .nil)))))
  .nil) .nil)
  (.cons (.ite (.cmp .eq (.var 7) (.cS "limit")) (.cons (.set 8 (.bin .add (.cI 1) (.call n__law_draw (.cons (.var 0) (.cons (.var 1) (.cons (.cI 5) .nil))))))
  .nil) .nil)
  (.cons (.par 9 10 (.cons (.call n__law_draw (.cons (.var 0) (.cons (.var 1) (.cons (.cI 24) .nil)))) (.cons (.call n__law_draw (.cons (.var 0) (.cons (.var 1) (.cons (.cI 25) .nil)))) .nil)))
  (.cons (.ret (.tup (.cons (.call n__law_draw (.cons (.var 0) (.cons (.var 1) (.cons (.cI 3) .nil)))) (.cons (.var 3) (.cons (.var 4) (.cons (.bi .tuple (.cons (.var 5) .nil)) (.cons (.var 9) (.cons (.var 10) (.cons (.var 7) (.cons (.var 8) .nil))))))))))
  .nil)))))))))
def b__law_street_L1 (n__law_sign : Nat) : Ss :=
  (.cons (.set 6 (.call n__law_sign (.cons (.var 0) (.cons (.var 1) (.cons (.var 2) .nil)))))
  (.cons (.set 4 (.bin .add (.var 4) (.bin .mul (.lst (.cons (.var 6) .nil)) (.bi .int (.cons (.cmp .nin (.var 6) (.var 4)) .nil)))))
  .nil))
def b__law_street (n__law_draw n__law_sign : Nat) : Ss :=
  (.cons (.set 4 (.lst .nil))
  (.cons (.loop (.name 5) (.rng1 (.call n__law_draw (.cons (.var 0) (.cons (.var 1) (.cons (.bin .add (.var 3) (.cI 1)) .nil))))) (b__law_street_L1 n__law_sign))
  (.cons (.ret (.tup (.cons (.var 2) (.cons (.bi .tuple (.cons (.var 4) .nil)) .nil))))
  .nil)))
def b__law_is_number : Ss :=
  (.cons (.ret (.bop true (.cons (.isi .int (.var 0)) (.cons (.not (.isi .bool (.var 0))) (.cons (.chain .le .le (.var 1) (.var 0) (.var 2)) .nil)))))
  .nil)
def b__law_is_street (n__law_is_sign n__law_is_number : Nat) : Ss :=
  (.cons (.ite (.bop false (.cons (.not (.isi .tuple (.var 0))) (.cons (.cmp .ne (.bi .len (.cons (.var 0) .nil)) (.cI 2)) (.cons (.not (.call n__law_is_number (.cons (.idx (.var 0) (.cI 0)) (.cons (.cI 1) (.cons (.cI 4) .nil))))) .nil)))) (.cons (.ret (.cB false))
  .nil) .nil)
  (.cons (.ite (.bop false (.cons (.not (.isi .tuple (.idx (.var 0) (.cI 1)))) (.cons (.cmp .gt (.bi .len (.cons (.idx (.var 0) (.cI 1)) .nil)) (.cI 6)) .nil))) (.cons (.ret (.cB false))
  .nil) .nil)
  (.cons (.ite (.comp [1] (.name 1) (.of (.idx (.var 0) (.cI 1))) (.some (.not (.call n__law_is_sign (.cons (.idx (.var 0) (.cI 0)) (.cons (.var 1) .nil))))) (.var 1)) (.cons (.ret (.cB false))
  .nil) .nil)
  (.cons (.ret (.cmp .eq (.comp [2] (.name 2) (.rng1 (.bi .len (.cons (.idx (.var 0) (.cI 1)) .nil))) (.some (.cmp .inn (.idx (.idx (.var 0) (.cI 1)) (.var 2)) (.cut (.idx (.var 0) (.cI 1)) .none (.some (.var 2))))) (.cI 1)) (.lst .nil)))
  .nil))))
def b_law_L1 (n__law_bent n__law_street n__law_draw : Nat) : Ss :=
  (.cons (.set 13 (.call n__law_street (.cons (.var 0) (.cons (.var 1) (.cons (.bin .add (.cI 1) (.call n__law_draw (.cons (.var 0) (.cons (.var 1) (.cons (.cI 4) .nil))))) (.cons (.cI 5) .nil))))))
  (.cons (.set 3 (.bin .add (.var 3) (.lst (.cons (.var 13) (.cons (.call n__law_bent (.cons (.var 0) (.cons (.var 1) (.cons (.var 13) .nil)))) (.cons (.tup (.cons (.bin .sub (.idx (.var 13) (.cI 0)) (.cI 1)) (.cons (.idx (.var 13) (.cI 1)) .nil))) .nil))))))
  (.cons (.set 3 (.bin .add (.var 3) (.lst (.cons (.tup (.cons (.idx (.var 13) (.cI 0)) (.cons (.bin .mul (.idx (.var 13) (.cI 1)) (.cI 2)) .nil))) .nil))))
  (.cons (.app 3 (.call n__law_bent (.cons (.var 0) (.cons (.var 1) (.cons (.call n__law_bent (.cons (.var 0) (.cons (.var 1) (.cons (.var 13) .nil)))) .nil)))))
  .nil))))
def b_law_L2 : Ss :=
  (.cons (.app 3 (.tup (.cons (.cI 1) (.cons (.tup (.cons (.bin .add (.cut (.var 2) .none (.some (.cI 6))) (.tup (.cons (.var 10) (.cons (.var 11) .nil)))) .nil)) .nil))))
  .nil)
def b_law_L3 : Ss :=
  (.cons (.app 3 (.tup (.cons (.cI 1) (.cons (.tup (.cons (.bin .add (.bin .add (.cut (.var 2) .none (.some (.cI 5))) (.tup (.cons (.var 8) .nil))) (.cut (.var 2) (.some (.cI 6)) .none)) .nil)) .nil))))
  .nil)
def b_law_L4 : Ss :=
  (.cons (.set 3 (.bin .add (.var 3) (.comp [7] (.name 7) (.of (.var 6)) .none (.tup (.cons (.cI 1) (.cons (.tup (.cons (.bin .add (.bin .add (.cut (.var 2) .none (.some (.var 5))) (.tup (.cons (.var 7) .nil))) (.cut (.var 2) (.some (.bin .add (.var 5) (.cI 1))) .none)) .nil)) .nil))))))
  .nil)
def b_law (n_is_street n__law_is_street n__law_bent n__law_street n__law_draw : Nat) : Ss :=
  (.cons (.cell 1 .nil)
  (.cons (.set 2 (.tup (.cons (.cI 0) (.cons (.cI 0) (.cons (.cI 1) (.cons (.tup (.cons (.cI 0) .nil)) (.cons (.cI 8) (.cons (.cI 9) (.cons (.cS "none") (.cons (.cI 0) .nil))))))))))
  (.cons (.own 3 (.cons (.tup (.cons (.cI 1) (.cons (.tup .nil) .nil))) (.cons (.tup (.cons (.cI 0) (.cons (.tup .nil) .nil))) (.cons (.tup (.cons (.cI 5) (.cons (.tup .nil) .nil))) (.cons (.tup (.cons (.cI 4) (.cons (.tup (.cons (.var 2) .nil)) .nil))) (.cons (.tup (.cons (.cB true) (.cons (.tup .nil) .nil))) (.cons (.tup (.cons (.cI 1) (.cons (.tup (.cons (.var 2) (.cons (.var 2) .nil))) .nil))) .nil)))))))
  (.cons (.set 3 (.bin .add (.var 3) (.lst (.cons (.tup (.cons (.cI 1) (.cons (.lst (.cons (.var 2) .nil)) .nil))) (.cons (.tup (.cons (.cI 1) (.cons (.var 2) .nil))) (.cons .cN (.cons (.cI 1) (.cons (.cS "1") (.cons (.tup (.cons (.cI 1) .nil)) (.cons (.lst (.cons (.cI 1) (.cons (.tup .nil) .nil))) .nil))))))))))
  (.cons (.set 4 (.lst (.cons (.tup (.cons (.cI 0) (.cons (.lst (.cons (.cI 3) (.cons (.cI 4) (.cons (.neg (.cI 1)) (.cons (.cB true) .nil))))) .nil))) (.cons (.tup (.cons (.cI 1) (.cons (.lst (.cons (.neg (.cI 1)) (.cons (.cI 1) (.cons (.cB true) .nil)))) .nil))) (.cons (.tup (.cons (.cI 2) (.cons (.lst (.cons (.cI 0) (.cons (.cI 2) (.cons (.cB true) .nil)))) .nil))) (.cons (.tup (.cons (.cI 4) (.cons (.lst (.cons (.cI 23) (.cons (.cI 24) (.cons (.neg (.cI 1)) .nil)))) .nil))) .nil))))))
  (.cons (.loop (.tup [5, 6]) (.of (.bin .add (.var 4) (.lst (.cons (.tup (.cons (.cI 3) (.cons (.lst (.cons (.tup .nil) (.cons (.tup (.cons (.cI 6) .nil)) (.cons (.tup (.cons (.cI 7) .nil)) (.cons (.tup (.cons (.cI 1) (.cons (.cI 0) .nil))) (.cons (.tup (.cons (.cI 0) (.cons (.cI 0) .nil))) (.cons (.lst (.cons (.cI 0) .nil)) .nil))))))) .nil))) .nil)))) b_law_L4)
  (.cons (.loop (.name 8) (.of (.lst (.cons (.cI 0) (.cons (.cI 24) (.cons (.cI 25) (.cons (.neg (.cI 1)) (.cons (.cB true) .nil))))))) b_law_L3)
  (.cons (.set 9 (.lst (.cons (.tup (.cons (.cS "only") (.cons (.cI 2) .nil))) (.cons (.tup (.cons (.cS "only") (.cons (.cI 3) .nil))) (.cons (.tup (.cons (.cS "limit") (.cons (.cI 0) .nil))) (.cons (.tup (.cons (.cS "limit") (.cons (.cI 24) .nil))) (.cons (.tup (.cons (.cS "limit") (.cons (.cI 25) .nil))) (.cons (.tup (.cons (.cS "free") (.cons (.cI 0) .nil))) .nil))))))))
  (.cons (.loop (.tup [10, 11]) (.of (.bin .add (.var 9) (.lst (.cons (.tup (.cons (.cS "free") (.cons (.cI 1) .nil))) (.cons (.tup (.cons (.cS "none") (.cons (.cI 1) .nil))) (.cons (.tup (.cons (.cS "some") (.cons (.cI 0) .nil))) .nil)))))) b_law_L2)
  (.cons (.app 3 (.tup (.cons (.cI 1) (.cons (.bi .tuple (.cons (.comp [8] (.name 8) (.rng1 (.cI 7)) .none (.bin .add (.bin .add (.cut (.var 2) .none (.some (.cI 5))) (.tup (.cons (.var 8) .nil))) (.cut (.var 2) (.some (.cI 6)) .none))) .nil)) .nil))))
  (.cons (.app 3 (.tup (.cons (.cI 1) (.cons (.bi .tuple (.cons (.comp [8] (.name 8) (.rng1 (.cI 6)) .none (.bin .add (.bin .add (.cut (.var 2) .none (.some (.cI 5))) (.tup (.cons (.var 8) .nil))) (.cut (.var 2) (.some (.cI 6)) .none))) .nil)) .nil))))
  (.cons (.loop (.name 12) (.rng1 (.cI 8)) (b_law_L1 n__law_bent n__law_street n__law_draw))
  (.cons (.ret (.cmp .eq (.comp [13] (.name 13) (.of (.var 3)) (.some (.cmp .ne (.call n_is_street (.cons (.var 13) .nil)) (.call n__law_is_street (.cons (.var 13) .nil)))) (.var 13)) (.lst .nil)))
  .nil)))))))))))))
def b_require_street (n_is_street x_InvalidStreet : Nat) : Ss :=
  (.cons (.ite (.not (.call n_is_street (.cons (.var 0) .nil))) (.cons (.raise x_InvalidStreet)
  .nil) .nil)
  .nil)
def b_require_hour (n_is_integer x_InvalidHour : Nat) : Ss :=
  (.cons (.ite (.not (.call n_is_integer (.cons (.var 0) (.cons (.cI 0) (.cons (.cI 167) .nil))))) (.cons (.raise x_InvalidHour)
  .nil) .nil)
  .nil)
def b_require_place (n_is_integer x_InvalidPlace : Nat) : Ss :=
  (.cons (.ite (.not (.call n_is_integer (.cons (.var 1) (.cons (.cI 0) (.cons (.bin .sub (.idx (.var 0) (.cI 0)) (.cI 1)) .nil))))) (.cons (.raise x_InvalidPlace)
  .nil) .nil)
  .nil)
def b_holds : Ss :=
  (.cons (.unp (.tup [3, 4, 5, 6, 7, 8, 9, 10]) (.var 0))
  (.cons (.ite (.not (.chain .le .lt (.var 4) (.var 1) (.var 5))) (.cons (.ret (.cB false))
  .nil) .nil)
  (.cons (.set 11 (.ite (.cmp .gt (.var 8) (.var 7)) (.bin .sub (.var 8) (.var 7)) (.bin .add (.bin .sub (.cI 24) (.var 7)) (.var 8))))
  (.cons (.ret (.bi .any (.cons (.comp [12] (.name 12) (.of (.var 6)) .none (.cmp .lt (.bin .mod (.bin .sub (.bin .sub (.var 2) (.bin .mul (.cI 24) (.var 12))) (.var 7)) (.cI 168)) (.var 11))) .nil)))
  .nil))))
def b_find_holding (n_holds : Nat) : Ss :=
  (.cons (.ret (.comp [3, 4] (.tup [3, 4]) (.enum (.idx (.var 0) (.cI 1))) (.some (.call n_holds (.cons (.var 4) (.cons (.var 1) (.cons (.var 2) .nil))))) (.var 3)))
  .nil)
def b_find_counting (n_find_holding : Nat) : Ss :=
  (.cons (.set 3 (.call n_find_holding (.cons (.var 0) (.cons (.var 1) (.cons (.var 2) .nil)))))
  (.cons (.set 4 (.bi .max (.cons (.bin .add (.comp [5] (.name 5) (.of (.var 3)) .none (.idx (.idx (.idx (.var 0) (.cI 1)) (.var 5)) (.cI 0))) (.lst (.cons (.neg (.cI 1)) .nil))) .nil)))
  (.cons (.ret (.comp [5] (.name 5) (.of (.var 3)) (.some (.cmp .eq (.idx (.idx (.idx (.var 0) (.cI 1)) (.var 5)) (.cI 0)) (.var 4))) (.var 5)))
  .nil)))
def b_require_spot (n_require_hour n_require_place n_require_street : Nat) : Ss :=
  (.cons (.expr (.call n_require_street (.cons (.var 0) .nil)))
  (.cons (.expr (.call n_require_place (.cons (.var 0) (.cons (.var 1) .nil))))
  (.cons (.expr (.call n_require_hour (.cons (.var 2) .nil)))
  .nil)))
def b_holding (n_find_holding n_require_spot : Nat) : Ss :=
  (.cons (.expr (.call n_require_spot (.cons (.var 0) (.cons (.var 1) (.cons (.var 2) .nil)))))
  (.cons (.ret (.call n_find_holding (.cons (.var 0) (.cons (.var 1) (.cons (.var 2) .nil)))))
  .nil))
def b_counting (n_find_counting n_require_spot : Nat) : Ss :=
  (.cons (.expr (.call n_require_spot (.cons (.var 0) (.cons (.var 1) (.cons (.var 2) .nil)))))
  (.cons (.ret (.call n_find_counting (.cons (.var 0) (.cons (.var 1) (.cons (.var 2) .nil)))))
  .nil))
def b__law_hours_L1 : Ss :=
  (.cons (.set 3 (.ite (.cmp .gt (.idx (.var 0) (.cI 5)) (.idx (.var 0) (.cI 4))) (.bin .sub (.idx (.var 0) (.cI 5)) (.idx (.var 0) (.cI 4))) (.bin .add (.bin .sub (.cI 24) (.idx (.var 0) (.cI 4))) (.idx (.var 0) (.cI 5)))))
  (.cons (.set 1 (.bin .add (.var 1) (.comp [4] (.name 4) (.rng1 (.var 3)) .none (.bin .mod (.bin .add (.bin .add (.bin .mul (.cI 24) (.var 2)) (.idx (.var 0) (.cI 4))) (.var 4)) (.cI 168)))))
  .nil))
def b__law_hours : Ss :=
  (.cons (.set 1 (.lst .nil))
  (.cons (.loop (.name 2) (.of (.idx (.var 0) (.cI 3))) b__law_hours_L1)
  (.cons (.ret (.var 1))
  .nil)))
def b__law_holding_L1 (n__law_hours : Nat) : Ss :=
  (.cons (.set 5 (.idx (.idx (.var 0) (.cI 1)) (.var 4)))
  (.cons (.ite (.bop true (.cons (.chain .le .lt (.idx (.var 5) (.cI 1)) (.var 1) (.idx (.var 5) (.cI 2))) (.cons (.cmp .inn (.var 2) (.call n__law_hours (.cons (.var 5) .nil))) .nil))) (.cons (.app 3 (.var 4))
  .nil) .nil)
  .nil))
def b__law_holding (n__law_hours : Nat) : Ss :=
  (.cons (.own 3 .nil)
  (.cons (.loop (.name 4) (.rng1 (.bi .len (.cons (.idx (.var 0) (.cI 1)) .nil))) (b__law_holding_L1 n__law_hours))
  (.frz 3 (.cons (.ret (.var 3))
  .nil))))
def b__law_counting (n__law_holding : Nat) : Ss :=
  (.cons (.set 3 (.call n__law_holding (.cons (.var 0) (.cons (.var 1) (.cons (.var 2) .nil)))))
  (.cons (.set 4 (.ite (.var 3) (.lst (.cons (.bi .max (.cons (.comp [5] (.name 5) (.of (.var 3)) .none (.idx (.idx (.idx (.var 0) (.cI 1)) (.var 5)) (.cI 0))) .nil)) .nil)) (.lst .nil)))
  (.cons (.ret (.comp [5] (.name 5) (.of (.var 3)) (.some (.cmp .inn (.idx (.idx (.idx (.var 0) (.cI 1)) (.var 5)) (.cI 0)) (.var 4))) (.var 5)))
  .nil)))
def b__law_holding_or (x_InvalidStreet x_InvalidPlace x_InvalidHour n_holding : Nat) : Ss :=
  (.cons (.tr (.cons (.ret (.call n_holding (.cons (.var 0) (.cons (.var 1) (.cons (.var 2) .nil)))))
  .nil) [(x_InvalidStreet, "InvalidStreet"), (x_InvalidPlace, "InvalidPlace"), (x_InvalidHour, "InvalidHour")])
  .nil)
def b__law_counting_or (x_InvalidStreet x_InvalidPlace x_InvalidHour n_counting : Nat) : Ss :=
  (.cons (.tr (.cons (.ret (.call n_counting (.cons (.var 0) (.cons (.var 1) (.cons (.var 2) .nil)))))
  .nil) [(x_InvalidStreet, "InvalidStreet"), (x_InvalidPlace, "InvalidPlace"), (x_InvalidHour, "InvalidHour")])
  .nil)
def b_law_02_L2 (n__law_counting_or n__law_holding_or : Nat) : Ss :=
  (.cons (.ite (.cmp .ne (.call n__law_holding_or (.cons (.var 4) (.cons (.cI 0) (.cons (.var 11) .nil)))) (.cS "InvalidHour")) (.cons (.ret (.cB false))
  .nil) .nil)
  (.cons (.ite (.cmp .ne (.call n__law_counting_or (.cons (.var 4) (.cons (.cI 0) (.cons (.var 11) .nil)))) (.cS "InvalidHour")) (.cons (.ret (.cB false))
  .nil) .nil)
  .nil))
def b_law_02_L3 (n__law_counting_or n__law_holding_or : Nat) : Ss :=
  (.cons (.ite (.cmp .ne (.call n__law_holding_or (.cons (.var 4) (.cons (.var 11) (.cons (.cI 999) .nil)))) (.cS "InvalidPlace")) (.cons (.ret (.cB false))
  .nil) .nil)
  (.cons (.ite (.cmp .ne (.call n__law_counting_or (.cons (.var 4) (.cons (.var 11) (.cons (.cI 999) .nil)))) (.cS "InvalidPlace")) (.cons (.ret (.cB false))
  .nil) .nil)
  .nil))
def b_law_02_L5 (n_counting n__law_counting n_holding n__law_holding : Nat) : Ss :=
  (.cons (.ite (.cmp .ne (.call n_holding (.cons (.var 4) (.cons (.var 10) (.cons (.var 9) .nil)))) (.call n__law_holding (.cons (.var 4) (.cons (.var 10) (.cons (.var 9) .nil))))) (.cons (.ret (.cB false))
  .nil) .nil)
  (.cons (.ite (.cmp .ne (.call n_counting (.cons (.var 4) (.cons (.var 10) (.cons (.var 9) .nil)))) (.call n__law_counting (.cons (.var 4) (.cons (.var 10) (.cons (.var 9) .nil))))) (.cons (.ret (.cB false))
  .nil) .nil)
  .nil))
def b_law_02_L4 (n_counting n__law_counting n_holding n__law_holding : Nat) : Ss :=
  (.cons (.loop (.name 10) (.rng1 (.var 3)) (b_law_02_L5 n_counting n__law_counting n_holding n__law_holding))
  .nil)
def b_law_02_L6 (n__law_hours : Nat) : Ss :=
  (.cons (.set 8 (.call n__law_hours (.cons (.var 7) .nil)))
  (.cons (.set 5 (.bin .add (.var 5) (.lst (.cons (.idx (.var 8) (.cI 0)) (.cons (.idx (.var 8) (.neg (.cI 1))) (.cons (.bin .mod (.bin .add (.idx (.var 8) (.neg (.cI 1))) (.cI 1)) (.cI 168)) (.cons (.bin .mod (.bin .sub (.idx (.var 8) (.cI 0)) (.cI 1)) (.cI 168)) .nil)))))))
  .nil))
def b_law_02_L1 (n__law_counting_or n__law_holding_or n_counting n__law_counting n_holding n__law_holding n__law_hours n__law_draw n__law_street : Nat) : Ss :=
  (.cons (.set 3 (.bin .add (.cI 1) (.call n__law_draw (.cons (.var 0) (.cons (.var 1) (.cons (.cI 3) .nil))))))
  (.cons (.set 4 (.call n__law_street (.cons (.var 0) (.cons (.var 1) (.cons (.var 3) (.cons (.cI 5) .nil))))))
  (.cons (.set 5 (.bin .add (.comp [6] (.name 6) (.rng1 (.cI 4)) .none (.call n__law_draw (.cons (.var 0) (.cons (.var 1) (.cons (.cI 168) .nil))))) (.lst (.cons (.cI 0) (.cons (.cI 167) .nil)))))
  (.cons (.loop (.name 7) (.of (.idx (.var 4) (.cI 1))) (b_law_02_L6 n__law_hours))
  (.cons (.loop (.name 9) (.of (.var 5)) (b_law_02_L4 n_counting n__law_counting n_holding n__law_holding))
  (.cons (.loop (.name 11) (.of (.lst (.cons (.neg (.cI 1)) (.cons (.var 3) (.cons .cN (.cons (.cB true) (.cons (.cS "0") .nil))))))) (b_law_02_L3 n__law_counting_or n__law_holding_or))
  (.cons (.loop (.name 11) (.of (.lst (.cons (.neg (.cI 1)) (.cons (.cI 168) (.cons .cN (.cons (.cB true) (.cons (.cS "0") .nil))))))) (b_law_02_L2 n__law_counting_or n__law_holding_or))
  (.cons (.ite (.cmp .ne (.call n__law_holding_or (.cons (.tup (.cons (.cI 0) (.cons (.tup .nil) .nil))) (.cons (.cI 9) (.cons (.cI 999) .nil)))) (.cS "InvalidStreet")) (.cons (.ret (.cB false))
  .nil) .nil)
  (.cons (.ite (.cmp .ne (.call n__law_counting_or (.cons .cN (.cons (.cI 9) (.cons (.cI 999) .nil)))) (.cS "InvalidStreet")) (.cons (.ret (.cB false))
  .nil) .nil)
  .nil)))))))))
def b_law_02 (n__law_counting_or n__law_holding_or n_counting n__law_counting n_holding n__law_holding n__law_hours n__law_draw n__law_street : Nat) : Ss :=
  (.cons (.cell 1 .nil)
  (.cons (.loop (.name 2) (.rng1 (.cI 8)) (b_law_02_L1 n__law_counting_or n__law_holding_or n_counting n__law_counting n_holding n__law_holding n__law_hours n__law_draw n__law_street))
  (.cons (.ret (.cB true))
  .nil)))
def b_require_kind (n_is_integer x_InvalidKind : Nat) : Ss :=
  (.cons (.ite (.not (.call n_is_integer (.cons (.var 0) (.cons (.cI 0) (.cons (.cI 2) .nil))))) (.cons (.raise x_InvalidKind)
  .nil) .nil)
  .nil)
def b_words_at (n_find_counting : Nat) : Ss :=
  (.cons (.ret (.comp [3] (.name 3) (.of (.call n_find_counting (.cons (.var 0) (.cons (.var 1) (.cons (.var 2) .nil))))) .none (.cut (.idx (.idx (.var 0) (.cI 1)) (.var 3)) (.some (.cI 6)) .none)))
  .nil)
def b_find_kinds (n_words_at : Nat) : Ss :=
  (.cons (.set 3 (.call n_words_at (.cons (.var 0) (.cons (.var 1) (.cons (.var 2) .nil)))))
  (.cons (.ite (.cmp .inn (.tup (.cons (.cS "none") (.cons (.cI 0) .nil))) (.var 3)) (.cons (.ret (.lst .nil))
  .nil) .nil)
  (.cons (.ret (.comp [4] (.name 4) (.rng1 (.cI 3)) (.some (.bi .all (.cons (.comp [5, 6] (.tup [5, 6]) (.of (.var 3)) .none (.bop false (.cons (.cmp .ne (.var 5) (.cS "only")) (.cons (.cmp .eq (.var 6) (.var 4)) .nil)))) .nil))) (.var 4)))
  .nil)))
def b_find_limit (n_words_at : Nat) : Ss :=
  (.cons (.set 3 (.comp [4, 5] (.tup [4, 5]) (.of (.call n_words_at (.cons (.var 0) (.cons (.var 1) (.cons (.var 2) .nil))))) (.some (.cmp .eq (.var 4) (.cS "limit"))) (.var 5)))
  (.cons (.ret (.ite (.var 3) (.bi .min (.cons (.var 3) .nil)) .cN))
  .nil))
def b_may_stand (n_find_kinds n_require_hour n_require_place n_require_kind n_require_street : Nat) : Ss :=
  (.cons (.expr (.call n_require_street (.cons (.var 0) .nil)))
  (.cons (.expr (.call n_require_kind (.cons (.var 1) .nil)))
  (.cons (.expr (.call n_require_place (.cons (.var 0) (.cons (.var 2) .nil))))
  (.cons (.expr (.call n_require_hour (.cons (.var 3) .nil)))
  (.cons (.ret (.cmp .inn (.var 1) (.call n_find_kinds (.cons (.var 0) (.cons (.var 2) (.cons (.var 3) .nil))))))
  .nil)))))
def b_kinds_at (n_find_kinds n_require_spot : Nat) : Ss :=
  (.cons (.expr (.call n_require_spot (.cons (.var 0) (.cons (.var 1) (.cons (.var 2) .nil)))))
  (.cons (.ret (.call n_find_kinds (.cons (.var 0) (.cons (.var 1) (.cons (.var 2) .nil)))))
  .nil))
def b_limit (n_find_limit n_require_spot : Nat) : Ss :=
  (.cons (.expr (.call n_require_spot (.cons (.var 0) (.cons (.var 1) (.cons (.var 2) .nil)))))
  (.cons (.ret (.call n_find_limit (.cons (.var 0) (.cons (.var 1) (.cons (.var 2) .nil)))))
  .nil))
def b__law_same (n__law_same : Nat) : Ss :=
  (.cons (.ite (.isN (.var 1)) (.cons (.ret (.isN (.var 0)))
  .nil) .nil)
  (.cons (.ite (.isi .bool (.var 1)) (.cons (.ret (.bop true (.cons (.isi .bool (.var 0)) (.cons (.cmp .eq (.var 0) (.var 1)) .nil))))
  .nil) .nil)
  (.cons (.ite (.isi .tuple (.var 1)) (.cons (.ite (.bop false (.cons (.not (.isi .tuple (.var 0))) (.cons (.cmp .ne (.bi .len (.cons (.var 0) .nil)) (.bi .len (.cons (.var 1) .nil))) .nil))) (.cons (.ret (.cB false))
  .nil) .nil)
  (.cons (.ret (.bi .all (.cons (.comp [2, 3] (.tup [2, 3]) (.zip (.var 0) (.var 1)) .none (.call n__law_same (.cons (.var 2) (.cons (.var 3) .nil)))) .nil)))
  .nil)) .nil)
  (.cons (.ite (.isi .str (.var 1)) (.cons (.ret (.bop true (.cons (.isi .str (.var 0)) (.cons (.cmp .eq (.var 0) (.var 1)) .nil))))
  .nil) .nil)
  (.cons (.ret (.bop true (.cons (.isi .int (.var 0)) (.cons (.not (.isi .bool (.var 0))) (.cons (.cmp .eq (.var 0) (.var 1)) .nil)))))
  .nil)))))
def b__law_week_L1 (n__law_counting : Nat) : Ss :=
  (.cons (.set 4 (.comp [5] (.name 5) (.of (.call n__law_counting (.cons (.var 0) (.cons (.var 1) (.cons (.var 3) .nil))))) .none (.cut (.idx (.idx (.var 0) (.cI 1)) (.var 5)) (.some (.cI 6)) .none)))
  (.cons (.set 6 (.comp [7] (.name 7) (.rng1 (.cI 3)) (.some (.cmp .eq (.comp [8, 9] (.tup [8, 9]) (.of (.var 4)) (.some (.bop true (.cons (.cmp .eq (.var 8) (.cS "only")) (.cons (.cmp .ne (.var 9) (.var 7)) .nil)))) (.cI 1)) (.lst .nil))) (.var 7)))
  (.cons (.ite (.comp [8, 9] (.tup [8, 9]) (.of (.var 4)) (.some (.cmp .eq (.var 8) (.cS "none"))) (.cI 1)) (.cons (.set 6 (.lst .nil))
  .nil) .nil)
  (.cons (.app 2 (.tup (.cons (.var 6) (.cons (.bi .min (.cons (.bin .add (.comp [8, 9] (.tup [8, 9]) (.of (.var 4)) (.some (.cmp .eq (.var 8) (.cS "limit"))) (.var 9)) (.lst (.cons (.cI 168) .nil))) .nil)) .nil))))
  .nil))))
def b__law_week (n__law_counting : Nat) : Ss :=
  (.cons (.own 2 .nil)
  (.cons (.loop (.name 3) (.rng1 (.cI 168)) (b__law_week_L1 n__law_counting))
  (.frz 2 (.cons (.ret (.var 2))
  .nil))))
def b__law_may_stand_or (x_InvalidStreet x_InvalidKind x_InvalidPlace x_InvalidHour n_may_stand : Nat) : Ss :=
  (.cons (.tr (.cons (.ret (.call n_may_stand (.cons (.var 0) (.cons (.var 1) (.cons (.var 2) (.cons (.var 3) .nil))))))
  .nil) [(x_InvalidStreet, "InvalidStreet"), (x_InvalidKind, "InvalidKind"), (x_InvalidPlace, "InvalidPlace"), (x_InvalidHour, "InvalidHour")])
  .nil)
def b__law_kinds_at_or (x_InvalidStreet x_InvalidPlace x_InvalidHour n_kinds_at : Nat) : Ss :=
  (.cons (.tr (.cons (.ret (.call n_kinds_at (.cons (.var 0) (.cons (.var 1) (.cons (.var 2) .nil)))))
  .nil) [(x_InvalidStreet, "InvalidStreet"), (x_InvalidPlace, "InvalidPlace"), (x_InvalidHour, "InvalidHour")])
  .nil)
def b__law_limit_or (x_InvalidStreet x_InvalidPlace x_InvalidHour n_limit : Nat) : Ss :=
  (.cons (.tr (.cons (.ret (.call n_limit (.cons (.var 0) (.cons (.var 1) (.cons (.var 2) .nil)))))
  .nil) [(x_InvalidStreet, "InvalidStreet"), (x_InvalidPlace, "InvalidPlace"), (x_InvalidHour, "InvalidHour")])
  .nil)
def b__law_refused_L1 (n__law_limit_or n__law_kinds_at_or n__law_may_stand_or : Nat) : Ss :=
  (.cons (.ite (.cmp .ne (.call n__law_may_stand_or (.cons (.var 0) (.cons (.cI 0) (.cons (.var 2) (.cons (.cI 999) .nil))))) (.cS "InvalidPlace")) (.cons (.ret (.cB false))
  .nil) .nil)
  (.cons (.ite (.cmp .ne (.call n__law_kinds_at_or (.cons (.var 0) (.cons (.var 2) (.cons (.cI 999) .nil)))) (.cS "InvalidPlace")) (.cons (.ret (.cB false))
  .nil) .nil)
  (.cons (.ite (.cmp .ne (.call n__law_limit_or (.cons (.var 0) (.cons (.var 2) (.cons (.cI 999) .nil)))) (.cS "InvalidPlace")) (.cons (.ret (.cB false))
  .nil) .nil)
  .nil)))
def b__law_refused_L2 (n__law_may_stand_or : Nat) : Ss :=
  (.cons (.ite (.cmp .ne (.call n__law_may_stand_or (.cons (.var 0) (.cons (.var 2) (.cons (.cI 9) (.cons (.cI 999) .nil))))) (.cS "InvalidKind")) (.cons (.ret (.cB false))
  .nil) .nil)
  .nil)
def b__law_refused (n__law_kinds_at_or n__law_may_stand_or n__law_limit_or : Nat) : Ss :=
  (.cons (.loop (.name 2) (.of (.lst (.cons (.neg (.cI 1)) (.cons (.cI 3) (.cons .cN (.cons (.cB true) (.cons (.cS "0") .nil))))))) (b__law_refused_L2 n__law_may_stand_or))
  (.cons (.loop (.name 2) (.of (.lst (.cons (.neg (.cI 1)) (.cons (.var 1) (.cons .cN (.cons (.cB true) .nil)))))) (b__law_refused_L1 n__law_limit_or n__law_kinds_at_or n__law_may_stand_or))
  (.cons (.ite (.cmp .ne (.call n__law_may_stand_or (.cons (.var 0) (.cons (.cI 0) (.cons (.cI 0) (.cons (.cI 168) .nil))))) (.cS "InvalidHour")) (.cons (.ret (.cB false))
  .nil) .nil)
  (.cons (.ite (.cmp .ne (.call n__law_limit_or (.cons (.var 0) (.cons (.cI 0) (.cons (.neg (.cI 1)) .nil)))) (.cS "InvalidHour")) (.cons (.ret (.cB false))
  .nil) .nil)
  (.cons (.ite (.cmp .ne (.call n__law_kinds_at_or (.cons (.tup (.cons (.cI 5) (.cons (.tup .nil) .nil))) (.cons (.cI 9) (.cons (.cI 999) .nil)))) (.cS "InvalidStreet")) (.cons (.ret (.cB false))
  .nil) .nil)
  (.cons (.ite (.cmp .ne (.call n__law_limit_or (.cons (.cI 1) (.cons (.cI 9) (.cons (.cI 999) .nil)))) (.cS "InvalidStreet")) (.cons (.ret (.cB false))
  .nil) .nil)
  (.cons (.ret (.bop true (.cons (.cmp .eq (.call n__law_may_stand_or (.cons (.tup .nil) (.cons (.cI 9) (.cons (.cI 9) (.cons (.cI 999) .nil))))) (.cS "InvalidStreet")) (.cons (.cmp .eq (.call n__law_kinds_at_or (.cons (.var 0) (.cons (.cI 0) (.cons .cN .nil)))) (.cS "InvalidHour")) .nil))))
  .nil)))))))
def b_law_03_L3 (n_may_stand n__law_same n_limit n_kinds_at : Nat) : Ss :=
  (.cons (.unp (.tup [11, 12]) (.idx (.var 6) (.var 10)))
  (.cons (.ite (.cmp .ne (.call n_kinds_at (.cons (.var 4) (.cons (.var 5) (.cons (.var 10) .nil)))) (.var 11)) (.cons (.ret (.cB false))
  .nil) .nil)
  (.cons (.ite (.not (.call n__law_same (.cons (.call n_limit (.cons (.var 4) (.cons (.var 5) (.cons (.var 10) .nil)))) (.cons (.ite (.cmp .lt (.var 12) (.cI 168)) (.var 12) .cN) .nil)))) (.cons (.ret (.cB false))
  .nil) .nil)
  (.cons (.ite (.cmp .ne (.comp [13] (.name 13) (.rng1 (.cI 3)) (.some (.call n_may_stand (.cons (.var 4) (.cons (.var 13) (.cons (.var 5) (.cons (.var 10) .nil)))))) (.var 13)) (.var 11)) (.cons (.ret (.cB false))
  .nil) .nil)
  .nil))))
def b_law_03_L4 (n__law_hours : Nat) : Ss :=
  (.cons (.set 7 (.bin .add (.var 7) (.lst (.cons (.idx (.call n__law_hours (.cons (.var 9) .nil)) (.cI 0)) (.cons (.idx (.call n__law_hours (.cons (.var 9) .nil)) (.neg (.cI 1))) .nil)))))
  .nil)
def b_law_03_L2 (n_may_stand n__law_same n_limit n_kinds_at n__law_hours n__law_draw n__law_week : Nat) : Ss :=
  (.cons (.set 6 (.call n__law_week (.cons (.var 4) (.cons (.var 5) .nil))))
  (.cons (.set 7 (.comp [8] (.name 8) (.rng1 (.cI 6)) .none (.call n__law_draw (.cons (.var 0) (.cons (.var 1) (.cons (.cI 168) .nil))))))
  (.cons (.loop (.name 9) (.of (.idx (.var 4) (.cI 1))) (b_law_03_L4 n__law_hours))
  (.cons (.loop (.name 10) (.of (.var 7)) (b_law_03_L3 n_may_stand n__law_same n_limit n_kinds_at))
  .nil))))
def b_law_03_L1 (n__law_refused n_may_stand n__law_same n_limit n_kinds_at n__law_hours n__law_draw n__law_week n__law_street : Nat) : Ss :=
  (.cons (.set 3 (.bin .add (.cI 1) (.call n__law_draw (.cons (.var 0) (.cons (.var 1) (.cons (.cI 3) .nil))))))
  (.cons (.set 4 (.call n__law_street (.cons (.var 0) (.cons (.var 1) (.cons (.var 3) (.cons (.cI 5) .nil))))))
  (.cons (.loop (.name 5) (.rng1 (.var 3)) (b_law_03_L2 n_may_stand n__law_same n_limit n_kinds_at n__law_hours n__law_draw n__law_week))
  (.cons (.ite (.not (.call n__law_refused (.cons (.var 4) (.cons (.var 3) .nil)))) (.cons (.ret (.cB false))
  .nil) .nil)
  .nil))))
def b_law_03 (n__law_refused n_may_stand n__law_same n_limit n_kinds_at n__law_hours n__law_draw n__law_week n__law_street : Nat) : Ss :=
  (.cons (.cell 1 .nil)
  (.cons (.loop (.name 2) (.rng1 (.cI 7)) (b_law_03_L1 n__law_refused n_may_stand n__law_same n_limit n_kinds_at n__law_hours n__law_draw n__law_week n__law_street))
  (.cons (.ret (.cB true))
  .nil)))
def b__law_same_there (n_limit n_kinds_at : Nat) : Ss :=
  (.cons (.ite (.cmp .ne (.call n_kinds_at (.cons (.var 0) (.cons (.var 2) (.cons (.var 3) .nil)))) (.call n_kinds_at (.cons (.var 1) (.cons (.var 2) (.cons (.var 3) .nil))))) (.cons (.ret (.cB false))
  .nil) .nil)
  (.cons (.ret (.cmp .eq (.call n_limit (.cons (.var 0) (.cons (.var 2) (.cons (.var 3) .nil)))) (.call n_limit (.cons (.var 1) (.cons (.var 2) (.cons (.var 3) .nil))))))
  .nil))
def b__law_holds_L1 (n__law_same_there : Nat) : Ss :=
  (.cons (.ite (.cmp .nin (.var 6) (.var 4)) (.cons (.set 7 (.tup (.cons (.idx (.var 0) (.cI 0)) (.cons (.bin .add (.cut (.idx (.var 0) (.cI 1)) .none (.some (.var 6))) (.cut (.idx (.var 0) (.cI 1)) (.some (.bin .add (.var 6) (.cI 1))) .none)) .nil))))
  (.cons (.ite (.not (.call n__law_same_there (.cons (.var 0) (.cons (.var 7) (.cons (.var 1) (.cons (.var 2) .nil)))))) (.cons (.ret (.cB false))
  .nil) .nil)
  .nil)) .nil)
  .nil)
def b__law_holds (n_may_stand n_kinds_at n__law_same_there n_is_street n_counting n_holding : Nat) : Ss :=
  (.cons (.par 3 4 (.cons (.call n_holding (.cons (.var 0) (.cons (.var 1) (.cons (.var 2) .nil)))) (.cons (.call n_counting (.cons (.var 0) (.cons (.var 1) (.cons (.var 2) .nil)))) .nil)))
  (.cons (.set 5 (.comp [6] (.name 6) (.of (.var 3)) .none (.idx (.idx (.idx (.var 0) (.cI 1)) (.var 6)) (.cI 0))))
  (.cons (.ite (.cmp .ne (.var 4) (.comp [6] (.name 6) (.of (.var 3)) (.some (.cmp .eq (.idx (.idx (.idx (.var 0) (.cI 1)) (.var 6)) (.cI 0)) (.bi .max (.cons (.var 5) .nil)))) (.var 6))) (.cons (.ret (.cB false))
  .nil) .nil)
  (.cons (.loop (.name 6) (.of (.var 3)) (b__law_holds_L1 n__law_same_there))
  (.cons (.set 8 (.tup (.cons (.idx (.var 0) (.cI 0)) (.cons (.bi .tuple (.cons (.comp [6] (.name 6) (.of (.var 4)) .none (.idx (.idx (.var 0) (.cI 1)) (.var 6))) .nil)) .nil))))
  (.cons (.ite (.bop false (.cons (.not (.call n_is_street (.cons (.var 8) .nil))) (.cons (.not (.call n__law_same_there (.cons (.var 0) (.cons (.var 8) (.cons (.var 1) (.cons (.var 2) .nil)))))) .nil))) (.cons (.ret (.cB false))
  .nil) .nil)
  (.cons (.ret (.cmp .eq (.comp [9] (.name 9) (.rng1 (.cI 3)) (.some (.call n_may_stand (.cons (.var 0) (.cons (.var 9) (.cons (.var 1) (.cons (.var 2) .nil)))))) (.var 9)) (.call n_kinds_at (.cons (.var 0) (.cons (.var 1) (.cons (.var 2) .nil))))))
  .nil)))))))
def b_law_04_L2 (n_limit n_kinds_at n__law_holds n__law_draw : Nat) : Ss :=
  (.cons (.par 6 7 (.cons (.call n__law_draw (.cons (.var 0) (.cons (.var 1) (.cons (.var 3) .nil)))) (.cons (.call n__law_draw (.cons (.var 0) (.cons (.var 1) (.cons (.cI 168) .nil)))) .nil)))
  (.cons (.ite (.not (.call n__law_holds (.cons (.var 4) (.cons (.var 6) (.cons (.var 7) .nil))))) (.cons (.ret (.cB false))
  .nil) .nil)
  (.cons (.set 8 (.tup (.cons (.cI 3) (.cons (.var 6) (.cons (.bin .add (.var 6) (.cI 1)) (.cons (.tup (.cons (.cI 0) (.cons (.cI 1) (.cons (.cI 2) (.cons (.cI 3) (.cons (.cI 4) (.cons (.cI 5) (.cons (.cI 6) .nil)))))))) (.cons (.cI 0) (.cons (.cI 24) (.cons (.cS "none") (.cons (.cI 0) .nil))))))))))
  (.cons (.set 9 (.tup (.cons (.var 3) (.cons (.bin .add (.idx (.var 4) (.cI 1)) (.tup (.cons (.var 8) .nil))) .nil))))
  (.cons (.ite (.bop false (.cons (.cmp .ne (.call n_kinds_at (.cons (.var 9) (.cons (.var 6) (.cons (.var 7) .nil)))) (.lst .nil)) (.cons (.notN (.call n_limit (.cons (.var 9) (.cons (.var 6) (.cons (.var 7) .nil))))) .nil))) (.cons (.ret (.cB false))
  .nil) .nil)
  .nil)))))
def b_law_04_L1 (n_limit n_kinds_at n__law_holds n__law_draw n__law_street : Nat) : Ss :=
  (.cons (.set 3 (.bin .add (.cI 1) (.call n__law_draw (.cons (.var 0) (.cons (.var 1) (.cons (.cI 3) .nil))))))
  (.cons (.set 4 (.call n__law_street (.cons (.var 0) (.cons (.var 1) (.cons (.var 3) (.cons (.cI 5) .nil))))))
  (.cons (.loop (.name 5) (.rng1 (.cI 5)) (b_law_04_L2 n_limit n_kinds_at n__law_holds n__law_draw))
  .nil)))
def b_law_04 (n_limit n_kinds_at n__law_holds n__law_draw n__law_street : Nat) : Ss :=
  (.cons (.cell 1 .nil)
  (.cons (.loop (.name 2) (.rng1 (.cI 7)) (b_law_04_L1 n_limit n_kinds_at n__law_holds n__law_draw n__law_street))
  (.cons (.ret (.cB true))
  .nil)))
def b_require_hours (n_is_integer x_InvalidHours : Nat) : Ss :=
  (.cons (.ite (.not (.call n_is_integer (.cons (.var 0) (.cons (.cI 1) (.cons (.cI 168) .nil))))) (.cons (.raise x_InvalidHours)
  .nil) .nil)
  .nil)
def b_week_L1 (n_find_kinds n_find_limit : Nat) : Ss :=
  (.cons (.set 4 (.call n_find_limit (.cons (.var 0) (.cons (.var 1) (.cons (.var 3) .nil)))))
  (.cons (.app 2 (.tup (.cons (.call n_find_kinds (.cons (.var 0) (.cons (.var 1) (.cons (.var 3) .nil)))) (.cons (.ite (.isN (.var 4)) (.cI 168) (.var 4)) .nil))))
  .nil))
def b_week (n_find_kinds n_find_limit : Nat) : Ss :=
  (.cons (.own 2 .nil)
  (.cons (.loop (.name 3) (.rng1 (.cI 168)) (b_week_L1 n_find_kinds n_find_limit))
  (.frz 2 (.cons (.ret (.var 2))
  .nil))))
def b_run_L1 : Ss :=
  (.cons (.unp (.tup [5, 6]) (.idx (.var 0) (.bin .mod (.bin .add (.var 2) (.var 3)) (.cI 168))))
  (.cons (.ite (.bop false (.cons (.cmp .nin (.var 1) (.var 5)) (.cons (.cmp .lt (.var 6) (.bin .add (.var 3) (.cI 1))) .nil))) (.cons (.ret (.var 3))
  .nil) .nil)
  (.cons (.set 4 (.bi .min (.cons (.var 4) (.cons (.var 6) .nil))))
  (.cons (.aug 3 (.cI 1))
  .nil))))
def b_run : Ss :=
  (.cons (.par 3 4 (.cons (.cI 0) (.cons (.cI 168) .nil)))
  (.cons (.whl 1000000 (.cmp .lt (.var 3) (.var 4)) b_run_L1)
  (.cons (.ret (.var 3))
  .nil)))
def b_require_car (n_require_place n_require_kind n_require_street : Nat) : Ss :=
  (.cons (.expr (.call n_require_street (.cons (.var 0) .nil)))
  (.cons (.expr (.call n_require_kind (.cons (.var 1) .nil)))
  (.cons (.expr (.call n_require_place (.cons (.var 0) (.cons (.var 2) .nil))))
  .nil)))
def b_is_allowed (n_run n_week n_require_hours n_require_hour n_require_car : Nat) : Ss :=
  (.cons (.expr (.call n_require_car (.cons (.var 0) (.cons (.var 1) (.cons (.var 2) .nil)))))
  (.cons (.expr (.call n_require_hour (.cons (.var 3) .nil)))
  (.cons (.expr (.call n_require_hours (.cons (.var 4) .nil)))
  (.cons (.ret (.cmp .le (.var 4) (.call n_run (.cons (.call n_week (.cons (.var 0) (.cons (.var 2) .nil))) (.cons (.var 1) (.cons (.var 3) .nil))))))
  .nil))))
def b_longest (n_run n_week n_require_hour n_require_car : Nat) : Ss :=
  (.cons (.expr (.call n_require_car (.cons (.var 0) (.cons (.var 1) (.cons (.var 2) .nil)))))
  (.cons (.expr (.call n_require_hour (.cons (.var 3) .nil)))
  (.cons (.ret (.call n_run (.cons (.call n_week (.cons (.var 0) (.cons (.var 2) .nil))) (.cons (.var 1) (.cons (.var 3) .nil)))))
  .nil)))
def b__law_run_L1 : Ss :=
  (.cons (.unp (.tup [5, 6]) (.idx (.var 0) (.bin .mod (.bin .add (.var 2) (.var 4)) (.cI 168))))
  (.cons (.set 3 (.bi .min (.cons (.var 3) (.cons (.var 6) .nil))))
  (.cons (.ite (.bop false (.cons (.cmp .nin (.var 1) (.var 5)) (.cons (.cmp .lt (.var 3) (.bin .add (.var 4) (.cI 1))) .nil))) (.cons (.ret (.var 4))
  .nil) .nil)
  .nil)))
def b__law_run : Ss :=
  (.cons (.set 3 (.cI 168))
  (.cons (.loop (.name 4) (.rng1 (.cI 168)) b__law_run_L1)
  (.cons (.ret (.cI 168))
  .nil)))
def b__law_refused_05_L1 (n__law_is_allowed_or : Nat) : Ss :=
  (.cons (.ite (.cmp .ne (.call n__law_is_allowed_or (.cons (.var 0) (.cons (.cI 0) (.cons (.cI 0) (.cons (.cI 0) (.cons (.var 2) .nil)))))) (.cS "InvalidHours")) (.cons (.ret (.cB false))
  .nil) .nil)
  .nil)
def b__law_refused_05_L2 (n__law_longest_or n__law_is_allowed_or : Nat) : Ss :=
  (.cons (.ite (.cmp .ne (.call n__law_is_allowed_or (.cons (.var 0) (.cons (.cI 0) (.cons (.cI 0) (.cons (.var 2) (.cons (.cI 0) .nil)))))) (.cS "InvalidHour")) (.cons (.ret (.cB false))
  .nil) .nil)
  (.cons (.ite (.cmp .ne (.call n__law_longest_or (.cons (.var 0) (.cons (.cI 0) (.cons (.cI 0) (.cons (.var 2) .nil))))) (.cS "InvalidHour")) (.cons (.ret (.cB false))
  .nil) .nil)
  .nil))
def b__law_refused_05_L3 (n__law_longest_or n__law_is_allowed_or : Nat) : Ss :=
  (.cons (.ite (.cmp .ne (.call n__law_is_allowed_or (.cons (.var 0) (.cons (.cI 0) (.cons (.var 2) (.cons (.cI 999) (.cons (.cI 0) .nil)))))) (.cS "InvalidPlace")) (.cons (.ret (.cB false))
  .nil) .nil)
  (.cons (.ite (.cmp .ne (.call n__law_longest_or (.cons (.var 0) (.cons (.cI 0) (.cons (.var 2) (.cons (.cI 999) .nil))))) (.cS "InvalidPlace")) (.cons (.ret (.cB false))
  .nil) .nil)
  .nil))
def b__law_refused_05_L4 (n__law_longest_or n__law_is_allowed_or : Nat) : Ss :=
  (.cons (.ite (.cmp .ne (.call n__law_is_allowed_or (.cons (.var 0) (.cons (.var 2) (.cons (.cI 9) (.cons (.cI 999) (.cons (.cI 0) .nil)))))) (.cS "InvalidKind")) (.cons (.ret (.cB false))
  .nil) .nil)
  (.cons (.ite (.cmp .ne (.call n__law_longest_or (.cons (.var 0) (.cons (.var 2) (.cons (.cI 9) (.cons (.cI 999) .nil))))) (.cS "InvalidKind")) (.cons (.ret (.cB false))
  .nil) .nil)
  .nil))
def b__law_refused_05 (n__law_longest_or n__law_is_allowed_or : Nat) : Ss :=
  (.cons (.loop (.name 2) (.of (.lst (.cons (.neg (.cI 1)) (.cons (.cI 3) (.cons .cN (.cons (.cB true) .nil)))))) (b__law_refused_05_L4 n__law_longest_or n__law_is_allowed_or))
  (.cons (.loop (.name 2) (.of (.lst (.cons (.neg (.cI 1)) (.cons (.var 1) (.cons .cN (.cons (.cB true) .nil)))))) (b__law_refused_05_L3 n__law_longest_or n__law_is_allowed_or))
  (.cons (.loop (.name 2) (.of (.lst (.cons (.neg (.cI 1)) (.cons (.cI 168) (.cons .cN (.cons (.cB true) .nil)))))) (b__law_refused_05_L2 n__law_longest_or n__law_is_allowed_or))
  (.cons (.loop (.name 2) (.of (.lst (.cons (.cI 0) (.cons (.cI 169) (.cons (.neg (.cI 1)) (.cons .cN (.cons (.cB true) (.cons (.cS "1") .nil)))))))) (b__law_refused_05_L1 n__law_is_allowed_or))
  (.cons (.ret (.bop true (.cons (.cmp .eq (.call n__law_is_allowed_or (.cons (.tup .nil) (.cons (.cI 9) (.cons (.cI 9) (.cons (.cI 999) (.cons (.cI 0) .nil)))))) (.cS "InvalidStreet")) (.cons (.cmp .eq (.call n__law_longest_or (.cons (.cI 1) (.cons (.cI 9) (.cons (.cI 9) (.cons (.cI 999) .nil))))) (.cS "InvalidStreet")) .nil))))
  .nil)))))
def b__law_is_allowed_or (x_InvalidStreet x_InvalidKind x_InvalidPlace x_InvalidHour x_InvalidHours n_is_allowed : Nat) : Ss :=
  (.cons (.tr (.cons (.ret (.call n_is_allowed (.cons (.var 0) (.cons (.var 1) (.cons (.var 2) (.cons (.var 3) (.cons (.var 4) .nil)))))))
  .nil) [(x_InvalidStreet, "InvalidStreet"), (x_InvalidKind, "InvalidKind"), (x_InvalidPlace, "InvalidPlace"), (x_InvalidHour, "InvalidHour"), (x_InvalidHours, "InvalidHours")])
  .nil)
def b__law_longest_or (x_InvalidStreet x_InvalidKind x_InvalidPlace x_InvalidHour n_longest : Nat) : Ss :=
  (.cons (.tr (.cons (.ret (.call n_longest (.cons (.var 0) (.cons (.var 1) (.cons (.var 2) (.cons (.var 3) .nil))))))
  .nil) [(x_InvalidStreet, "InvalidStreet"), (x_InvalidKind, "InvalidKind"), (x_InvalidPlace, "InvalidPlace"), (x_InvalidHour, "InvalidHour")])
  .nil)
def b_law_05_L4 (n_is_allowed : Nat) : Ss :=
  (.cons (.ite (.cmp .ne (.call n_is_allowed (.cons (.var 4) (.cons (.var 8) (.cons (.var 5) (.cons (.var 9) (.cons (.var 11) .nil)))))) (.cmp .le (.var 11) (.var 10))) (.cons (.ret (.cB false))
  .nil) .nil)
  .nil)
def b_law_05_L3 (n__law_draw n_is_allowed n_longest n__law_run : Nat) : Ss :=
  (.cons (.par 8 9 (.cons (.call n__law_draw (.cons (.var 0) (.cons (.var 1) (.cons (.cI 3) .nil)))) (.cons (.call n__law_draw (.cons (.var 0) (.cons (.var 1) (.cons (.cI 168) .nil)))) .nil)))
  (.cons (.set 10 (.call n__law_run (.cons (.var 6) (.cons (.var 8) (.cons (.var 9) .nil)))))
  (.cons (.ite (.cmp .ne (.call n_longest (.cons (.var 4) (.cons (.var 8) (.cons (.var 5) (.cons (.var 9) .nil))))) (.var 10)) (.cons (.ret (.cB false))
  .nil) .nil)
  (.cons (.loop (.name 11) (.of (.lst (.cons (.cI 1) (.cons (.bi .max (.cons (.cI 1) (.cons (.var 10) .nil))) (.cons (.bi .min (.cons (.cI 168) (.cons (.bin .add (.var 10) (.cI 1)) .nil))) (.cons (.bin .add (.cI 1) (.call n__law_draw (.cons (.var 0) (.cons (.var 1) (.cons (.cI 168) .nil))))) .nil)))))) (b_law_05_L4 n_is_allowed))
  .nil))))
def b_law_05_L2 (n__law_draw n_is_allowed n_longest n__law_run n__law_week : Nat) : Ss :=
  (.cons (.set 6 (.call n__law_week (.cons (.var 4) (.cons (.var 5) .nil))))
  (.cons (.loop (.name 7) (.rng1 (.cI 7)) (b_law_05_L3 n__law_draw n_is_allowed n_longest n__law_run))
  .nil))
def b_law_05_L1 (n__law_refused n__law_draw n_is_allowed n_longest n__law_run n__law_week n__law_street : Nat) : Ss :=
  (.cons (.set 3 (.bin .add (.cI 1) (.call n__law_draw (.cons (.var 0) (.cons (.var 1) (.cons (.cI 2) .nil))))))
  (.cons (.set 4 (.call n__law_street (.cons (.var 0) (.cons (.var 1) (.cons (.var 3) (.cons (.cI 4) .nil))))))
  (.cons (.loop (.name 5) (.rng1 (.var 3)) (b_law_05_L2 n__law_draw n_is_allowed n_longest n__law_run n__law_week))
  (.cons (.ite (.not (.call n__law_refused (.cons (.var 4) (.cons (.var 3) .nil)))) (.cons (.ret (.cB false))
  .nil) .nil)
  .nil))))
def b_law_05 (n_is_allowed n_longest n__law_refused n__law_draw n__law_run n__law_week n__law_street : Nat) : Ss :=
  (.cons (.cell 1 .nil)
  (.cons (.loop (.name 2) (.rng1 (.cI 7)) (b_law_05_L1 n__law_refused n__law_draw n_is_allowed n_longest n__law_run n__law_week n__law_street))
  (.cons (.ret (.bop true (.cons (.cmp .eq (.call n_longest (.cons (.tup (.cons (.cI 1) (.cons (.tup .nil) .nil))) (.cons (.cI 0) (.cons (.cI 0) (.cons (.cI 5) .nil))))) (.cI 168)) (.cons (.call n_is_allowed (.cons (.tup (.cons (.cI 1) (.cons (.tup .nil) .nil))) (.cons (.cI 2) (.cons (.cI 0) (.cons (.cI 167) (.cons (.cI 168) .nil)))))) .nil))))
  .nil)))
def b_runs (n_run : Nat) : Ss :=
  (.cons (.ret (.comp [2] (.name 2) (.rng1 (.cI 168)) .none (.call n_run (.cons (.var 0) (.cons (.var 1) (.cons (.var 2) .nil))))))
  .nil)
def b_count_hours (n_week n_require_car : Nat) : Ss :=
  (.cons (.expr (.call n_require_car (.cons (.var 0) (.cons (.var 1) (.cons (.var 2) .nil)))))
  (.cons (.ret (.bi .len (.cons (.comp [3, 4] (.tup [3, 4]) (.of (.call n_week (.cons (.var 0) (.cons (.var 2) .nil)))) (.some (.cmp .inn (.var 1) (.var 3))) (.cI 1)) .nil)))
  .nil))
def b__law_best_hour_or (x_InvalidStreet x_InvalidKind x_InvalidPlace n_best_hour : Nat) : Ss :=
  (.cons (.tr (.cons (.ret (.call n_best_hour (.cons (.var 0) (.cons (.var 1) (.cons (.var 2) .nil)))))
  .nil) [(x_InvalidStreet, "InvalidStreet"), (x_InvalidKind, "InvalidKind"), (x_InvalidPlace, "InvalidPlace")])
  .nil)
def b__law_count_hours_or (x_InvalidStreet x_InvalidKind x_InvalidPlace n_count_hours : Nat) : Ss :=
  (.cons (.tr (.cons (.ret (.call n_count_hours (.cons (.var 0) (.cons (.var 1) (.cons (.var 2) .nil)))))
  .nil) [(x_InvalidStreet, "InvalidStreet"), (x_InvalidKind, "InvalidKind"), (x_InvalidPlace, "InvalidPlace")])
  .nil)
def b_law_06_L2 (n__law_count_hours_or n__law_best_hour_or : Nat) : Ss :=
  (.cons (.ite (.cmp .ne (.call n__law_best_hour_or (.cons (.var 3) (.cons (.cI 0) (.cons (.var 12) .nil)))) (.cS "InvalidPlace")) (.cons (.ret (.cB false))
  .nil) .nil)
  (.cons (.ite (.cmp .ne (.call n__law_count_hours_or (.cons (.var 3) (.cons (.cI 0) (.cons (.var 12) .nil)))) (.cS "InvalidPlace")) (.cons (.ret (.cB false))
  .nil) .nil)
  .nil))
def b_law_06_L3 (n__law_count_hours_or n__law_best_hour_or : Nat) : Ss :=
  (.cons (.ite (.cmp .ne (.call n__law_best_hour_or (.cons (.var 3) (.cons (.var 12) (.cons (.cI 9) .nil)))) (.cS "InvalidKind")) (.cons (.ret (.cB false))
  .nil) .nil)
  (.cons (.ite (.cmp .ne (.call n__law_count_hours_or (.cons (.var 3) (.cons (.var 12) (.cons (.cI 9) .nil)))) (.cS "InvalidKind")) (.cons (.ret (.cB false))
  .nil) .nil)
  .nil))
def b_law_06_L4 (n_count_hours n_best_hour n__law_run : Nat) : Ss :=
  (.cons (.set 7 (.comp [8] (.name 8) (.rng1 (.cI 168)) .none (.call n__law_run (.cons (.var 5) (.cons (.var 6) (.cons (.var 8) .nil))))))
  (.cons (.set 9 (.idx (.comp [8] (.name 8) (.rng1 (.cI 168)) (.some (.cmp .eq (.idx (.var 7) (.var 8)) (.bi .max (.cons (.var 7) .nil)))) (.var 8)) (.cI 0)))
  (.cons (.ite (.cmp .ne (.call n_best_hour (.cons (.var 3) (.cons (.var 6) (.cons (.var 4) .nil)))) (.var 9)) (.cons (.ret (.cB false))
  .nil) .nil)
  (.cons (.ite (.cmp .ne (.call n_count_hours (.cons (.var 3) (.cons (.var 6) (.cons (.var 4) .nil)))) (.bi .len (.cons (.comp [10, 11] (.tup [10, 11]) (.of (.var 5)) (.some (.cmp .inn (.var 6) (.var 10))) (.cI 1)) .nil))) (.cons (.ret (.cB false))
  .nil) .nil)
  .nil))))
def b_law_06_L1 (n__law_count_hours_or n__law_best_hour_or n_count_hours n_best_hour n__law_run n__law_week n__law_draw n__law_street : Nat) : Ss :=
  (.cons (.set 3 (.call n__law_street (.cons (.var 0) (.cons (.var 1) (.cons (.bin .add (.cI 1) (.call n__law_draw (.cons (.var 0) (.cons (.var 1) (.cons (.cI 2) .nil))))) (.cons (.cI 4) .nil))))))
  (.cons (.set 4 (.call n__law_draw (.cons (.var 0) (.cons (.var 1) (.cons (.idx (.var 3) (.cI 0)) .nil)))))
  (.cons (.set 5 (.call n__law_week (.cons (.var 3) (.cons (.var 4) .nil))))
  (.cons (.loop (.name 6) (.rng1 (.cI 3)) (b_law_06_L4 n_count_hours n_best_hour n__law_run))
  (.cons (.loop (.name 12) (.of (.lst (.cons (.neg (.cI 1)) (.cons (.cI 3) (.cons .cN (.cons (.cB true) .nil)))))) (b_law_06_L3 n__law_count_hours_or n__law_best_hour_or))
  (.cons (.loop (.name 12) (.of (.lst (.cons (.neg (.cI 1)) (.cons (.idx (.var 3) (.cI 0)) (.cons .cN (.cons (.cB true) .nil)))))) (b_law_06_L2 n__law_count_hours_or n__law_best_hour_or))
  (.cons (.ite (.cmp .ne (.call n__law_best_hour_or (.cons (.tup .nil) (.cons (.cI 9) (.cons (.cI 9) .nil)))) (.cS "InvalidStreet")) (.cons (.ret (.cB false))
  .nil) .nil)
  (.cons (.ite (.cmp .ne (.call n__law_count_hours_or (.cons (.cI 1) (.cons (.cI 9) (.cons (.cI 9) .nil)))) (.cS "InvalidStreet")) (.cons (.ret (.cB false))
  .nil) .nil)
  .nil))))))))
def b_law_06 (n__law_count_hours_or n__law_best_hour_or n_count_hours n_best_hour n__law_run n__law_week n__law_draw n__law_street : Nat) : Ss :=
  (.cons (.cell 1 .nil)
  (.cons (.loop (.name 2) (.rng1 (.cI 4)) (b_law_06_L1 n__law_count_hours_or n__law_best_hour_or n_count_hours n_best_hour n__law_run n__law_week n__law_draw n__law_street))
  (.cons (.ret (.cB true))
  .nil)))
def b__law_holds_07_L1 (n_may_stand n_limit : Nat) : Ss :=
  (.cons (.set 7 (.call n_limit (.cons (.var 0) (.cons (.var 2) (.cons (.bin .mod (.bin .add (.var 3) (.var 6)) (.cI 168)) .nil)))))
  (.cons (.ite (.bop false (.cons (.bop true (.cons (.notN (.var 7)) (.cons (.cmp .lt (.var 7) (.var 5)) .nil))) (.cons (.not (.call n_may_stand (.cons (.var 0) (.cons (.var 1) (.cons (.var 2) (.cons (.bin .mod (.bin .add (.var 3) (.var 6)) (.cI 168)) .nil)))))) .nil))) (.cons (.ret (.cB false))
  .nil) .nil)
  .nil))
def b__law_holds_07 (n_count_hours n_longest n_best_hour n_may_stand n_limit n_is_allowed : Nat) : Ss :=
  (.cons (.set 5 (.call n_longest (.cons (.var 0) (.cons (.var 1) (.cons (.var 2) (.cons (.var 3) .nil))))))
  (.cons (.ite (.cmp .ne (.call n_is_allowed (.cons (.var 0) (.cons (.var 1) (.cons (.var 2) (.cons (.var 3) (.cons (.var 4) .nil)))))) (.cmp .le (.var 4) (.var 5))) (.cons (.ret (.cB false))
  .nil) .nil)
  (.cons (.ite (.cmp .ne (.call n_is_allowed (.cons (.var 0) (.cons (.var 1) (.cons (.var 2) (.cons (.var 3) (.cons (.cI 1) .nil)))))) (.call n_may_stand (.cons (.var 0) (.cons (.var 1) (.cons (.var 2) (.cons (.var 3) .nil)))))) (.cons (.ret (.cB false))
  .nil) .nil)
  (.cons (.ite (.cmp .gt (.var 5) (.call n_longest (.cons (.var 0) (.cons (.var 1) (.cons (.var 2) (.cons (.call n_best_hour (.cons (.var 0) (.cons (.var 1) (.cons (.var 2) .nil)))) .nil)))))) (.cons (.ret (.cB false))
  .nil) .nil)
  (.cons (.ite (.bop true (.cons (.cmp .gt (.var 5) (.cI 1)) (.cons (.cmp .lt (.call n_longest (.cons (.var 0) (.cons (.var 1) (.cons (.var 2) (.cons (.bin .mod (.bin .add (.var 3) (.cI 1)) (.cI 168)) .nil))))) (.bin .sub (.var 5) (.cI 1))) .nil))) (.cons (.ret (.cB false))
  .nil) .nil)
  (.cons (.loop (.name 6) (.rng1 (.bi .min (.cons (.var 5) (.cons (.cI 6) .nil)))) (b__law_holds_07_L1 n_may_stand n_limit))
  (.cons (.set 8 (.call n_longest (.cons (.var 0) (.cons (.var 1) (.cons (.var 2) (.cons (.call n_best_hour (.cons (.var 0) (.cons (.var 1) (.cons (.var 2) .nil)))) .nil))))))
  (.cons (.ret (.cmp .eq (.cmp .eq (.call n_count_hours (.cons (.var 0) (.cons (.var 1) (.cons (.var 2) .nil)))) (.cI 0)) (.cmp .eq (.var 8) (.cI 0))))
  .nil))))))))
def b_law_07_L2 (n__law_holds n__law_draw : Nat) : Ss :=
  (.cons (.set 6 (.call n__law_draw (.cons (.var 0) (.cons (.var 1) (.cons (.cI 3) .nil)))))
  (.cons (.set 7 (.call n__law_draw (.cons (.var 0) (.cons (.var 1) (.cons (.var 3) .nil)))))
  (.cons (.set 8 (.call n__law_draw (.cons (.var 0) (.cons (.var 1) (.cons (.cI 168) .nil)))))
  (.cons (.ite (.not (.call n__law_holds (.cons (.var 4) (.cons (.var 6) (.cons (.var 7) (.cons (.var 8) (.cons (.bin .add (.cI 1) (.call n__law_draw (.cons (.var 0) (.cons (.var 1) (.cons (.cI 30) .nil))))) .nil))))))) (.cons (.ret (.cB false))
  .nil) .nil)
  .nil))))
def b_law_07_L1 (n_longest n__law_draw n__law_holds n__law_street : Nat) : Ss :=
  (.cons (.set 3 (.bin .add (.cI 1) (.call n__law_draw (.cons (.var 0) (.cons (.var 1) (.cons (.cI 3) .nil))))))
  (.cons (.set 4 (.call n__law_street (.cons (.var 0) (.cons (.var 1) (.cons (.var 3) (.cons (.cI 4) .nil))))))
  (.cons (.loop (.name 5) (.rng1 (.cI 3)) (b_law_07_L2 n__law_holds n__law_draw))
  (.cons (.set 9 (.tup (.cons (.var 3) (.cons (.bi .tuple (.cons (.comp [10] (.name 10) (.of (.idx (.var 4) (.cI 1))) .none (.bin .add (.cut (.var 10) .none (.some (.cI 6))) (.tup (.cons (.cS "free") (.cons (.cI 0) .nil))))) .nil)) .nil))))
  (.cons (.ite (.cmp .eq (.lenSet (.idx (.var 9) (.cI 1))) (.bi .len (.cons (.idx (.var 9) (.cI 1)) .nil))) (.cons (.ite (.cmp .ne (.call n_longest (.cons (.var 9) (.cons (.cI 1) (.cons (.cI 0) (.cons (.call n__law_draw (.cons (.var 0) (.cons (.var 1) (.cons (.cI 168) .nil)))) .nil))))) (.cI 168)) (.cons (.ret (.cB false))
  .nil) .nil)
  .nil) .nil)
  .nil)))))
def b_law_07 (n_longest n__law_draw n__law_holds n__law_street : Nat) : Ss :=
  (.cons (.cell 1 .nil)
  (.cons (.loop (.name 2) (.rng1 (.cI 6)) (b_law_07_L1 n_longest n__law_draw n__law_holds n__law_street))
  (.cons (.ret (.cB true))
  .nil)))
def b_weeks (n_week : Nat) : Ss :=
  (.cons (.ret (.comp [1] (.name 1) (.rng1 (.idx (.var 0) (.cI 0))) .none (.call n_week (.cons (.var 0) (.cons (.var 1) .nil)))))
  .nil)
def b_find_difference_L3 (n_run : Nat) : Ss :=
  (.cons (.ite (.cmp .ne (.call n_run (.cons (.idx (.var 2) (.var 5)) (.cons (.var 4) (.cons (.var 6) .nil)))) (.call n_run (.cons (.idx (.var 3) (.var 5)) (.cons (.var 4) (.cons (.var 6) .nil))))) (.cons (.ret (.tup (.cons (.var 4) (.cons (.var 5) (.cons (.var 6) .nil)))))
  .nil) .nil)
  .nil)
def b_find_difference_L2 (n_run : Nat) : Ss :=
  (.cons (.loop (.name 6) (.rng1 (.cI 168)) (b_find_difference_L3 n_run))
  .nil)
def b_find_difference_L1 (n_run : Nat) : Ss :=
  (.cons (.loop (.name 5) (.rng1 (.idx (.var 0) (.cI 0))) (b_find_difference_L2 n_run))
  .nil)
def b_find_difference (n_run n_weeks : Nat) : Ss :=
  (.cons (.par 2 3 (.cons (.call n_weeks (.cons (.var 0) .nil)) (.cons (.call n_weeks (.cons (.var 1) .nil)) .nil)))
  (.cons (.ite (.cmp .eq (.var 2) (.var 3)) (.cons (.ret .cN)
  .nil) .nil)
  (.cons (.loop (.name 4) (.rng1 (.cI 3)) (b_find_difference_L1 n_run))
  (.cons (.ret .cN)
  .nil))))
def b_difference (n_find_difference x_UnlikePlaces n_require_street : Nat) : Ss :=
  (.cons (.expr (.call n_require_street (.cons (.var 0) .nil)))
  (.cons (.expr (.call n_require_street (.cons (.var 1) .nil)))
  (.cons (.ite (.cmp .ne (.idx (.var 0) (.cI 0)) (.idx (.var 1) (.cI 0))) (.cons (.raise x_UnlikePlaces)
  .nil) .nil)
  (.cons (.ret (.call n_find_difference (.cons (.var 0) (.cons (.var 1) .nil))))
  .nil))))
def b_say_same (n_difference : Nat) : Ss :=
  (.cons (.ret (.isN (.call n_difference (.cons (.var 0) (.cons (.var 1) .nil)))))
  .nil)
def b__law_rows (n__law_week : Nat) : Ss :=
  (.cons (.ret (.comp [1] (.name 1) (.rng1 (.idx (.var 0) (.cI 0))) .none (.call n__law_week (.cons (.var 0) (.cons (.var 1) .nil)))))
  .nil)
def b__law_runs_L1 (n__law_run : Nat) : Ss :=
  (.cons (.app 1 (.comp [4] (.name 4) (.rng1 (.cI 3)) .none (.comp [3] (.name 3) (.rng1 (.cI 168)) .none (.call n__law_run (.cons (.var 2) (.cons (.var 4) (.cons (.var 3) .nil)))))))
  .nil)
def b__law_runs (n__law_rows n__law_run : Nat) : Ss :=
  (.cons (.own 1 .nil)
  (.cons (.loop (.name 2) (.of (.call n__law_rows (.cons (.var 0) .nil))) (b__law_runs_L1 n__law_run))
  (.frz 1 (.cons (.ret (.var 1))
  .nil))))
def b__law_first_L3 : Ss :=
  (.cons (.ite (.cmp .ne (.idx (.idx (.idx (.var 2) (.var 5)) (.var 4)) (.var 6)) (.idx (.idx (.idx (.var 3) (.var 5)) (.var 4)) (.var 6))) (.cons (.ret (.tup (.cons (.var 4) (.cons (.var 5) (.cons (.var 6) .nil)))))
  .nil) .nil)
  .nil)
def b__law_first_L2 : Ss :=
  (.cons (.loop (.name 6) (.rng1 (.cI 168)) b__law_first_L3)
  .nil)
def b__law_first_L1 : Ss :=
  (.cons (.loop (.name 5) (.rng1 (.idx (.var 0) (.cI 0))) b__law_first_L2)
  .nil)
def b__law_first (n__law_runs : Nat) : Ss :=
  (.cons (.par 2 3 (.cons (.call n__law_runs (.cons (.var 0) .nil)) (.cons (.call n__law_runs (.cons (.var 1) .nil)) .nil)))
  (.cons (.loop (.name 4) (.rng1 (.cI 3)) b__law_first_L1)
  (.cons (.ret .cN)
  .nil)))
def b__law_difference_or (x_InvalidStreet x_UnlikePlaces n_difference : Nat) : Ss :=
  (.cons (.tr (.cons (.ret (.call n_difference (.cons (.var 0) (.cons (.var 1) .nil))))
  .nil) [(x_InvalidStreet, "InvalidStreet"), (x_UnlikePlaces, "UnlikePlaces")])
  .nil)
def b__law_say_same_or (x_InvalidStreet x_UnlikePlaces n_say_same : Nat) : Ss :=
  (.cons (.tr (.cons (.ret (.call n_say_same (.cons (.var 0) (.cons (.var 1) .nil))))
  .nil) [(x_InvalidStreet, "InvalidStreet"), (x_UnlikePlaces, "UnlikePlaces")])
  .nil)
def b_without : Ss :=
  (.cons (.ret (.tup (.cons (.idx (.var 0) (.cI 0)) (.cons (.bin .add (.cut (.idx (.var 0) (.cI 1)) .none (.some (.var 1))) (.cut (.idx (.var 0) (.cI 1)) (.some (.bin .add (.var 1) (.cI 1))) .none)) .nil))))
  .nil)
def b_find_needless (n_find_difference n_without : Nat) : Ss :=
  (.cons (.ret (.comp [1] (.name 1) (.rng1 (.bi .len (.cons (.idx (.var 0) (.cI 1)) .nil))) (.some (.isN (.call n_find_difference (.cons (.var 0) (.cons (.call n_without (.cons (.var 0) (.cons (.var 1) .nil))) .nil))))) (.var 1)))
  .nil)
def b_needless (n_find_needless n_require_street : Nat) : Ss :=
  (.cons (.expr (.call n_require_street (.cons (.var 0) .nil)))
  (.cons (.ret (.call n_find_needless (.cons (.var 0) .nil)))
  .nil))
def b_reduced_L1 (n_find_needless n_without : Nat) : Ss :=
  (.cons (.set 0 (.call n_without (.cons (.var 0) (.cons (.idx (.var 1) (.cI 0)) .nil))))
  (.cons (.set 1 (.call n_find_needless (.cons (.var 0) .nil)))
  .nil))
def b_reduced (n_find_needless n_without n_require_street : Nat) : Ss :=
  (.cons (.expr (.call n_require_street (.cons (.var 0) .nil)))
  (.cons (.set 1 (.call n_find_needless (.cons (.var 0) .nil)))
  (.cons (.whl 1000000 (.var 1) (b_reduced_L1 n_find_needless n_without))
  (.cons (.ret (.var 0))
  .nil))))
def b__law_needless_L1 (n__law_runs : Nat) : Ss :=
  (.cons (.set 4 (.tup (.cons (.idx (.var 0) (.cI 0)) (.cons (.bin .add (.cut (.idx (.var 0) (.cI 1)) .none (.some (.var 3))) (.cut (.idx (.var 0) (.cI 1)) (.some (.bin .add (.var 3) (.cI 1))) .none)) .nil))))
  (.cons (.set 2 (.bin .add (.var 2) (.bin .mul (.lst (.cons (.var 3) .nil)) (.bi .int (.cons (.cmp .eq (.call n__law_runs (.cons (.var 4) .nil)) (.var 1)) .nil)))))
  .nil))
def b__law_needless (n__law_runs : Nat) : Ss :=
  (.cons (.par 1 2 (.cons (.call n__law_runs (.cons (.var 0) .nil)) (.cons (.lst .nil) .nil)))
  (.cons (.loop (.name 3) (.rng1 (.bi .len (.cons (.idx (.var 0) (.cI 1)) .nil))) (b__law_needless_L1 n__law_runs))
  (.cons (.ret (.var 2))
  .nil)))
def b__law_reduced_L1 (n__law_needless : Nat) : Ss :=
  (.cons (.set 2 (.idx (.var 1) (.cI 0)))
  (.cons (.set 0 (.tup (.cons (.idx (.var 0) (.cI 0)) (.cons (.bin .add (.cut (.idx (.var 0) (.cI 1)) .none (.some (.var 2))) (.cut (.idx (.var 0) (.cI 1)) (.some (.bin .add (.var 2) (.cI 1))) .none)) .nil))))
  (.cons (.set 1 (.call n__law_needless (.cons (.var 0) .nil)))
  .nil)))
def b__law_reduced (n__law_needless : Nat) : Ss :=
  (.cons (.set 1 (.call n__law_needless (.cons (.var 0) .nil)))
  (.cons (.whl 1000000 (.var 1) (b__law_reduced_L1 n__law_needless))
  (.cons (.ret (.var 0))
  .nil)))
def b__law_needless_or (x_InvalidStreet n_needless : Nat) : Ss :=
  (.cons (.tr (.cons (.ret (.call n_needless (.cons (.var 0) .nil)))
  .nil) [(x_InvalidStreet, "InvalidStreet")])
  .nil)
def b__law_reduced_or (x_InvalidStreet n_reduced : Nat) : Ss :=
  (.cons (.tr (.cons (.ret (.call n_reduced (.cons (.var 0) .nil)))
  .nil) [(x_InvalidStreet, "InvalidStreet")])
  .nil)
def b_law_09_L2 (n__law_reduced_or n__law_needless_or : Nat) : Ss :=
  (.cons (.ite (.bop false (.cons (.cmp .ne (.call n__law_needless_or (.cons (.var 6) .nil)) (.cS "InvalidStreet")) (.cons (.cmp .ne (.call n__law_reduced_or (.cons (.var 6) .nil)) (.cS "InvalidStreet")) .nil))) (.cons (.ret (.cB false))
  .nil) .nil)
  .nil)
def b_law_09_L1 (n__law_reduced_or n__law_needless_or n__law_same n__law_reduced n_reduced n_needless n__law_needless n__law_sign n__law_street : Nat) : Ss :=
  (.cons (.set 3 (.call n__law_street (.cons (.var 0) (.cons (.var 1) (.cons (.cI 1) (.cons (.cI 3) .nil))))))
  (.cons (.ite (.var 2) (.cons (.set 4 (.call n__law_sign (.cons (.var 0) (.cons (.var 1) (.cons (.cI 1) .nil)))))
  (.cons (.set 5 (.bin .add (.bin .add (.tup (.cons (.cI 3) .nil)) (.cut (.var 4) (.some (.cI 1)) (.some (.cI 6)))) (.tup (.cons (.cS "free") (.cons (.cI 0) .nil)))))
  (.cons (.set 3 (.tup (.cons (.cI 1) (.cons (.ite (.cmp .ne (.var 4) (.var 5)) (.tup (.cons (.var 4) (.cons (.var 5) .nil))) (.tup (.cons (.var 4) .nil))) .nil))))
  .nil))) .nil)
  (.cons (.ite (.cmp .ne (.call n_needless (.cons (.var 3) .nil)) (.call n__law_needless (.cons (.var 3) .nil))) (.cons (.ret (.cB false))
  .nil) .nil)
  (.cons (.ite (.not (.call n__law_same (.cons (.call n_reduced (.cons (.var 3) .nil)) (.cons (.call n__law_reduced (.cons (.var 3) .nil)) .nil)))) (.cons (.ret (.cB false))
  .nil) .nil)
  (.cons (.loop (.name 6) (.of (.lst (.cons (.tup (.cons (.cI 0) (.cons (.tup .nil) .nil))) (.cons .cN (.cons (.idx (.var 3) (.cI 1)) (.cons (.tup (.cons (.cI 1) (.cons (.bin .add (.idx (.var 3) (.cI 1)) (.tup (.cons (.cI 1) .nil))) .nil))) .nil)))))) (b_law_09_L2 n__law_reduced_or n__law_needless_or))
  .nil)))))
def b_law_09 (n__law_reduced_or n__law_needless_or n__law_same n__law_reduced n_reduced n_needless n__law_needless n__law_sign n__law_street : Nat) : Ss :=
  (.cons (.cell 1 .nil)
  (.cons (.loop (.name 2) (.rng1 (.cI 2)) (b_law_09_L1 n__law_reduced_or n__law_needless_or n__law_same n__law_reduced n_reduced n_needless n__law_needless n__law_sign n__law_street))
  (.cons (.ret (.cB true))
  .nil)))
def b__law_parts (n_longest n_say_same n_difference : Nat) : Ss :=
  (.cons (.set 2 (.call n_difference (.cons (.var 0) (.cons (.var 1) .nil))))
  (.cons (.ite (.bop false (.cons (.cmp .ne (.call n_difference (.cons (.var 1) (.cons (.var 0) .nil))) (.var 2)) (.cons (.cmp .ne (.call n_say_same (.cons (.var 0) (.cons (.var 1) .nil))) (.isN (.var 2))) .nil))) (.cons (.ret (.cB false))
  .nil) .nil)
  (.cons (.ite (.isN (.var 2)) (.cons (.ret (.cB true))
  .nil) .nil)
  (.cons (.ret (.cmp .ne (.call n_longest (.cons (.var 0) (.cons (.idx (.var 2) (.cI 0)) (.cons (.idx (.var 2) (.cI 1)) (.cons (.idx (.var 2) (.cI 2)) .nil))))) (.call n_longest (.cons (.var 1) (.cons (.idx (.var 2) (.cI 0)) (.cons (.idx (.var 2) (.cI 1)) (.cons (.idx (.var 2) (.cI 2)) .nil)))))))
  .nil))))
def b_law_10_L2 (n_say_same n__law_parts : Nat) : Ss :=
  (.cons (.set 9 (.tup (.cons (.var 3) (.cons (.bin .add (.cut (.idx (.var 4) (.cI 1)) .none (.some (.var 8))) (.cut (.idx (.var 4) (.cI 1)) (.some (.bin .add (.var 8) (.cI 1))) .none)) .nil))))
  (.cons (.ite (.bop false (.cons (.not (.call n__law_parts (.cons (.var 4) (.cons (.var 9) .nil)))) (.cons (.cmp .ne (.call n_say_same (.cons (.var 4) (.cons (.var 9) .nil))) (.cmp .inn (.var 8) (.var 6))) .nil))) (.cons (.ret (.cB false))
  .nil) .nil)
  .nil))
def b_law_10_L1 (n_say_same n__law_parts n_needless n_is_street n_reduced n__law_street n__law_draw : Nat) : Ss :=
  (.cons (.set 3 (.bin .add (.cI 1) (.call n__law_draw (.cons (.var 0) (.cons (.var 1) (.cons (.cI 2) .nil))))))
  (.cons (.set 4 (.call n__law_street (.cons (.var 0) (.cons (.var 1) (.cons (.var 3) (.cons (.cI 4) .nil))))))
  (.cons (.par 5 6 (.cons (.call n_reduced (.cons (.var 4) .nil)) (.cons (.call n_needless (.cons (.var 4) .nil)) .nil)))
  (.cons (.ite (.bop false (.cons (.not (.call n_is_street (.cons (.var 5) .nil))) (.cons (.not (.call n_say_same (.cons (.var 5) (.cons (.var 4) .nil)))) (.cons (.cmp .ne (.call n_needless (.cons (.var 5) .nil)) (.lst .nil)) .nil)))) (.cons (.ret (.cB false))
  .nil) .nil)
  (.cons (.ite (.bop false (.cons (.comp [7] (.name 7) (.of (.idx (.var 5) (.cI 1))) (.some (.cmp .nin (.var 7) (.idx (.var 4) (.cI 1)))) (.var 7)) (.cons (.cmp .ne (.cmp .eq (.var 6) (.lst .nil)) (.cmp .eq (.var 5) (.var 4))) .nil))) (.cons (.ret (.cB false))
  .nil) .nil)
  (.cons (.loop (.name 8) (.rng1 (.bi .len (.cons (.idx (.var 4) (.cI 1)) .nil))) (b_law_10_L2 n_say_same n__law_parts))
  (.cons (.set 10 (.tup (.cons (.cI 0) (.cons (.cI 0) (.cons (.var 3) (.cons (.tup (.cons (.cI 0) (.cons (.cI 1) (.cons (.cI 2) (.cons (.cI 3) (.cons (.cI 4) (.cons (.cI 5) (.cons (.cI 6) .nil)))))))) (.cons (.cI 0) (.cons (.cI 24) (.cons (.cS "free") (.cons (.cI 0) .nil))))))))))
  (.cons (.ite (.bop true (.cons (.cmp .nin (.var 10) (.idx (.var 4) (.cI 1))) (.cons (.not (.call n_say_same (.cons (.var 4) (.cons (.tup (.cons (.var 3) (.cons (.bin .add (.idx (.var 4) (.cI 1)) (.tup (.cons (.var 10) .nil))) .nil))) .nil)))) .nil))) (.cons (.ret (.cB false))
  .nil) .nil)
  .nil))))))))
def b_law_10 (n_say_same n__law_parts n_needless n_is_street n_reduced n__law_street n__law_draw : Nat) : Ss :=
  (.cons (.cell 1 .nil)
  (.cons (.loop (.name 2) (.rng1 (.cI 3)) (b_law_10_L1 n_say_same n__law_parts n_needless n_is_street n_reduced n__law_street n__law_draw))
  (.cons (.ret (.cB true))
  .nil)))
def b_clashes_at_L2 : Ss :=
  (.cons (.ite (.bop true (.cons (.cmp .lt (.var 5) (.var 6)) (.cons (.cmp .ne (.cmp .eq (.idx (.idx (.idx (.var 0) (.cI 1)) (.var 5)) (.cI 6)) (.cS "free")) (.cmp .eq (.idx (.idx (.idx (.var 0) (.cI 1)) (.var 6)) (.cI 6)) (.cS "free"))) .nil))) (.cons (.app 3 (.tup (.cons (.var 5) (.cons (.var 6) .nil))))
  .nil) .nil)
  .nil)
def b_clashes_at_L1 : Ss :=
  (.cons (.loop (.name 6) (.of (.var 4)) b_clashes_at_L2)
  .nil)
def b_clashes_at (n_find_counting : Nat) : Ss :=
  (.cons (.par 3 4 (.cons (.lst .nil) (.cons (.call n_find_counting (.cons (.var 0) (.cons (.var 1) (.cons (.var 2) .nil)))) .nil)))
  (.cons (.loop (.name 5) (.of (.var 4)) b_clashes_at_L1)
  (.frz 3 (.cons (.ret (.var 3))
  .nil))))
def b_first_clash_L2 (n_clashes_at : Nat) : Ss :=
  (.cons (.ite (.call n_clashes_at (.cons (.var 0) (.cons (.var 1) (.cons (.var 2) .nil)))) (.cons (.ret (.tup (.cons (.var 1) (.cons (.var 2) .nil))))
  .nil) .nil)
  .nil)
def b_first_clash_L1 (n_clashes_at : Nat) : Ss :=
  (.cons (.loop (.name 2) (.rng1 (.cI 168)) (b_first_clash_L2 n_clashes_at))
  .nil)
def b_first_clash (n_clashes_at n_require_street : Nat) : Ss :=
  (.cons (.expr (.call n_require_street (.cons (.var 0) .nil)))
  (.cons (.loop (.name 1) (.rng1 (.idx (.var 0) (.cI 0))) (b_first_clash_L1 n_clashes_at))
  (.cons (.ret .cN)
  .nil)))
def b_never_counting_L2 (n_find_counting : Nat) : Ss :=
  (.cons (.ext 1 (.call n_find_counting (.cons (.var 0) (.cons (.var 2) (.cons (.var 3) .nil)))))
  .nil)
def b_never_counting_L1 (n_find_counting : Nat) : Ss :=
  (.cons (.loop (.name 3) (.rng1 (.cI 168)) (b_never_counting_L2 n_find_counting))
  .nil)
def b_never_counting (n_find_counting n_require_street : Nat) : Ss :=
  (.cons (.expr (.call n_require_street (.cons (.var 0) .nil)))
  (.cons (.own 1 .nil)
  (.cons (.loop (.name 2) (.rng1 (.idx (.var 0) (.cI 0))) (b_never_counting_L1 n_find_counting))
  (.cons (.ret (.comp [4] (.name 4) (.rng1 (.bi .len (.cons (.idx (.var 0) (.cI 1)) .nil))) (.some (.cmp .nin (.var 4) (.var 1))) (.var 4)))
  .nil))))
def b__law_clashes_or (x_InvalidStreet n_clashes : Nat) : Ss :=
  (.cons (.tr (.cons (.ret (.call n_clashes (.cons (.var 0) .nil)))
  .nil) [(x_InvalidStreet, "InvalidStreet")])
  .nil)
def b__law_first_clash_or (x_InvalidStreet n_first_clash : Nat) : Ss :=
  (.cons (.tr (.cons (.ret (.call n_first_clash (.cons (.var 0) .nil)))
  .nil) [(x_InvalidStreet, "InvalidStreet")])
  .nil)
def b__law_never_counting_or (x_InvalidStreet n_never_counting : Nat) : Ss :=
  (.cons (.tr (.cons (.ret (.call n_never_counting (.cons (.var 0) .nil)))
  .nil) [(x_InvalidStreet, "InvalidStreet")])
  .nil)
def b__law_holds_12_L1 : Ss :=
  (.cons (.ite (.bop false (.cons (.cmp .ne (.idx (.idx (.idx (.var 0) (.cI 1)) (.var 3)) (.cI 0)) (.idx (.idx (.idx (.var 0) (.cI 1)) (.var 4)) (.cI 0))) (.cons (.not (.cmp .lt (.var 3) (.var 4))) .nil))) (.cons (.ret (.cB false))
  .nil) .nil)
  (.cons (.ite (.cmp .eq (.cmp .eq (.idx (.idx (.idx (.var 0) (.cI 1)) (.var 3)) (.cI 6)) (.cS "free")) (.cmp .eq (.idx (.idx (.idx (.var 0) (.cI 1)) (.var 4)) (.cI 6)) (.cS "free"))) (.cons (.ret (.cB false))
  .nil) .nil)
  .nil))
def b__law_holds_12 (n_never_counting n_needless n_counting n_first_clash n_clashes : Nat) : Ss :=
  (.cons (.par 1 2 (.cons (.call n_clashes (.cons (.var 0) .nil)) (.cons (.call n_first_clash (.cons (.var 0) .nil)) .nil)))
  (.cons (.ite (.cmp .ne (.cmp .eq (.var 1) (.lst .nil)) (.isN (.var 2))) (.cons (.ret (.cB false))
  .nil) .nil)
  (.cons (.loop (.tup [3, 4]) (.of (.var 1)) b__law_holds_12_L1)
  (.cons (.ite (.notN (.var 2)) (.cons (.set 5 (.call n_counting (.cons (.var 0) (.cons (.idx (.var 2) (.cI 0)) (.cons (.idx (.var 2) (.cI 1)) .nil)))))
  (.cons (.ite (.cmp .eq (.comp [6] (.name 6) (.of (.var 1)) (.some (.bop true (.cons (.cmp .inn (.idx (.var 6) (.cI 0)) (.var 5)) (.cons (.cmp .inn (.idx (.var 6) (.cI 1)) (.var 5)) .nil)))) (.var 6)) (.lst .nil)) (.cons (.ret (.cB false))
  .nil) .nil)
  .nil)) .nil)
  (.cons (.set 7 (.call n_needless (.cons (.var 0) .nil)))
  (.cons (.ret (.cmp .eq (.comp [8] (.name 8) (.of (.call n_never_counting (.cons (.var 0) .nil))) (.some (.cmp .nin (.var 8) (.var 7))) (.var 8)) (.lst .nil)))
  .nil))))))
def b_law_12_L1 (n_say_same n_never_counting n_clashes n__law_holds n__law_sign n__law_street n__law_draw : Nat) : Ss :=
  (.cons (.set 3 (.bin .add (.cI 1) (.call n__law_draw (.cons (.var 0) (.cons (.var 1) (.cons (.cI 2) .nil))))))
  (.cons (.set 4 (.call n__law_street (.cons (.var 0) (.cons (.var 1) (.cons (.var 3) (.cons (.cI 3) .nil))))))
  (.cons (.ite (.not (.call n__law_holds (.cons (.var 4) .nil))) (.cons (.ret (.cB false))
  .nil) .nil)
  (.cons (.set 5 (.call n__law_sign (.cons (.var 0) (.cons (.var 1) (.cons (.var 3) .nil)))))
  (.cons (.set 6 (.bin .add (.cut (.var 5) .none (.some (.cI 6))) (.tup (.cons (.cS "free") (.cons (.cI 0) .nil)))))
  (.cons (.ite (.cmp .ne (.var 5) (.var 6)) (.cons (.set 7 (.tup (.cons (.var 3) (.cons (.tup (.cons (.var 5) (.cons (.var 6) .nil))) .nil))))
  (.cons (.ite (.bop false (.cons (.not (.call n__law_holds (.cons (.var 7) .nil))) (.cons (.cmp .ne (.call n_clashes (.cons (.var 7) .nil)) (.lst (.cons (.tup (.cons (.cI 0) (.cons (.cI 1) .nil))) .nil))) .nil))) (.cons (.ret (.cB false))
  .nil) .nil)
  (.cons (.ite (.not (.call n_say_same (.cons (.var 7) (.cons (.tup (.cons (.var 3) (.cons (.tup (.cons (.var 5) .nil)) .nil))) .nil)))) (.cons (.ret (.cB false))
  .nil) .nil)
  (.cons (.set 8 (.ite (.cmp .lt (.idx (.var 5) (.cI 0)) (.cI 3)) (.tup (.cons (.var 3) (.cons (.tup (.cons (.var 5) (.cons (.bin .add (.tup (.cons (.cI 3) .nil)) (.cut (.var 6) (.some (.cI 1)) .none)) .nil))) .nil))) (.tup (.cons (.var 3) (.cons (.tup .nil) .nil)))))
  (.cons (.ite (.bop false (.cons (.cmp .ne (.call n_never_counting (.cons (.var 8) .nil)) (.cut (.lst (.cons (.cI 0) .nil)) .none (.some (.bi .len (.cons (.idx (.var 8) (.cI 1)) .nil))))) (.cons (.not (.call n_say_same (.cons (.var 8) (.cons (.tup (.cons (.var 3) (.cons (.tup .nil) .nil))) .nil)))) .nil))) (.cons (.ret (.cB false))
  .nil) .nil)
  .nil))))) .nil)
  .nil))))))
def b_law_12 (n_say_same n_never_counting n_clashes n__law_holds n__law_sign n__law_street n__law_draw : Nat) : Ss :=
  (.cons (.cell 1 .nil)
  (.cons (.loop (.name 2) (.rng1 (.cI 3)) (b_law_12_L1 n_say_same n_never_counting n_clashes n__law_holds n__law_sign n__law_street n__law_draw))
  (.cons (.ret (.cB true))
  .nil)))
def b_require_search (n_require_hour n_require_kind n_require_street : Nat) : Ss :=
  (.cons (.expr (.call n_require_street (.cons (.var 0) .nil)))
  (.cons (.expr (.call n_require_kind (.cons (.var 1) .nil)))
  (.cons (.expr (.call n_require_hour (.cons (.var 2) .nil)))
  .nil)))
def b_first_place (n_weeks n_run n_require_hours n_require_search : Nat) : Ss :=
  (.cons (.expr (.call n_require_search (.cons (.var 0) (.cons (.var 1) (.cons (.var 2) .nil)))))
  (.cons (.expr (.call n_require_hours (.cons (.var 3) .nil)))
  (.cons (.set 4 (.comp [5, 6] (.tup [5, 6]) (.enum (.call n_weeks (.cons (.var 0) .nil))) (.some (.cmp .ge (.call n_run (.cons (.var 6) (.cons (.var 1) (.cons (.var 2) .nil)))) (.var 3))) (.var 5)))
  (.cons (.ret (.ite (.var 4) (.idx (.var 4) (.cI 0)) .cN))
  .nil))))
def b_soonest_L2 : Ss :=
  (.cons (.ite (.cmp .ge (.idx (.var 8) (.bin .mod (.bin .add (.var 2) (.var 6)) (.cI 168))) (.var 3)) (.cons (.ret (.tup (.cons (.var 6) (.cons (.var 7) .nil))))
  .nil) .nil)
  .nil)
def b_soonest_L1 : Ss :=
  (.cons (.loop (.tup [7, 8]) (.enum (.var 4)) b_soonest_L2)
  .nil)
def b_soonest (n_weeks n_runs n_require_hours n_require_search : Nat) : Ss :=
  (.cons (.expr (.call n_require_search (.cons (.var 0) (.cons (.var 1) (.cons (.var 2) .nil)))))
  (.cons (.expr (.call n_require_hours (.cons (.var 3) .nil)))
  (.cons (.set 4 (.comp [5] (.name 5) (.of (.call n_weeks (.cons (.var 0) .nil))) .none (.call n_runs (.cons (.var 5) (.cons (.var 1) .nil)))))
  (.cons (.loop (.name 6) (.rng1 (.cI 168)) b_soonest_L1)
  (.cons (.ret .cN)
  .nil)))))
def b__law_soonest_L1 (n__law_run : Nat) : Ss :=
  (.cons (.set 5 (.comp [6] (.name 6) (.rng1 (.bi .len (.cons (.var 0) .nil))) (.some (.cmp .ge (.call n__law_run (.cons (.idx (.var 0) (.var 6)) (.cons (.var 1) (.cons (.bin .mod (.bin .add (.var 2) (.var 4)) (.cI 168)) .nil)))) (.var 3))) (.var 6)))
  (.cons (.ite (.var 5) (.cons (.ret (.tup (.cons (.var 4) (.cons (.idx (.var 5) (.cI 0)) .nil))))
  .nil) .nil)
  .nil))
def b__law_soonest (n__law_run : Nat) : Ss :=
  (.cons (.loop (.name 4) (.rng1 (.cI 168)) (b__law_soonest_L1 n__law_run))
  (.cons (.ret .cN)
  .nil))
def b__law_refused_13_L1 (n__law_soonest_or n__law_first_place_or : Nat) : Ss :=
  (.cons (.ite (.cmp .ne (.call n__law_first_place_or (.cons (.var 0) (.cons (.cI 0) (.cons (.cI 0) (.cons (.var 1) .nil))))) (.cS "InvalidHours")) (.cons (.ret (.cB false))
  .nil) .nil)
  (.cons (.ite (.cmp .ne (.call n__law_soonest_or (.cons (.var 0) (.cons (.cI 0) (.cons (.cI 0) (.cons (.var 1) .nil))))) (.cS "InvalidHours")) (.cons (.ret (.cB false))
  .nil) .nil)
  .nil))
def b__law_refused_13_L2 (n__law_best_place_or n__law_soonest_or n__law_first_place_or : Nat) : Ss :=
  (.cons (.ite (.cmp .ne (.call n__law_first_place_or (.cons (.var 0) (.cons (.cI 0) (.cons (.var 1) (.cons (.cI 0) .nil))))) (.cS "InvalidHour")) (.cons (.ret (.cB false))
  .nil) .nil)
  (.cons (.ite (.cmp .ne (.call n__law_soonest_or (.cons (.var 0) (.cons (.cI 0) (.cons (.var 1) (.cons (.cI 0) .nil))))) (.cS "InvalidHour")) (.cons (.ret (.cB false))
  .nil) .nil)
  (.cons (.ite (.cmp .ne (.call n__law_best_place_or (.cons (.var 0) (.cons (.cI 0) (.cons (.var 1) .nil)))) (.cS "InvalidHour")) (.cons (.ret (.cB false))
  .nil) .nil)
  .nil)))
def b__law_refused_13_L3 (n__law_best_place_or n__law_soonest_or n__law_first_place_or : Nat) : Ss :=
  (.cons (.ite (.cmp .ne (.call n__law_first_place_or (.cons (.var 0) (.cons (.var 1) (.cons (.cI 999) (.cons (.cI 0) .nil))))) (.cS "InvalidKind")) (.cons (.ret (.cB false))
  .nil) .nil)
  (.cons (.ite (.cmp .ne (.call n__law_soonest_or (.cons (.var 0) (.cons (.var 1) (.cons (.cI 999) (.cons (.cI 0) .nil))))) (.cS "InvalidKind")) (.cons (.ret (.cB false))
  .nil) .nil)
  (.cons (.ite (.cmp .ne (.call n__law_best_place_or (.cons (.var 0) (.cons (.var 1) (.cons (.cI 999) .nil)))) (.cS "InvalidKind")) (.cons (.ret (.cB false))
  .nil) .nil)
  .nil)))
def b__law_refused_13 (n__law_best_place_or n__law_soonest_or n__law_first_place_or : Nat) : Ss :=
  (.cons (.loop (.name 1) (.of (.lst (.cons (.neg (.cI 1)) (.cons (.cI 3) (.cons .cN (.cons (.cB true) .nil)))))) (b__law_refused_13_L3 n__law_best_place_or n__law_soonest_or n__law_first_place_or))
  (.cons (.loop (.name 1) (.of (.lst (.cons (.neg (.cI 1)) (.cons (.cI 168) (.cons .cN (.cons (.cB true) .nil)))))) (b__law_refused_13_L2 n__law_best_place_or n__law_soonest_or n__law_first_place_or))
  (.cons (.loop (.name 1) (.of (.lst (.cons (.cI 0) (.cons (.cI 169) (.cons .cN (.cons (.cB true) .nil)))))) (b__law_refused_13_L1 n__law_soonest_or n__law_first_place_or))
  (.cons (.ite (.cmp .ne (.call n__law_first_place_or (.cons (.tup .nil) (.cons (.cI 9) (.cons (.cI 999) (.cons (.cI 0) .nil))))) (.cS "InvalidStreet")) (.cons (.ret (.cB false))
  .nil) .nil)
  (.cons (.ite (.cmp .ne (.call n__law_soonest_or (.cons (.cI 1) (.cons (.cI 9) (.cons (.cI 999) (.cons (.cI 0) .nil))))) (.cS "InvalidStreet")) (.cons (.ret (.cB false))
  .nil) .nil)
  (.cons (.ret (.cmp .eq (.call n__law_best_place_or (.cons (.tup (.cons (.cI 0) (.cons (.tup .nil) .nil))) (.cons (.cI 9) (.cons (.cI 999) .nil)))) (.cS "InvalidStreet")))
  .nil))))))
def b__law_first_place_or (x_InvalidStreet x_InvalidKind x_InvalidHour x_InvalidHours n_first_place : Nat) : Ss :=
  (.cons (.tr (.cons (.ret (.call n_first_place (.cons (.var 0) (.cons (.var 1) (.cons (.var 2) (.cons (.var 3) .nil))))))
  .nil) [(x_InvalidStreet, "InvalidStreet"), (x_InvalidKind, "InvalidKind"), (x_InvalidHour, "InvalidHour"), (x_InvalidHours, "InvalidHours")])
  .nil)
def b__law_soonest_or (x_InvalidStreet x_InvalidKind x_InvalidHour x_InvalidHours n_soonest : Nat) : Ss :=
  (.cons (.tr (.cons (.ret (.call n_soonest (.cons (.var 0) (.cons (.var 1) (.cons (.var 2) (.cons (.var 3) .nil))))))
  .nil) [(x_InvalidStreet, "InvalidStreet"), (x_InvalidKind, "InvalidKind"), (x_InvalidHour, "InvalidHour"), (x_InvalidHours, "InvalidHours")])
  .nil)
def b__law_best_place_or (x_InvalidStreet x_InvalidKind x_InvalidHour n_best_place : Nat) : Ss :=
  (.cons (.tr (.cons (.ret (.call n_best_place (.cons (.var 0) (.cons (.var 1) (.cons (.var 2) .nil)))))
  .nil) [(x_InvalidStreet, "InvalidStreet"), (x_InvalidKind, "InvalidKind"), (x_InvalidHour, "InvalidHour")])
  .nil)
def b_law_13_L2 (n__law_same n__law_soonest n_soonest n_best_place n_first_place n__law_run n__law_draw n__law_pick : Nat) : Ss :=
  (.cons (.par 6 7 (.cons (.call n__law_draw (.cons (.var 0) (.cons (.var 1) (.cons (.cI 3) .nil)))) (.cons (.call n__law_draw (.cons (.var 0) (.cons (.var 1) (.cons (.cI 168) .nil)))) .nil)))
  (.cons (.set 8 (.bin .add (.cI 1) (.call n__law_draw (.cons (.var 0) (.cons (.var 1) (.cons (.call n__law_pick (.cons (.var 0) (.cons (.var 1) (.cons (.lst (.cons (.cI 4) (.cons (.cI 30) (.cons (.cI 168) .nil)))) .nil)))) .nil))))))
  (.cons (.set 9 (.comp [10] (.name 10) (.of (.var 4)) .none (.call n__law_run (.cons (.var 10) (.cons (.var 6) (.cons (.var 7) .nil))))))
  (.cons (.set 11 (.comp [12] (.name 12) (.rng1 (.bi .len (.cons (.var 9) .nil))) (.some (.cmp .ge (.idx (.var 9) (.var 12)) (.var 8))) (.var 12)))
  (.cons (.ite (.not (.call n__law_same (.cons (.call n_first_place (.cons (.var 3) (.cons (.var 6) (.cons (.var 7) (.cons (.var 8) .nil))))) (.cons (.ite (.var 11) (.idx (.var 11) (.cI 0)) .cN) .nil)))) (.cons (.ret (.cB false))
  .nil) .nil)
  (.cons (.ite (.cmp .ne (.call n_best_place (.cons (.var 3) (.cons (.var 6) (.cons (.var 7) .nil)))) (.idx (.comp [12] (.name 12) (.rng1 (.bi .len (.cons (.var 9) .nil))) (.some (.cmp .eq (.idx (.var 9) (.var 12)) (.bi .max (.cons (.var 9) .nil)))) (.var 12)) (.cI 0))) (.cons (.ret (.cB false))
  .nil) .nil)
  (.cons (.ite (.not (.call n__law_same (.cons (.call n_soonest (.cons (.var 3) (.cons (.var 6) (.cons (.var 7) (.cons (.var 8) .nil))))) (.cons (.call n__law_soonest (.cons (.var 4) (.cons (.var 6) (.cons (.var 7) (.cons (.var 8) .nil))))) .nil)))) (.cons (.ret (.cB false))
  .nil) .nil)
  .nil)))))))
def b_law_13_L1 (n__law_refused n__law_same n__law_soonest n_soonest n_best_place n_first_place n__law_run n__law_draw n__law_pick n__law_rows n__law_street : Nat) : Ss :=
  (.cons (.set 3 (.call n__law_street (.cons (.var 0) (.cons (.var 1) (.cons (.bin .add (.cI 1) (.call n__law_draw (.cons (.var 0) (.cons (.var 1) (.cons (.cI 3) .nil))))) (.cons (.cI 4) .nil))))))
  (.cons (.set 4 (.call n__law_rows (.cons (.var 3) .nil)))
  (.cons (.loop (.name 5) (.rng1 (.cI 4)) (b_law_13_L2 n__law_same n__law_soonest n_soonest n_best_place n_first_place n__law_run n__law_draw n__law_pick))
  (.cons (.ite (.not (.call n__law_refused (.cons (.var 3) .nil))) (.cons (.ret (.cB false))
  .nil) .nil)
  .nil))))
def b_law_13 (n_soonest n_first_place n__law_refused n__law_same n__law_soonest n_best_place n__law_run n__law_draw n__law_pick n__law_rows n__law_street : Nat) : Ss :=
  (.cons (.cell 1 .nil)
  (.cons (.loop (.name 2) (.rng1 (.cI 5)) (b_law_13_L1 n__law_refused n__law_same n__law_soonest n_soonest n_best_place n_first_place n__law_run n__law_draw n__law_pick n__law_rows n__law_street))
  (.cons (.set 13 (.tup (.cons (.cI 1) (.cons (.tup (.cons (.tup (.cons (.cI 0) (.cons (.cI 0) (.cons (.cI 1) (.cons (.tup (.cons (.cI 0) (.cons (.cI 1) (.cons (.cI 2) (.cons (.cI 3) (.cons (.cI 4) (.cons (.cI 5) (.cons (.cI 6) .nil)))))))) (.cons (.cI 0) (.cons (.cI 24) (.cons (.cS "only") (.cons (.cI 1) .nil))))))))) .nil)) .nil))))
  (.cons (.ret (.bop true (.cons (.isN (.call n_soonest (.cons (.var 13) (.cons (.cI 0) (.cons (.cI 7) (.cons (.cI 1) .nil)))))) (.cons (.isN (.call n_first_place (.cons (.var 13) (.cons (.cI 0) (.cons (.cI 7) (.cons (.cI 1) .nil)))))) (.cons (.cmp .eq (.call n_soonest (.cons (.var 13) (.cons (.cI 1) (.cons (.cI 7) (.cons (.cI 168) .nil))))) (.tup (.cons (.cI 0) (.cons (.cI 0) .nil)))) .nil)))))
  .nil))))
def b__law_holds_14_L1 (n_first_place : Nat) : Ss :=
  (.cons (.ite (.notN (.call n_first_place (.cons (.var 0) (.cons (.var 1) (.cons (.bin .mod (.bin .sub (.bin .add (.var 2) (.var 10)) (.var 11)) (.cI 168)) (.cons (.var 3) .nil)))))) (.cons (.ret (.cB false))
  .nil) .nil)
  .nil)
def b__law_holds_14 (n_first_place n_soonest n_is_allowed n_longest n_best_place : Nat) : Ss :=
  (.cons (.set 4 (.call n_soonest (.cons (.var 0) (.cons (.var 1) (.cons (.var 2) (.cons (.var 3) .nil))))))
  (.cons (.set 5 (.call n_first_place (.cons (.var 0) (.cons (.var 1) (.cons (.var 2) (.cons (.var 3) .nil))))))
  (.cons (.set 6 (.call n_best_place (.cons (.var 0) (.cons (.var 1) (.cons (.var 2) .nil)))))
  (.cons (.set 7 (.comp [8] (.name 8) (.rng1 (.idx (.var 0) (.cI 0))) (.some (.call n_is_allowed (.cons (.var 0) (.cons (.var 1) (.cons (.var 8) (.cons (.var 2) (.cons (.var 3) .nil))))))) (.var 8)))
  (.cons (.ite (.cmp .ne (.var 5) (.ite (.var 7) (.idx (.var 7) (.cI 0)) .cN)) (.cons (.ret (.cB false))
  .nil) .nil)
  (.cons (.set 9 (.call n_longest (.cons (.var 0) (.cons (.var 1) (.cons (.var 6) (.cons (.var 2) .nil))))))
  (.cons (.ite (.comp [8] (.name 8) (.rng1 (.idx (.var 0) (.cI 0))) (.some (.cmp .gt (.call n_longest (.cons (.var 0) (.cons (.var 1) (.cons (.var 8) (.cons (.var 2) .nil))))) (.var 9))) (.var 8)) (.cons (.ret (.cB false))
  .nil) .nil)
  (.cons (.ite (.cmp .ne (.cmp .ge (.var 9) (.var 3)) (.cmp .ne (.var 7) (.lst .nil))) (.cons (.ret (.cB false))
  .nil) .nil)
  (.cons (.ite (.isN (.var 4)) (.cons (.ret (.isN (.var 5)))
  .nil) .nil)
  (.cons (.unp (.tup [10, 8]) (.var 4))
  (.cons (.ite (.not (.call n_is_allowed (.cons (.var 0) (.cons (.var 1) (.cons (.var 8) (.cons (.bin .mod (.bin .add (.var 2) (.var 10)) (.cI 168)) (.cons (.var 3) .nil))))))) (.cons (.ret (.cB false))
  .nil) .nil)
  (.cons (.ite (.cmp .ne (.cmp .eq (.var 10) (.cI 0)) (.bop true (.cons (.cmp .eq (.var 5) (.var 8)) (.cons (.cmp .ne (.var 7) (.lst .nil)) .nil)))) (.cons (.ret (.cB false))
  .nil) .nil)
  (.cons (.loop (.name 11) (.rng2 (.cI 1) (.bin .add (.bi .min (.cons (.var 10) (.cons (.cI 4) .nil))) (.cI 1))) (b__law_holds_14_L1 n_first_place))
  (.cons (.ite (.bop true (.cons (.cmp .gt (.var 3) (.cI 1)) (.cons (.cmp .gt (.call n_soonest (.cons (.var 0) (.cons (.var 1) (.cons (.var 2) (.cons (.bin .sub (.var 3) (.cI 1)) .nil))))) (.tup (.cons (.var 10) (.cons (.var 8) .nil)))) .nil))) (.cons (.ret (.cB false))
  .nil) .nil)
  (.cons (.ret (.cmp .eq (.call n_first_place (.cons (.var 0) (.cons (.var 1) (.cons (.bin .mod (.bin .add (.var 2) (.var 10)) (.cI 168)) (.cons (.var 3) .nil))))) (.var 8)))
  .nil)))))))))))))))
def b_law_14_L2 (n__law_holds n__law_draw n__law_pick : Nat) : Ss :=
  (.cons (.par 5 6 (.cons (.call n__law_draw (.cons (.var 0) (.cons (.var 1) (.cons (.cI 3) .nil)))) (.cons (.call n__law_draw (.cons (.var 0) (.cons (.var 1) (.cons (.cI 168) .nil)))) .nil)))
  (.cons (.set 7 (.bin .add (.cI 1) (.call n__law_draw (.cons (.var 0) (.cons (.var 1) (.cons (.call n__law_pick (.cons (.var 0) (.cons (.var 1) (.cons (.lst (.cons (.cI 4) (.cons (.cI 30) .nil))) .nil)))) .nil))))))
  (.cons (.ite (.not (.call n__law_holds (.cons (.var 3) (.cons (.var 5) (.cons (.var 6) (.cons (.var 7) .nil)))))) (.cons (.ret (.cB false))
  .nil) .nil)
  .nil)))
def b_law_14_L1 (n__law_holds n__law_draw n__law_pick n__law_street : Nat) : Ss :=
  (.cons (.set 3 (.call n__law_street (.cons (.var 0) (.cons (.var 1) (.cons (.bin .add (.cI 1) (.call n__law_draw (.cons (.var 0) (.cons (.var 1) (.cons (.cI 3) .nil))))) (.cons (.cI 4) .nil))))))
  (.cons (.loop (.name 4) (.rng1 (.cI 2)) (b_law_14_L2 n__law_holds n__law_draw n__law_pick))
  .nil))
def b_law_14 (n__law_holds n__law_draw n__law_pick n__law_street : Nat) : Ss :=
  (.cons (.cell 1 .nil)
  (.cons (.loop (.name 2) (.rng1 (.cI 5)) (b_law_14_L1 n__law_holds n__law_draw n__law_pick n__law_street))
  (.cons (.ret (.cB true))
  .nil)))
def b_firsts_L2 : Ss :=
  (.cons (.ite (.bop true (.cons (.cmp .ne (.var 6) (.var 4)) (.cons (.notN (.idx (.idx (.var 3) (.var 8)) (.var 6))) .nil))) (.cons (.app 5 (.tup (.cons (.bin .add (.cI 1) (.idx (.idx (.var 3) (.var 8)) (.var 6))) (.cons (.var 6) (.cons (.var 8) .nil)))))
  .nil) .nil)
  .nil)
def b_firsts_L1 : Ss :=
  (.cons (.loop (.name 8) (.rng2 (.cI 1) (.bin .add (.bi .min (.cons (.idx (.var 7) (.bin .mod (.var 1) (.cI 168))) (.cons (.var 2) .nil))) (.cI 1))) b_firsts_L2)
  .nil)
def b_firsts : Ss :=
  (.cons (.own 5 .nil)
  (.cons (.loop (.tup [6, 7]) (.enum (.var 0)) b_firsts_L1)
  (.frz 5 (.cons (.ret (.var 5))
  .nil))))
def b_require_plan (n_require_hours n_require_search : Nat) : Ss :=
  (.cons (.expr (.call n_require_search (.cons (.var 0) (.cons (.var 1) (.cons (.var 2) .nil)))))
  (.cons (.expr (.call n_require_hours (.cons (.var 3) .nil)))
  .nil))
def b_fewest_stays (n_find_plan n_require_plan : Nat) : Ss :=
  (.cons (.expr (.call n_require_plan (.cons (.var 0) (.cons (.var 1) (.cons (.var 2) (.cons (.var 3) .nil))))))
  (.cons (.set 4 (.call n_find_plan (.cons (.var 0) (.cons (.var 1) (.cons (.var 2) (.cons (.var 3) .nil))))))
  (.cons (.ret (.ite (.isN (.var 4)) .cN (.bi .len (.cons (.var 4) .nil))))
  .nil)))
def b_best_plan (n_find_plan n_require_plan : Nat) : Ss :=
  (.cons (.expr (.call n_require_plan (.cons (.var 0) (.cons (.var 1) (.cons (.var 2) (.cons (.var 3) .nil))))))
  (.cons (.ret (.call n_find_plan (.cons (.var 0) (.cons (.var 1) (.cons (.var 2) (.cons (.var 3) .nil))))))
  .nil))
def b__law_busy_L1 (n__law_sign : Nat) : Ss :=
  (.cons (.set 6 (.call n__law_sign (.cons (.var 0) (.cons (.var 1) (.cons (.var 2) .nil)))))
  (.cons (.set 3 (.bin .add (.var 3) (.bin .mul (.lst (.cons (.var 6) .nil)) (.bi .int (.cons (.cmp .nin (.var 6) (.var 3)) .nil)))))
  .nil))
def b__law_busy_L2 (n__law_draw : Nat) : Ss :=
  (.cons (.app 3 (.tup (.cons (.cI 0) (.cons (.var 4) (.cons (.bin .add (.var 4) (.cI 1)) (.cons (.tup (.cons (.cI 0) (.cons (.cI 1) (.cons (.cI 2) (.cons (.cI 3) (.cons (.cI 4) (.cons (.cI 5) (.cons (.cI 6) .nil)))))))) (.cons (.cI 0) (.cons (.cI 24) (.cons (.cS "limit") (.cons (.bin .add (.cI 1) (.call n__law_draw (.cons (.var 0) (.cons (.var 1) (.cons (.cI 4) .nil))))) .nil))))))))))
  .nil)
def b__law_busy (n__law_draw n__law_sign : Nat) : Ss :=
  (.cons (.own 3 .nil)
  (.cons (.loop (.name 4) (.rng1 (.var 2)) (b__law_busy_L2 n__law_draw))
  (.cons (.loop (.name 5) (.rng1 (.call n__law_draw (.cons (.var 0) (.cons (.var 1) (.cons (.cI 3) .nil))))) (b__law_busy_L1 n__law_sign))
  (.cons (.ret (.tup (.cons (.var 2) (.cons (.bi .tuple (.cons (.var 3) .nil)) .nil))))
  .nil))))
def b__law_refused_15_L1 (n__law_best_plan_or n__law_fewest_stays_or : Nat) : Ss :=
  (.cons (.ite (.cmp .ne (.call n__law_fewest_stays_or (.cons (.var 0) (.cons (.cI 0) (.cons (.cI 0) (.cons (.var 1) .nil))))) (.cS "InvalidHours")) (.cons (.ret (.cB false))
  .nil) .nil)
  (.cons (.ite (.cmp .ne (.call n__law_best_plan_or (.cons (.var 0) (.cons (.cI 0) (.cons (.cI 0) (.cons (.var 1) .nil))))) (.cS "InvalidHours")) (.cons (.ret (.cB false))
  .nil) .nil)
  .nil))
def b__law_refused_15_L2 (n__law_remaining_or n__law_fewest_stays_or : Nat) : Ss :=
  (.cons (.ite (.cmp .ne (.call n__law_fewest_stays_or (.cons (.var 0) (.cons (.cI 0) (.cons (.var 1) (.cons (.cI 0) .nil))))) (.cS "InvalidHour")) (.cons (.ret (.cB false))
  .nil) .nil)
  (.cons (.ite (.cmp .ne (.call n__law_remaining_or (.cons (.var 0) (.cons (.cI 0) (.cons (.var 1) .nil)))) (.cS "InvalidHour")) (.cons (.ret (.cB false))
  .nil) .nil)
  .nil))
def b__law_refused_15_L3 (n__law_remaining_or n__law_best_plan_or n__law_fewest_stays_or : Nat) : Ss :=
  (.cons (.ite (.cmp .ne (.call n__law_fewest_stays_or (.cons (.var 0) (.cons (.var 1) (.cons (.cI 999) (.cons (.cI 0) .nil))))) (.cS "InvalidKind")) (.cons (.ret (.cB false))
  .nil) .nil)
  (.cons (.ite (.cmp .ne (.call n__law_best_plan_or (.cons (.var 0) (.cons (.var 1) (.cons (.cI 999) (.cons (.cI 0) .nil))))) (.cS "InvalidKind")) (.cons (.ret (.cB false))
  .nil) .nil)
  (.cons (.ite (.cmp .ne (.call n__law_remaining_or (.cons (.var 0) (.cons (.var 1) (.cons (.cI 999) .nil)))) (.cS "InvalidKind")) (.cons (.ret (.cB false))
  .nil) .nil)
  .nil)))
def b__law_refused_15 (n__law_remaining_or n__law_best_plan_or n__law_fewest_stays_or : Nat) : Ss :=
  (.cons (.loop (.name 1) (.of (.lst (.cons (.neg (.cI 1)) (.cons (.cI 3) (.cons .cN (.cons (.cB true) .nil)))))) (b__law_refused_15_L3 n__law_remaining_or n__law_best_plan_or n__law_fewest_stays_or))
  (.cons (.loop (.name 1) (.of (.lst (.cons (.neg (.cI 1)) (.cons (.cI 168) (.cons .cN (.cons (.cB true) .nil)))))) (b__law_refused_15_L2 n__law_remaining_or n__law_fewest_stays_or))
  (.cons (.loop (.name 1) (.of (.lst (.cons (.cI 0) (.cons (.cI 169) (.cons .cN (.cons (.cB true) .nil)))))) (b__law_refused_15_L1 n__law_best_plan_or n__law_fewest_stays_or))
  (.cons (.ite (.cmp .ne (.call n__law_fewest_stays_or (.cons (.tup .nil) (.cons (.cI 9) (.cons (.cI 999) (.cons (.cI 0) .nil))))) (.cS "InvalidStreet")) (.cons (.ret (.cB false))
  .nil) .nil)
  (.cons (.ite (.cmp .ne (.call n__law_best_plan_or (.cons (.cI 1) (.cons (.cI 9) (.cons (.cI 999) (.cons (.cI 0) .nil))))) (.cS "InvalidStreet")) (.cons (.ret (.cB false))
  .nil) .nil)
  (.cons (.ret (.cmp .eq (.call n__law_remaining_or (.cons (.tup (.cons (.cI 0) (.cons (.tup .nil) .nil))) (.cons (.cI 9) (.cons (.cI 999) .nil)))) (.cS "InvalidStreet")))
  .nil))))))
def b__law_fewest_stays_or (x_InvalidStreet x_InvalidKind x_InvalidHour x_InvalidHours n_fewest_stays : Nat) : Ss :=
  (.cons (.tr (.cons (.ret (.call n_fewest_stays (.cons (.var 0) (.cons (.var 1) (.cons (.var 2) (.cons (.var 3) .nil))))))
  .nil) [(x_InvalidStreet, "InvalidStreet"), (x_InvalidKind, "InvalidKind"), (x_InvalidHour, "InvalidHour"), (x_InvalidHours, "InvalidHours")])
  .nil)
def b__law_best_plan_or (x_InvalidStreet x_InvalidKind x_InvalidHour x_InvalidHours n_best_plan : Nat) : Ss :=
  (.cons (.tr (.cons (.ret (.call n_best_plan (.cons (.var 0) (.cons (.var 1) (.cons (.var 2) (.cons (.var 3) .nil))))))
  .nil) [(x_InvalidStreet, "InvalidStreet"), (x_InvalidKind, "InvalidKind"), (x_InvalidHour, "InvalidHour"), (x_InvalidHours, "InvalidHours")])
  .nil)
def b__law_remaining_or (x_InvalidStreet x_InvalidKind x_InvalidHour n_remaining : Nat) : Ss :=
  (.cons (.tr (.cons (.ret (.call n_remaining (.cons (.var 0) (.cons (.var 1) (.cons (.var 2) .nil)))))
  .nil) [(x_InvalidStreet, "InvalidStreet"), (x_InvalidKind, "InvalidKind"), (x_InvalidHour, "InvalidHour")])
  .nil)
def b_law_15_L2 (n_remaining n_best_plan n__law_same n_fewest_stays n__law_plans n__law_draw : Nat) : Ss :=
  (.cons (.set 6 (.call n__law_draw (.cons (.var 0) (.cons (.var 1) (.cons (.cI 3) .nil)))))
  (.cons (.set 7 (.call n__law_draw (.cons (.var 0) (.cons (.var 1) (.cons (.cI 168) .nil)))))
  (.cons (.set 8 (.bin .add (.cI 1) (.call n__law_draw (.cons (.var 0) (.cons (.var 1) (.cons (.cI 5) .nil))))))
  (.cons (.set 9 (.call n__law_plans (.cons (.var 4) (.cons (.var 6) (.cons (.var 7) (.cons (.var 8) .nil))))))
  (.cons (.set 10 (.ite (.var 9) (.bi .min (.cons (.comp [11] (.name 11) (.of (.var 9)) .none (.bi .len (.cons (.var 11) .nil))) .nil)) .cN))
  (.cons (.ite (.not (.call n__law_same (.cons (.call n_fewest_stays (.cons (.var 3) (.cons (.var 6) (.cons (.var 7) (.cons (.var 8) .nil))))) (.cons (.var 10) .nil)))) (.cons (.ret (.cB false))
  .nil) .nil)
  (.cons (.set 12 (.ite (.var 9) (.bi .min (.cons (.comp [11] (.name 11) (.of (.var 9)) (.some (.cmp .eq (.bi .len (.cons (.var 11) .nil)) (.var 10))) (.var 11)) .nil)) .cN))
  (.cons (.ite (.cmp .ne (.call n_best_plan (.cons (.var 3) (.cons (.var 6) (.cons (.var 7) (.cons (.var 8) .nil))))) (.var 12)) (.cons (.ret (.cB false))
  .nil) .nil)
  (.cons (.ite (.cmp .ne (.cmp .ge (.call n_remaining (.cons (.var 3) (.cons (.var 6) (.cons (.var 7) .nil)))) (.var 8)) (.cmp .ne (.var 9) (.lst .nil))) (.cons (.ret (.cB false))
  .nil) .nil)
  .nil)))))))))
def b_law_15_L1 (n__law_refused n_remaining n_best_plan n__law_same n_fewest_stays n__law_plans n__law_draw n__law_rows n__law_busy : Nat) : Ss :=
  (.cons (.set 3 (.call n__law_busy (.cons (.var 0) (.cons (.var 1) (.cons (.bin .add (.cI 1) (.call n__law_draw (.cons (.var 0) (.cons (.var 1) (.cons (.cI 3) .nil))))) .nil)))))
  (.cons (.set 4 (.call n__law_rows (.cons (.var 3) .nil)))
  (.cons (.loop (.name 5) (.rng1 (.cI 3)) (b_law_15_L2 n_remaining n_best_plan n__law_same n_fewest_stays n__law_plans n__law_draw))
  (.cons (.ite (.not (.call n__law_refused (.cons (.var 3) .nil))) (.cons (.ret (.cB false))
  .nil) .nil)
  .nil))))
def b_law_15 (n__law_refused n_remaining n_best_plan n__law_same n_fewest_stays n__law_plans n__law_draw n__law_rows n__law_busy : Nat) : Ss :=
  (.cons (.cell 1 .nil)
  (.cons (.loop (.name 2) (.rng1 (.cI 5)) (b_law_15_L1 n__law_refused n_remaining n_best_plan n__law_same n_fewest_stays n__law_plans n__law_draw n__law_rows n__law_busy))
  (.cons (.ret (.cB true))
  .nil)))
def b_law_16_L2 (n_remaining n__law_remaining n__law_draw : Nat) : Ss :=
  (.cons (.set 6 (.call n__law_draw (.cons (.var 0) (.cons (.var 1) (.cons (.cI 168) .nil)))))
  (.cons (.ite (.cmp .ne (.call n_remaining (.cons (.var 3) (.cons (.var 5) (.cons (.var 6) .nil)))) (.call n__law_remaining (.cons (.var 4) (.cons (.var 5) (.cons (.var 6) .nil))))) (.cons (.ret (.cB false))
  .nil) .nil)
  .nil))
def b_law_16_L1 (n_remaining n__law_remaining n__law_draw n__law_rows n__law_busy : Nat) : Ss :=
  (.cons (.set 3 (.call n__law_busy (.cons (.var 0) (.cons (.var 1) (.cons (.bin .add (.cI 1) (.call n__law_draw (.cons (.var 0) (.cons (.var 1) (.cons (.cI 3) .nil))))) .nil)))))
  (.cons (.set 4 (.call n__law_rows (.cons (.var 3) .nil)))
  (.cons (.loop (.name 5) (.rng1 (.cI 3)) (b_law_16_L2 n_remaining n__law_remaining n__law_draw))
  .nil)))
def b_law_16 (n_remaining n__law_remaining n__law_draw n__law_rows n__law_busy : Nat) : Ss :=
  (.cons (.cell 1 .nil)
  (.cons (.loop (.name 2) (.rng1 (.cI 4)) (b_law_16_L1 n_remaining n__law_remaining n__law_draw n__law_rows n__law_busy))
  (.cons (.ret (.bop true (.cons (.cmp .eq (.call n_remaining (.cons (.tup (.cons (.cI 1) (.cons (.tup .nil) .nil))) (.cons (.cI 0) (.cons (.cI 9) .nil)))) (.cI 168)) (.cons (.cmp .eq (.call n_remaining (.cons (.tup (.cons (.cI 2) (.cons (.tup .nil) .nil))) (.cons (.cI 2) (.cons (.cI 167) .nil)))) (.cI 168)) .nil))))
  .nil)))
def b__law_is_plan_L1 (n_is_allowed : Nat) : Ss :=
  (.cons (.unp (.tup [7, 8]) (.idx (.var 4) (.var 6)))
  (.cons (.ite (.bop true (.cons (.var 6) (.cons (.cmp .eq (.idx (.idx (.var 4) (.bin .sub (.var 6) (.cI 1))) (.cI 0)) (.var 7)) .nil))) (.cons (.ret (.cB false))
  .nil) .nil)
  (.cons (.ite (.not (.call n_is_allowed (.cons (.var 0) (.cons (.var 1) (.cons (.var 7) (.cons (.bin .mod (.bin .add (.var 2) (.var 5)) (.cI 168)) (.cons (.var 8) .nil))))))) (.cons (.ret (.cB false))
  .nil) .nil)
  (.cons (.set 5 (.bin .add (.var 5) (.var 8)))
  .nil))))
def b__law_is_plan (n_is_allowed : Nat) : Ss :=
  (.cons (.set 5 (.cI 0))
  (.cons (.loop (.name 6) (.rng1 (.bi .len (.cons (.var 4) .nil))) (b__law_is_plan_L1 n_is_allowed))
  (.cons (.ret (.cmp .eq (.var 5) (.var 3)))
  .nil)))
def b__law_holds_17 (n_fewest_stays n_first_place n__law_is_plan n_best_plan : Nat) : Ss :=
  (.cons (.par 5 6 (.cons (.call n_best_plan (.cons (.var 0) (.cons (.var 1) (.cons (.var 2) (.cons (.var 3) .nil))))) (.cons (.call n_fewest_stays (.cons (.var 0) (.cons (.var 1) (.cons (.var 2) (.cons (.var 3) .nil))))) .nil)))
  (.cons (.ite (.bop false (.cons (.cmp .ne (.isN (.var 5)) (.cmp .gt (.var 3) (.var 4))) (.cons (.cmp .ne (.isN (.var 6)) (.isN (.var 5))) .nil))) (.cons (.ret (.cB false))
  .nil) .nil)
  (.cons (.ite (.isN (.var 5)) (.cons (.ret (.cB true))
  .nil) .nil)
  (.cons (.ite (.bop false (.cons (.cmp .ne (.bi .len (.cons (.var 5) .nil)) (.var 6)) (.cons (.not (.call n__law_is_plan (.cons (.var 0) (.cons (.var 1) (.cons (.var 2) (.cons (.var 3) (.cons (.var 5) .nil))))))) .nil))) (.cons (.ret (.cB false))
  .nil) .nil)
  (.cons (.ite (.cmp .ne (.cmp .eq (.var 6) (.cI 1)) (.notN (.call n_first_place (.cons (.var 0) (.cons (.var 1) (.cons (.var 2) (.cons (.var 3) .nil))))))) (.cons (.ret (.cB false))
  .nil) .nil)
  (.cons (.ret (.bop false (.cons (.cmp .eq (.var 3) (.cI 1)) (.cons (.cmp .le (.call n_fewest_stays (.cons (.var 0) (.cons (.var 1) (.cons (.var 2) (.cons (.bin .sub (.var 3) (.cI 1)) .nil))))) (.var 6)) .nil))))
  .nil))))))
def b_law_17_L2 (n__law_holds : Nat) : Ss :=
  (.cons (.ite (.not (.call n__law_holds (.cons (.var 4) (.cons (.var 5) (.cons (.var 6) (.cons (.var 9) (.cons (.var 7) .nil))))))) (.cons (.ret (.cB false))
  .nil) .nil)
  .nil)
def b_law_17_L1 (n__law_draw n__law_holds n_remaining n__law_busy n__law_street : Nat) : Ss :=
  (.cons (.set 3 (.bin .add (.cI 1) (.call n__law_draw (.cons (.var 0) (.cons (.var 1) (.cons (.cI 3) .nil))))))
  (.cons (.set 4 (.ite (.bin .mod (.var 2) (.cI 2)) (.call n__law_busy (.cons (.var 0) (.cons (.var 1) (.cons (.var 3) .nil)))) (.call n__law_street (.cons (.var 0) (.cons (.var 1) (.cons (.var 3) (.cons (.cI 4) .nil)))))))
  (.cons (.par 5 6 (.cons (.call n__law_draw (.cons (.var 0) (.cons (.var 1) (.cons (.cI 3) .nil)))) (.cons (.call n__law_draw (.cons (.var 0) (.cons (.var 1) (.cons (.cI 168) .nil)))) .nil)))
  (.cons (.set 7 (.call n_remaining (.cons (.var 4) (.cons (.var 5) (.cons (.var 6) .nil)))))
  (.cons (.set 8 (.lst (.cons (.bi .max (.cons (.cI 1) (.cons (.var 7) .nil))) (.cons (.bi .min (.cons (.cI 168) (.cons (.bin .add (.var 7) (.cI 1)) .nil))) (.cons (.bin .add (.cI 1) (.call n__law_draw (.cons (.var 0) (.cons (.var 1) (.cons (.cI 168) .nil))))) .nil)))))
  (.cons (.loop (.name 9) (.of (.bin .add (.var 8) (.lst (.cons (.bin .add (.cI 1) (.call n__law_draw (.cons (.var 0) (.cons (.var 1) (.cons (.cI 9) .nil))))) .nil)))) (b_law_17_L2 n__law_holds))
  .nil))))))
def b_law_17 (n__law_draw n__law_holds n_remaining n__law_busy n__law_street : Nat) : Ss :=
  (.cons (.cell 1 .nil)
  (.cons (.loop (.name 2) (.rng1 (.cI 4)) (b_law_17_L1 n__law_draw n__law_holds n_remaining n__law_busy n__law_street))
  (.cons (.ret (.cB true))
  .nil)))
def b_is_car (n_is_integer : Nat) : Ss :=
  (.cons (.ite (.bop false (.cons (.not (.isi .tuple (.var 0))) (.cons (.cmp .ne (.bi .len (.cons (.var 0) .nil)) (.cI 3)) (.cons (.not (.call n_is_integer (.cons (.idx (.var 0) (.cI 0)) (.cons (.cI 0) (.cons (.cI 2) .nil))))) .nil)))) (.cons (.ret (.cB false))
  .nil) .nil)
  (.cons (.ret (.bop true (.cons (.call n_is_integer (.cons (.idx (.var 0) (.cI 1)) (.cons (.cI 0) (.cons (.cI 167) .nil)))) (.cons (.call n_is_integer (.cons (.idx (.var 0) (.cI 2)) (.cons (.cI 1) (.cons (.cI 168) .nil)))) .nil))))
  .nil))
def b_are_cars (n_is_car : Nat) : Ss :=
  (.cons (.ret (.bop true (.cons (.isi .list (.var 0)) (.cons (.cmp .le (.bi .len (.cons (.var 0) .nil)) (.cI 4)) (.cons (.bi .all (.cons (.comp [1] (.name 1) (.of (.var 0)) .none (.call n_is_car (.cons (.var 1) .nil))) .nil)) .nil)))))
  .nil)
def b_require_cars (n_are_cars x_InvalidCars n_require_street : Nat) : Ss :=
  (.cons (.expr (.call n_require_street (.cons (.var 0) .nil)))
  (.cons (.ite (.not (.call n_are_cars (.cons (.var 1) .nil))) (.cons (.raise x_InvalidCars)
  .nil) .nil)
  .nil))
def b_in_way : Ss :=
  (.cons (.ret (.bop false (.cons (.cmp .lt (.bin .mod (.bin .sub (.idx (.var 1) (.cI 1)) (.idx (.var 0) (.cI 1))) (.cI 168)) (.idx (.var 0) (.cI 2))) (.cons (.cmp .lt (.bin .mod (.bin .sub (.idx (.var 0) (.cI 1)) (.idx (.var 1) (.cI 1))) (.cI 168)) (.idx (.var 1) (.cI 2))) .nil))))
  .nil)
def b_places_for (n_weeks n_run : Nat) : Ss :=
  (.cons (.unp (.tup [2, 3, 4]) (.var 1))
  (.cons (.ret (.comp [5, 6] (.tup [5, 6]) (.enum (.call n_weeks (.cons (.var 0) .nil))) (.some (.cmp .ge (.call n_run (.cons (.var 6) (.cons (.var 2) (.cons (.var 3) .nil)))) (.var 4))) (.var 5)))
  .nil))
def b_is_taken (n_in_way : Nat) : Ss :=
  (.cons (.ret (.bi .any (.cons (.comp [4, 5] (.tup [4, 5]) (.zip (.cut (.var 1) .none (.some (.var 2))) (.var 0)) .none (.bop true (.cons (.cmp .eq (.var 4) (.var 3)) (.cons (.call n_in_way (.cons (.idx (.var 0) (.var 2)) (.cons (.var 5) .nil))) .nil)))) .nil)))
  .nil)
def b_park_L1 (n_places_for n_is_taken : Nat) : Ss :=
  (.cons (.set 5 (.comp [6] (.name 6) (.of (.call n_places_for (.cons (.var 0) (.cons (.var 4) .nil)))) (.some (.not (.call n_is_taken (.cons (.var 1) (.cons (.var 2) (.cons (.var 3) (.cons (.var 6) .nil))))))) (.var 6)))
  (.cons (.app 2 (.ite (.var 5) (.idx (.var 5) (.cI 0)) (.neg (.cI 1))))
  .nil))
def b_park (n_places_for n_is_taken n_require_cars : Nat) : Ss :=
  (.cons (.expr (.call n_require_cars (.cons (.var 0) (.cons (.var 1) .nil))))
  (.cons (.own 2 .nil)
  (.cons (.loop (.tup [3, 4]) (.enum (.var 1)) (b_park_L1 n_places_for n_is_taken))
  (.frz 2 (.cons (.ret (.var 2))
  .nil)))))
def b__law_cars_L1 (n__law_draw : Nat) : Ss :=
  (.cons (.set 5 (.bin .mod (.bin .add (.var 2) (.call n__law_draw (.cons (.var 0) (.cons (.var 1) (.cons (.cI 5) .nil))))) (.cI 168)))
  (.cons (.app 3 (.tup (.cons (.call n__law_draw (.cons (.var 0) (.cons (.var 1) (.cons (.cI 3) .nil)))) (.cons (.var 5) (.cons (.bin .add (.cI 1) (.call n__law_draw (.cons (.var 0) (.cons (.var 1) (.cons (.cI 5) .nil))))) .nil)))))
  .nil))
def b__law_cars (n__law_draw : Nat) : Ss :=
  (.cons (.par 2 3 (.cons (.call n__law_draw (.cons (.var 0) (.cons (.var 1) (.cons (.cI 168) .nil)))) (.cons (.lst .nil) .nil)))
  (.cons (.loop (.name 4) (.rng1 (.call n__law_draw (.cons (.var 0) (.cons (.var 1) (.cons (.cI 5) .nil))))) (b__law_cars_L1 n__law_draw))
  (.frz 3 (.cons (.ret (.var 3))
  .nil))))
def b__law_meet : Ss :=
  (.cons (.set 2 (.comp [3] (.name 3) (.rng1 (.idx (.var 0) (.cI 2))) .none (.bin .mod (.bin .add (.idx (.var 0) (.cI 1)) (.var 3)) (.cI 168))))
  (.cons (.ret (.cmp .ne (.comp [3] (.name 3) (.rng1 (.idx (.var 1) (.cI 2))) (.some (.cmp .inn (.bin .mod (.bin .add (.idx (.var 1) (.cI 1)) (.var 3)) (.cI 168)) (.var 2))) (.var 3)) (.lst .nil)))
  .nil))
def b__law_right_L1 : Ss :=
  (.cons (.ite (.bop false (.cons (.not (.isi .tuple (.var 1))) (.cons (.cmp .ne (.bi .len (.cons (.var 1) .nil)) (.cI 3)) .nil))) (.cons (.ret (.cB false))
  .nil) .nil)
  (.cons (.ite (.comp [2] (.name 2) (.of (.var 1)) (.some (.bop false (.cons (.not (.isi .int (.var 2))) (.cons (.isi .bool (.var 2)) .nil)))) (.cI 1)) (.cons (.ret (.cB false))
  .nil) .nil)
  (.cons (.ite (.bop false (.cons (.not (.chain .le .le (.cI 0) (.idx (.var 1) (.cI 0)) (.cI 2))) (.cons (.not (.chain .le .le (.cI 0) (.idx (.var 1) (.cI 1)) (.cI 167))) (.cons (.not (.chain .le .le (.cI 1) (.idx (.var 1) (.cI 2)) (.cI 168))) .nil)))) (.cons (.ret (.cB false))
  .nil) .nil)
  .nil)))
def b__law_right : Ss :=
  (.cons (.ite (.bop false (.cons (.not (.isi .list (.var 0))) (.cons (.cmp .gt (.bi .len (.cons (.var 0) .nil)) (.cI 4)) .nil))) (.cons (.ret (.cB false))
  .nil) .nil)
  (.cons (.loop (.name 1) (.of (.var 0)) b__law_right_L1)
  (.cons (.ret (.cB true))
  .nil)))
def b__law_parked_L2 (n__law_meet : Nat) : Ss :=
  (.cons (.ite (.call n__law_meet (.cons (.idx (.var 1) (.var 4)) (.cons (.idx (.var 1) (.var 10)) .nil))) (.cons (.set 8 (.comp [9] (.name 9) (.of (.var 8)) (.some (.cmp .ne (.var 9) (.idx (.var 3) (.var 10)))) (.var 9)))
  .nil) .nil)
  .nil)
def b__law_parked_L1 (n__law_meet n__law_run : Nat) : Ss :=
  (.cons (.unp (.tup [5, 6, 7]) (.idx (.var 1) (.var 4)))
  (.cons (.set 8 (.comp [9] (.name 9) (.rng1 (.idx (.var 0) (.cI 0))) (.some (.cmp .ge (.call n__law_run (.cons (.idx (.var 2) (.var 9)) (.cons (.var 5) (.cons (.var 6) .nil)))) (.var 7))) (.var 9)))
  (.cons (.loop (.name 10) (.rng1 (.var 4)) (b__law_parked_L2 n__law_meet))
  (.cons (.app 3 (.ite (.var 8) (.idx (.var 8) (.cI 0)) (.neg (.cI 1))))
  .nil))))
def b__law_parked (n__law_meet n__law_run n__law_rows : Nat) : Ss :=
  (.cons (.par 2 3 (.cons (.call n__law_rows (.cons (.var 0) .nil)) (.cons (.lst .nil) .nil)))
  (.cons (.loop (.name 4) (.rng1 (.bi .len (.cons (.var 1) .nil))) (b__law_parked_L1 n__law_meet n__law_run))
  (.frz 3 (.cons (.ret (.var 3))
  .nil))))
def b__law_park_or (x_InvalidStreet x_InvalidCars n_park : Nat) : Ss :=
  (.cons (.tr (.cons (.ret (.call n_park (.cons (.var 0) (.cons (.var 1) .nil))))
  .nil) [(x_InvalidStreet, "InvalidStreet"), (x_InvalidCars, "InvalidCars")])
  .nil)
def b_law_18_L2 (n__law_park_or : Nat) : Ss :=
  (.cons (.ite (.cmp .ne (.call n__law_park_or (.cons (.var 4) (.cons (.var 7) .nil))) (.cS "InvalidCars")) (.cons (.ret (.cB false))
  .nil) .nil)
  (.cons (.ite (.cmp .ne (.call n__law_park_or (.cons (.tup (.cons (.cI 0) (.cons (.tup .nil) .nil))) (.cons (.var 7) .nil))) (.cS "InvalidStreet")) (.cons (.ret (.cB false))
  .nil) .nil)
  .nil))
def b_law_18_L1 (n__law_park_or n_park n__law_parked n__law_bent n__law_cars n__law_street n__law_draw : Nat) : Ss :=
  (.cons (.par 4 5 (.cons (.call n__law_street (.cons (.var 0) (.cons (.var 1) (.cons (.bin .add (.cI 1) (.call n__law_draw (.cons (.var 0) (.cons (.var 1) (.cons (.cI 3) .nil))))) (.cons (.cI 3) .nil))))) (.cons (.call n__law_cars (.cons (.var 0) (.cons (.var 1) .nil))) .nil)))
  (.cons (.set 2 (.bin .add (.var 2) (.lst (.cons (.var 5) (.cons (.comp [6] (.name 6) (.of (.var 5)) .none (.call n__law_bent (.cons (.var 0) (.cons (.var 1) (.cons (.var 6) .nil))))) .nil)))))
  (.cons (.ite (.cmp .ne (.call n_park (.cons (.var 4) (.cons (.var 5) .nil))) (.call n__law_parked (.cons (.var 4) (.cons (.var 5) .nil)))) (.cons (.ret (.cB false))
  .nil) .nil)
  (.cons (.loop (.name 7) (.of (.lst (.cons .cN (.cons (.bi .tuple (.cons (.var 5) .nil)) (.cons (.lst (.cons (.tup (.cons (.cI 3) (.cons (.cI 0) (.cons (.cI 1) .nil)))) .nil)) (.cons (.bin .mul (.lst (.cons (.tup (.cons (.cI 0) (.cons (.cI 0) (.cons (.cI 1) .nil)))) .nil)) (.cI 5)) .nil)))))) (b_law_18_L2 n__law_park_or))
  .nil))))
def b_law_18 (n_park n_are_cars n__law_right n__law_park_or n__law_parked n__law_bent n__law_cars n__law_street n__law_draw : Nat) : Ss :=
  (.cons (.cell 1 .nil)
  (.cons (.set 2 (.lst (.cons (.lst .nil) (.cons (.bin .mul (.lst (.cons (.tup (.cons (.cI 0) (.cons (.cI 0) (.cons (.cI 1) .nil)))) .nil)) (.cI 4)) (.cons (.bin .mul (.lst (.cons (.tup (.cons (.cI 0) (.cons (.cI 0) (.cons (.cI 1) .nil)))) .nil)) (.cI 5)) (.cons (.tup (.cons (.tup (.cons (.cI 0) (.cons (.cI 0) (.cons (.cI 1) .nil)))) .nil)) (.cons (.lst (.cons (.tup (.cons (.cI 2) (.cons (.cI 167) (.cons (.cI 168) .nil)))) .nil)) .nil)))))))
  (.cons (.set 2 (.bin .add (.var 2) (.lst (.cons (.lst (.cons (.tup (.cons (.cI 3) (.cons (.cI 0) (.cons (.cI 1) .nil)))) .nil)) (.cons (.lst (.cons (.tup (.cons (.cI 0) (.cons (.cI 168) (.cons (.cI 1) .nil)))) .nil)) (.cons (.lst (.cons (.tup (.cons (.cI 0) (.cons (.cI 0) (.cons (.cI 0) .nil)))) .nil)) (.cons (.lst (.cons (.tup (.cons (.cI 0) (.cons (.cI 0) (.cons (.cI 169) .nil)))) .nil)) (.cons (.lst (.cons (.tup (.cons (.neg (.cI 1)) (.cons (.cI 0) (.cons (.cI 1) .nil)))) .nil)) .nil))))))))
  (.cons (.set 2 (.bin .add (.var 2) (.lst (.cons (.lst (.cons (.tup (.cons (.cB true) (.cons (.cI 0) (.cons (.cI 1) .nil)))) .nil)) (.cons (.lst (.cons (.lst (.cons (.cI 0) (.cons (.cI 0) (.cons (.cI 1) .nil)))) .nil)) (.cons (.lst (.cons (.tup (.cons (.cI 0) (.cons (.cI 0) .nil))) .nil)) (.cons (.lst (.cons (.tup (.cons (.cI 0) (.cons (.cI 0) (.cons (.cI 1) (.cons (.cI 1) .nil))))) .nil)) (.cons .cN (.cons (.cI 0) (.cons (.lst (.cons (.cI 0) .nil)) .nil))))))))))
  (.cons (.set 2 (.bin .add (.var 2) (.lst (.cons (.lst (.cons (.tup (.cons (.cI 0) (.cons (.neg (.cI 1)) (.cons (.cI 1) .nil)))) .nil)) (.cons (.lst (.cons (.tup (.cons (.cS "0") (.cons (.cI 0) (.cons (.cI 1) .nil)))) .nil)) .nil)))))
  (.cons (.loop (.name 3) (.rng1 (.cI 6)) (b_law_18_L1 n__law_park_or n_park n__law_parked n__law_bent n__law_cars n__law_street n__law_draw))
  (.cons (.ite (.comp [8] (.name 8) (.of (.var 2)) (.some (.cmp .ne (.call n_are_cars (.cons (.var 8) .nil)) (.call n__law_right (.cons (.var 8) .nil)))) (.var 8)) (.cons (.ret (.cB false))
  .nil) .nil)
  (.cons (.ret (.cmp .eq (.call n_park (.cons (.tup (.cons (.cI 1) (.cons (.tup .nil) .nil))) (.cons (.lst (.cons (.tup (.cons (.cI 0) (.cons (.cI 166) (.cons (.cI 4) .nil)))) (.cons (.tup (.cons (.cI 1) (.cons (.cI 1) (.cons (.cI 2) .nil)))) (.cons (.tup (.cons (.cI 2) (.cons (.cI 2) (.cons (.cI 2) .nil)))) .nil)))) .nil))) (.lst (.cons (.cI 0) (.cons (.neg (.cI 1)) (.cons (.cI 0) .nil))))))
  .nil))))))))
def b_parkings_L2 (n_is_taken : Nat) : Ss :=
  (.cons (.app 6 (.bin .add (.var 7) (.tup (.cons (.neg (.cI 1)) .nil))))
  (.cons (.ext 6 (.comp [8] (.name 8) (.of (.var 5)) (.some (.not (.call n_is_taken (.cons (.var 1) (.cons (.var 7) (.cons (.var 3) (.cons (.var 8) .nil))))))) (.bin .add (.var 7) (.tup (.cons (.var 8) .nil)))))
  .nil))
def b_parkings_L1 (n_is_taken n_places_for : Nat) : Ss :=
  (.cons (.set 5 (.call n_places_for (.cons (.var 0) (.cons (.var 4) .nil))))
  (.cons (.own 6 .nil)
  (.cons (.loop (.name 7) (.of (.var 2)) (b_parkings_L2 n_is_taken))
  (.cons (.set 2 (.var 6))
  .nil))))
def b_parkings (n_is_taken n_places_for : Nat) : Ss :=
  (.cons (.set 2 (.lst (.cons (.tup .nil) .nil)))
  (.cons (.loop (.tup [3, 4]) (.enum (.var 1)) (b_parkings_L1 n_is_taken n_places_for))
  (.cons (.ret (.var 2))
  .nil)))
def b_count_placed : Ss :=
  (.cons (.ret (.bi .len (.cons (.comp [1] (.name 1) (.of (.var 0)) (.some (.cmp .ge (.var 1) (.cI 0))) (.cI 1)) .nil)))
  .nil)
def b_most_parked (n_parkings n_count_placed n_require_cars : Nat) : Ss :=
  (.cons (.expr (.call n_require_cars (.cons (.var 0) (.cons (.var 1) .nil))))
  (.cons (.ret (.bi .max (.cons (.comp [2] (.name 2) (.of (.call n_parkings (.cons (.var 0) (.cons (.var 1) .nil)))) .none (.call n_count_placed (.cons (.var 2) .nil))) .nil)))
  .nil))
def b_best_parking (n_parkings n_count_placed n_require_cars : Nat) : Ss :=
  (.cons (.expr (.call n_require_cars (.cons (.var 0) (.cons (.var 1) .nil))))
  (.cons (.ret (.idx (.bi .min (.cons (.comp [2] (.name 2) (.of (.call n_parkings (.cons (.var 0) (.cons (.var 1) .nil)))) .none (.tup (.cons (.neg (.call n_count_placed (.cons (.var 2) .nil))) (.cons (.var 2) .nil)))) .nil)) (.cI 1)))
  .nil))
def b__law_fits_L1 (n__law_meet n__law_run : Nat) : Ss :=
  (.cons (.unp (.tup [4, 5, 6]) (.idx (.var 1) (.var 3)))
  (.cons (.ite (.cmp .ge (.idx (.var 2) (.var 3)) (.cI 0)) (.cons (.ite (.cmp .lt (.call n__law_run (.cons (.idx (.var 0) (.idx (.var 2) (.var 3))) (.cons (.var 4) (.cons (.var 5) .nil)))) (.var 6)) (.cons (.ret (.cB false))
  .nil) .nil)
  (.cons (.ite (.comp [7] (.name 7) (.rng1 (.var 3)) (.some (.bop true (.cons (.cmp .eq (.idx (.var 2) (.var 7)) (.idx (.var 2) (.var 3))) (.cons (.call n__law_meet (.cons (.idx (.var 1) (.var 3)) (.cons (.idx (.var 1) (.var 7)) .nil))) .nil)))) (.cI 1)) (.cons (.ret (.cB false))
  .nil) .nil)
  .nil)) .nil)
  .nil))
def b__law_fits (n__law_meet n__law_run : Nat) : Ss :=
  (.cons (.loop (.name 3) (.rng1 (.bi .len (.cons (.var 1) .nil))) (b__law_fits_L1 n__law_meet n__law_run))
  (.cons (.ret (.cB true))
  .nil))
def b__law_choices_L2 : Ss :=
  (.cons (.set 4 (.bin .add (.var 4) (.comp [6] (.name 6) (.rng2 (.neg (.cI 1)) (.var 1)) .none (.bin .add (.var 5) (.tup (.cons (.var 6) .nil))))))
  .nil)
def b__law_choices_L1 : Ss :=
  (.cons (.set 4 (.lst .nil))
  (.cons (.loop (.name 5) (.of (.var 2)) b__law_choices_L2)
  (.cons (.set 2 (.var 4))
  .nil)))
def b__law_choices : Ss :=
  (.cons (.set 2 (.lst (.cons (.tup .nil) .nil)))
  (.cons (.loop (.name 3) (.rng1 (.var 0)) b__law_choices_L1)
  (.cons (.ret (.var 2))
  .nil)))
def b__law_most_parked_or (x_InvalidStreet x_InvalidCars n_most_parked : Nat) : Ss :=
  (.cons (.tr (.cons (.ret (.call n_most_parked (.cons (.var 0) (.cons (.var 1) .nil))))
  .nil) [(x_InvalidStreet, "InvalidStreet"), (x_InvalidCars, "InvalidCars")])
  .nil)
def b__law_best_parking_or (x_InvalidStreet x_InvalidCars n_best_parking : Nat) : Ss :=
  (.cons (.tr (.cons (.ret (.call n_best_parking (.cons (.var 0) (.cons (.var 1) .nil))))
  .nil) [(x_InvalidStreet, "InvalidStreet"), (x_InvalidCars, "InvalidCars")])
  .nil)
def b_law_19_L2 (n__law_best_parking_or n__law_most_parked_or : Nat) : Ss :=
  (.cons (.ite (.cmp .ne (.call n__law_most_parked_or (.cons (.var 3) (.cons (.var 10) .nil))) (.cS "InvalidCars")) (.cons (.ret (.cB false))
  .nil) .nil)
  (.cons (.ite (.cmp .ne (.call n__law_best_parking_or (.cons (.var 3) (.cons (.var 10) .nil))) (.cS "InvalidCars")) (.cons (.ret (.cB false))
  .nil) .nil)
  .nil))
def b_law_19_L3 (n__law_fits : Nat) : Ss :=
  (.cons (.ite (.call n__law_fits (.cons (.var 5) (.cons (.var 4) (.cons (.var 7) .nil)))) (.cons (.set 8 (.tup (.cons (.neg (.bi .len (.cons (.comp [9] (.name 9) (.of (.var 7)) (.some (.cmp .ge (.var 9) (.cI 0))) (.var 9)) .nil))) (.cons (.var 7) .nil))))
  (.cons (.set 6 (.ite (.bop false (.cons (.isN (.var 6)) (.cons (.cmp .lt (.var 8) (.var 6)) .nil))) (.var 8) (.var 6)))
  .nil)) .nil)
  .nil)
def b_law_19_L1 (n__law_best_parking_or n__law_most_parked_or n_best_parking n_most_parked n__law_choices n__law_fits n__law_rows n__law_cars n__law_street n__law_draw : Nat) : Ss :=
  (.cons (.set 3 (.call n__law_street (.cons (.var 0) (.cons (.var 1) (.cons (.bin .add (.cI 1) (.call n__law_draw (.cons (.var 0) (.cons (.var 1) (.cons (.cI 3) .nil))))) (.cons (.cI 3) .nil))))))
  (.cons (.set 4 (.cut (.call n__law_cars (.cons (.var 0) (.cons (.var 1) .nil))) .none (.some (.cI 3))))
  (.cons (.par 5 6 (.cons (.call n__law_rows (.cons (.var 3) .nil)) (.cons .cN .nil)))
  (.cons (.loop (.name 7) (.of (.call n__law_choices (.cons (.bi .len (.cons (.var 4) .nil)) (.cons (.idx (.var 3) (.cI 0)) .nil)))) (b_law_19_L3 n__law_fits))
  (.cons (.ite (.bop false (.cons (.cmp .ne (.call n_most_parked (.cons (.var 3) (.cons (.var 4) .nil))) (.neg (.idx (.var 6) (.cI 0)))) (.cons (.cmp .ne (.call n_best_parking (.cons (.var 3) (.cons (.var 4) .nil))) (.idx (.var 6) (.cI 1))) .nil))) (.cons (.ret (.cB false))
  .nil) .nil)
  (.cons (.loop (.name 10) (.of (.lst (.cons .cN (.cons (.bi .tuple (.cons (.var 4) .nil)) (.cons (.lst (.cons (.tup (.cons (.cI 0) (.cons (.cI 0) (.cons (.cI 0) .nil)))) .nil)) (.cons (.bin .mul (.lst (.cons (.tup (.cons (.cI 0) (.cons (.cI 0) (.cons (.cI 1) .nil)))) .nil)) (.cI 5)) .nil)))))) (b_law_19_L2 n__law_best_parking_or n__law_most_parked_or))
  (.cons (.ite (.cmp .ne (.call n__law_most_parked_or (.cons (.tup (.cons (.cI 0) (.cons (.tup .nil) .nil))) (.cons (.cI 1) .nil))) (.cS "InvalidStreet")) (.cons (.ret (.cB false))
  .nil) .nil)
  (.cons (.ite (.cmp .ne (.call n__law_best_parking_or (.cons .cN (.cons (.cI 1) .nil))) (.cS "InvalidStreet")) (.cons (.ret (.cB false))
  .nil) .nil)
  .nil))))))))
def b_law_19 (n__law_best_parking_or n__law_most_parked_or n_best_parking n_most_parked n__law_choices n__law_fits n__law_rows n__law_cars n__law_street n__law_draw : Nat) : Ss :=
  (.cons (.cell 1 .nil)
  (.cons (.loop (.name 2) (.rng1 (.cI 5)) (b_law_19_L1 n__law_best_parking_or n__law_most_parked_or n_best_parking n_most_parked n__law_choices n__law_fits n__law_rows n__law_cars n__law_street n__law_draw))
  (.cons (.ret (.cB true))
  .nil)))
def b__law_is_right_L2 (n__law_meet : Nat) : Ss :=
  (.cons (.ite (.bop true (.cons (.cmp .eq (.idx (.var 2) (.var 3)) (.idx (.var 2) (.var 7))) (.cons (.cmp .ge (.idx (.var 2) (.var 3)) (.cI 0)) .nil))) (.cons (.ite (.call n__law_meet (.cons (.idx (.var 1) (.var 3)) (.cons (.idx (.var 1) (.var 7)) .nil))) (.cons (.ret (.cB false))
  .nil) .nil)
  .nil) .nil)
  .nil)
def b__law_is_right_L1 (n__law_meet n_is_allowed : Nat) : Ss :=
  (.cons (.unp (.tup [4, 5, 6]) (.idx (.var 1) (.var 3)))
  (.cons (.ite (.bop true (.cons (.cmp .ge (.idx (.var 2) (.var 3)) (.cI 0)) (.cons (.not (.call n_is_allowed (.cons (.var 0) (.cons (.var 4) (.cons (.idx (.var 2) (.var 3)) (.cons (.var 5) (.cons (.var 6) .nil))))))) .nil))) (.cons (.ret (.cB false))
  .nil) .nil)
  (.cons (.loop (.name 7) (.rng1 (.var 3)) (b__law_is_right_L2 n__law_meet))
  .nil)))
def b__law_is_right (n__law_meet n_is_allowed : Nat) : Ss :=
  (.cons (.loop (.name 3) (.rng1 (.bi .len (.cons (.var 1) .nil))) (b__law_is_right_L1 n__law_meet n_is_allowed))
  (.cons (.ret (.cmp .eq (.bi .len (.cons (.var 2) .nil)) (.bi .len (.cons (.var 1) .nil))))
  .nil))
def b__law_count : Ss :=
  (.cons (.ret (.bi .len (.cons (.comp [1] (.name 1) (.of (.var 0)) (.some (.cmp .ge (.var 1) (.cI 0))) (.var 1)) .nil)))
  .nil)
def b_moved_L1 : Ss :=
  (.cons (.set 4 (.bi .tuple (.cons (.bi .sorted (.cons (.comp [5] (.name 5) (.of (.idx (.var 3) (.cI 3))) .none (.bin .mod (.bin .add (.var 5) (.var 1)) (.cI 7))) .nil)) .nil)))
  (.cons (.app 2 (.bin .add (.bin .add (.cut (.var 3) .none (.some (.cI 3))) (.tup (.cons (.var 4) .nil))) (.cut (.var 3) (.some (.cI 4)) .none)))
  .nil))
def b_moved (n_is_integer x_InvalidDays n_require_street : Nat) : Ss :=
  (.cons (.expr (.call n_require_street (.cons (.var 0) .nil)))
  (.cons (.ite (.not (.call n_is_integer (.cons (.var 1) (.cons (.cI 0) (.cons (.cI 6) .nil))))) (.cons (.raise x_InvalidDays)
  .nil) .nil)
  (.cons (.own 2 .nil)
  (.cons (.loop (.name 3) (.of (.idx (.var 0) (.cI 1))) b_moved_L1)
  (.cons (.ret (.tup (.cons (.idx (.var 0) (.cI 0)) (.cons (.bi .tuple (.cons (.var 2) .nil)) .nil))))
  .nil)))))
def b_part_L1 : Ss :=
  (.cons (.par 5 6 (.cons (.bin .sub (.bi .max (.cons (.idx (.var 4) (.cI 1)) (.cons (.var 1) .nil))) (.var 1)) (.cons (.bin .sub (.bi .min (.cons (.idx (.var 4) (.cI 2)) (.cons (.var 2) .nil))) (.var 1)) .nil)))
  (.cons (.set 7 (.bin .add (.tup (.cons (.idx (.var 4) (.cI 0)) (.cons (.var 5) (.cons (.var 6) .nil)))) (.cut (.var 4) (.some (.cI 3)) .none)))
  (.cons (.ite (.bop true (.cons (.cmp .lt (.var 5) (.var 6)) (.cons (.cmp .nin (.var 7) (.var 3)) .nil))) (.cons (.app 3 (.var 7))
  .nil) .nil)
  .nil)))
def b_part (n_is_integer x_InvalidPart n_require_street : Nat) : Ss :=
  (.cons (.expr (.call n_require_street (.cons (.var 0) .nil)))
  (.cons (.ite (.bop false (.cons (.not (.call n_is_integer (.cons (.var 2) (.cons (.cI 1) (.cons (.idx (.var 0) (.cI 0)) .nil))))) (.cons (.not (.call n_is_integer (.cons (.var 1) (.cons (.cI 0) (.cons (.bin .sub (.var 2) (.cI 1)) .nil))))) .nil))) (.cons (.raise x_InvalidPart)
  .nil) .nil)
  (.cons (.own 3 .nil)
  (.cons (.loop (.name 4) (.of (.idx (.var 0) (.cI 1))) b_part_L1)
  (.cons (.ret (.tup (.cons (.bin .sub (.var 2) (.var 1)) (.cons (.bi .tuple (.cons (.var 3) .nil)) .nil))))
  .nil)))))
def b_joined (x_TooLarge n_require_street : Nat) : Ss :=
  (.cons (.expr (.call n_require_street (.cons (.var 0) .nil)))
  (.cons (.expr (.call n_require_street (.cons (.var 1) .nil)))
  (.cons (.ite (.bop false (.cons (.cmp .gt (.bin .add (.idx (.var 0) (.cI 0)) (.idx (.var 1) (.cI 0))) (.cI 4)) (.cons (.cmp .gt (.bin .add (.bi .len (.cons (.idx (.var 0) (.cI 1)) .nil)) (.bi .len (.cons (.idx (.var 1) (.cI 1)) .nil))) (.cI 6)) .nil))) (.cons (.raise x_TooLarge)
  .nil) .nil)
  (.cons (.set 2 (.comp [3] (.name 3) (.of (.idx (.var 1) (.cI 1))) .none (.bin .add (.tup (.cons (.idx (.var 3) (.cI 0)) (.cons (.bin .add (.idx (.var 3) (.cI 1)) (.idx (.var 0) (.cI 0))) (.cons (.bin .add (.idx (.var 3) (.cI 2)) (.idx (.var 0) (.cI 0))) .nil)))) (.cut (.var 3) (.some (.cI 3)) .none))))
  (.cons (.ret (.tup (.cons (.bin .add (.idx (.var 0) (.cI 0)) (.idx (.var 1) (.cI 0))) (.cons (.bin .add (.idx (.var 0) (.cI 1)) (.bi .tuple (.cons (.var 2) .nil))) .nil))))
  .nil)))))
def b__law_part_L1 : Ss :=
  (.cons (.set 5 (.comp [6] (.name 6) (.rng2 (.idx (.var 4) (.cI 1)) (.idx (.var 4) (.cI 2))) (.some (.chain .le .lt (.var 1) (.var 6) (.var 2))) (.bin .sub (.var 6) (.var 1))))
  (.cons (.ite (.var 5) (.cons (.set 7 (.bin .add (.tup (.cons (.idx (.var 4) (.cI 0)) (.cons (.idx (.var 5) (.cI 0)) (.cons (.bin .add (.idx (.var 5) (.neg (.cI 1))) (.cI 1)) .nil)))) (.cut (.var 4) (.some (.cI 3)) .none)))
  (.cons (.set 3 (.bin .add (.var 3) (.bin .mul (.lst (.cons (.var 7) .nil)) (.bi .int (.cons (.cmp .nin (.var 7) (.var 3)) .nil)))))
  .nil)) .nil)
  .nil))
def b__law_part : Ss :=
  (.cons (.set 3 (.lst .nil))
  (.cons (.loop (.name 4) (.of (.idx (.var 0) (.cI 1))) b__law_part_L1)
  (.cons (.ret (.tup (.cons (.bin .sub (.var 2) (.var 1)) (.cons (.bi .tuple (.cons (.var 3) .nil)) .nil))))
  .nil)))
def b__law_refused_21_L1 (n__law_part_or : Nat) : Ss :=
  (.cons (.ite (.cmp .ne (.call n__law_part_or (.cons (.var 0) (.cons (.var 3) (.cons (.var 4) .nil)))) (.cS "InvalidPart")) (.cons (.ret (.cB false))
  .nil) .nil)
  .nil)
def b__law_refused_21_L2 (n__law_moved_or : Nat) : Ss :=
  (.cons (.ite (.cmp .ne (.call n__law_moved_or (.cons (.var 0) (.cons (.var 2) .nil))) (.cS "InvalidDays")) (.cons (.ret (.cB false))
  .nil) .nil)
  .nil)
def b__law_refused_21 (n__law_joined_or n__law_part_or n__law_moved_or : Nat) : Ss :=
  (.cons (.set 1 (.idx (.var 0) (.cI 0)))
  (.cons (.loop (.name 2) (.of (.lst (.cons (.neg (.cI 1)) (.cons (.cI 7) (.cons .cN (.cons (.cB true) (.cons (.cS "1") .nil))))))) (b__law_refused_21_L2 n__law_moved_or))
  (.cons (.loop (.tup [3, 4]) (.of (.lst (.cons (.tup (.cons (.cI 0) (.cons (.cI 0) .nil))) (.cons (.tup (.cons (.cI 0) (.cons (.bin .add (.var 1) (.cI 1)) .nil))) (.cons (.tup (.cons (.neg (.cI 1)) (.cons (.cI 1) .nil))) (.cons (.tup (.cons (.var 1) (.cons (.var 1) .nil))) (.cons (.tup (.cons (.cB true) (.cons (.cI 2) .nil))) (.cons (.tup (.cons (.cI 0) (.cons (.cB true) .nil))) (.cons (.tup (.cons .cN (.cons (.cI 1) .nil))) (.cons (.tup (.cons (.cI 0) (.cons .cN .nil))) .nil)))))))))) (b__law_refused_21_L1 n__law_part_or))
  (.cons (.ite (.bop false (.cons (.cmp .ne (.call n__law_moved_or (.cons (.tup (.cons (.cI 0) (.cons (.tup .nil) .nil))) (.cons (.cI 9) .nil))) (.cS "InvalidStreet")) (.cons (.cmp .ne (.call n__law_part_or (.cons .cN (.cons (.cI 9) (.cons (.cI 9) .nil)))) (.cS "InvalidStreet")) .nil))) (.cons (.ret (.cB false))
  .nil) .nil)
  (.cons (.ret (.bop true (.cons (.cmp .eq (.call n__law_joined_or (.cons (.var 0) (.cons (.tup .nil) .nil))) (.cS "InvalidStreet")) (.cons (.cmp .eq (.call n__law_joined_or (.cons (.cI 1) (.cons (.var 0) .nil))) (.cS "InvalidStreet")) .nil))))
  .nil)))))
def b__law_moved_or (x_InvalidStreet x_InvalidDays n_moved : Nat) : Ss :=
  (.cons (.tr (.cons (.ret (.call n_moved (.cons (.var 0) (.cons (.var 1) .nil))))
  .nil) [(x_InvalidStreet, "InvalidStreet"), (x_InvalidDays, "InvalidDays")])
  .nil)
def b__law_part_or (x_InvalidStreet x_InvalidPart n_part : Nat) : Ss :=
  (.cons (.tr (.cons (.ret (.call n_part (.cons (.var 0) (.cons (.var 1) (.cons (.var 2) .nil)))))
  .nil) [(x_InvalidStreet, "InvalidStreet"), (x_InvalidPart, "InvalidPart")])
  .nil)
def b__law_joined_or (x_InvalidStreet x_TooLarge n_joined : Nat) : Ss :=
  (.cons (.tr (.cons (.ret (.call n_joined (.cons (.var 0) (.cons (.var 1) .nil))))
  .nil) [(x_InvalidStreet, "InvalidStreet"), (x_TooLarge, "TooLarge")])
  .nil)
def b_law_21_L3 (n__law_same n__law_part n_part : Nat) : Ss :=
  (.cons (.ite (.not (.call n__law_same (.cons (.call n_part (.cons (.var 3) (.cons (.var 9) (.cons (.var 10) .nil)))) (.cons (.call n__law_part (.cons (.var 3) (.cons (.var 9) (.cons (.var 10) .nil)))) .nil)))) (.cons (.ret (.cB false))
  .nil) .nil)
  .nil)
def b_law_21_L2 (n__law_same n__law_part n_part : Nat) : Ss :=
  (.cons (.loop (.name 10) (.rng2 (.bin .add (.var 9) (.cI 1)) (.bin .add (.idx (.var 3) (.cI 0)) (.cI 1))) (b_law_21_L3 n__law_same n__law_part n_part))
  .nil)
def b_law_21_L5 : Ss :=
  (.cons (.app 6 (.bin .add (.bin .add (.cut (.var 7) .none (.some (.cI 3))) (.tup (.cons (.bi .tuple (.cons (.bi .sorted (.cons (.comp [8] (.name 8) (.of (.idx (.var 7) (.cI 3))) .none (.bin .mod (.bin .add (.var 8) (.var 5)) (.cI 7))) .nil)) .nil)) .nil))) (.cut (.var 7) (.some (.cI 4)) .none)))
  .nil)
def b_law_21_L4 (n__law_same n_moved : Nat) : Ss :=
  (.cons (.own 6 .nil)
  (.cons (.loop (.name 7) (.of (.idx (.var 3) (.cI 1))) b_law_21_L5)
  (.cons (.ite (.not (.call n__law_same (.cons (.call n_moved (.cons (.var 3) (.cons (.var 5) .nil))) (.cons (.tup (.cons (.idx (.var 3) (.cI 0)) (.cons (.bi .tuple (.cons (.var 6) .nil)) .nil))) .nil)))) (.cons (.ret (.cB false))
  .nil) .nil)
  .nil)))
def b_law_21_L1 (n__law_refused n__law_same n__law_joined_or n__law_part n_part n_moved n__law_street n__law_draw : Nat) : Ss :=
  (.cons (.set 3 (.call n__law_street (.cons (.var 0) (.cons (.var 1) (.cons (.bin .add (.cI 1) (.call n__law_draw (.cons (.var 0) (.cons (.var 1) (.cons (.cI 4) .nil))))) (.cons (.cI 5) .nil))))))
  (.cons (.set 4 (.call n__law_street (.cons (.var 0) (.cons (.var 1) (.cons (.bin .add (.cI 1) (.call n__law_draw (.cons (.var 0) (.cons (.var 1) (.cons (.cI 2) .nil))))) (.cons (.cI 4) .nil))))))
  (.cons (.loop (.name 5) (.rng1 (.cI 7)) (b_law_21_L4 n__law_same n_moved))
  (.cons (.loop (.name 9) (.rng1 (.idx (.var 3) (.cI 0))) (b_law_21_L2 n__law_same n__law_part n_part))
  (.cons (.set 11 (.cS "TooLarge"))
  (.cons (.ite (.bop true (.cons (.cmp .le (.bin .add (.idx (.var 3) (.cI 0)) (.idx (.var 4) (.cI 0))) (.cI 4)) (.cons (.cmp .le (.bin .add (.bi .len (.cons (.idx (.var 3) (.cI 1)) .nil)) (.bi .len (.cons (.idx (.var 4) (.cI 1)) .nil))) (.cI 6)) .nil))) (.cons (.set 6 (.comp [7] (.name 7) (.of (.idx (.var 4) (.cI 1))) .none (.bin .add (.bin .add (.cut (.var 7) .none (.some (.cI 1))) (.tup (.cons (.bin .add (.idx (.var 7) (.cI 1)) (.idx (.var 3) (.cI 0))) (.cons (.bin .add (.idx (.var 7) (.cI 2)) (.idx (.var 3) (.cI 0))) .nil)))) (.cut (.var 7) (.some (.cI 3)) .none))))
  (.cons (.set 11 (.tup (.cons (.bin .add (.idx (.var 3) (.cI 0)) (.idx (.var 4) (.cI 0))) (.cons (.bin .add (.idx (.var 3) (.cI 1)) (.bi .tuple (.cons (.var 6) .nil))) .nil))))
  .nil)) .nil)
  (.cons (.ite (.bop false (.cons (.not (.call n__law_same (.cons (.call n__law_joined_or (.cons (.var 3) (.cons (.var 4) .nil))) (.cons (.var 11) .nil)))) (.cons (.not (.call n__law_refused (.cons (.var 3) .nil))) .nil))) (.cons (.ret (.cB false))
  .nil) .nil)
  .nil)))))))
def b_law_21 (n_part n__law_refused n__law_same n__law_joined_or n__law_part n_moved n__law_street n__law_draw : Nat) : Ss :=
  (.cons (.cell 1 .nil)
  (.cons (.loop (.name 2) (.rng1 (.cI 8)) (b_law_21_L1 n__law_refused n__law_same n__law_joined_or n__law_part n_part n_moved n__law_street n__law_draw))
  (.cons (.set 7 (.tup (.cons (.cI 0) (.cons (.cI 0) (.cons (.cI 2) (.cons (.tup (.cons (.cI 0) .nil)) (.cons (.cI 8) (.cons (.cI 9) (.cons (.cS "none") (.cons (.cI 0) .nil))))))))))
  (.cons (.set 12 (.tup (.cons (.cI 2) (.cons (.tup (.cons (.var 7) (.cons (.bin .add (.bin .add (.cut (.var 7) .none (.some (.cI 1))) (.tup (.cons (.cI 1) .nil))) (.cut (.var 7) (.some (.cI 2)) .none)) .nil))) .nil))))
  (.cons (.ret (.cmp .eq (.call n_part (.cons (.var 12) (.cons (.cI 1) (.cons (.cI 2) .nil)))) (.tup (.cons (.cI 1) (.cons (.tup (.cons (.bin .add (.bin .add (.cut (.var 7) .none (.some (.cI 2))) (.tup (.cons (.cI 1) .nil))) (.cut (.var 7) (.some (.cI 3)) .none)) .nil)) .nil)))))
  .nil)))))
def b__law_holds_22_L1 (n_longest : Nat) : Ss :=
  (.cons (.ite (.cmp .ne (.call n_longest (.cons (.var 4) (.cons (.var 2) (.cons (.var 6) (.cons (.var 5) .nil))))) (.call n_longest (.cons (.var 0) (.cons (.var 2) (.cons (.var 6) (.cons (.var 3) .nil)))))) (.cons (.ret (.cB false))
  .nil) .nil)
  .nil)
def b__law_holds_22 (n_remaining n_longest n_moved n_is_street : Nat) : Ss :=
  (.cons (.set 4 (.call n_moved (.cons (.var 0) (.cons (.var 1) .nil))))
  (.cons (.ite (.bop false (.cons (.not (.call n_is_street (.cons (.var 4) .nil))) (.cons (.cmp .ne (.call n_moved (.cons (.call n_moved (.cons (.var 0) (.cons (.var 1) .nil))) (.cons (.bin .mod (.bin .sub (.cI 7) (.var 1)) (.cI 7)) .nil))) (.var 0)) .nil))) (.cons (.ret (.cB false))
  .nil) .nil)
  (.cons (.set 5 (.bin .mod (.bin .add (.var 3) (.bin .mul (.cI 24) (.var 1))) (.cI 168)))
  (.cons (.loop (.name 6) (.rng1 (.idx (.var 0) (.cI 0))) (b__law_holds_22_L1 n_longest))
  (.cons (.ret (.cmp .eq (.call n_remaining (.cons (.var 4) (.cons (.var 2) (.cons (.var 5) .nil)))) (.call n_remaining (.cons (.var 0) (.cons (.var 2) (.cons (.var 3) .nil))))))
  .nil)))))
def b__law_cuts_L1 (n_longest : Nat) : Ss :=
  (.cons (.ite (.cmp .ne (.call n_longest (.cons (.var 5) (.cons (.var 3) (.cons (.var 6) (.cons (.var 4) .nil))))) (.call n_longest (.cons (.var 0) (.cons (.var 3) (.cons (.bin .add (.var 6) (.var 1)) (.cons (.var 4) .nil)))))) (.cons (.ret (.cB false))
  .nil) .nil)
  .nil)
def b__law_cuts (n_part n_longest n_is_street : Nat) : Ss :=
  (.cons (.set 5 (.call n_part (.cons (.var 0) (.cons (.var 1) (.cons (.var 2) .nil)))))
  (.cons (.ite (.not (.call n_is_street (.cons (.var 5) .nil))) (.cons (.ret (.cB false))
  .nil) .nil)
  (.cons (.loop (.name 6) (.rng1 (.bin .sub (.var 2) (.var 1))) (b__law_cuts_L1 n_longest))
  (.cons (.ret (.cmp .eq (.call n_part (.cons (.var 0) (.cons (.cI 0) (.cons (.idx (.var 0) (.cI 0)) .nil)))) (.var 0)))
  .nil))))
def b_law_22_L1 (n_moved n_joined n_say_same n_part n__law_cuts n__law_draw n__law_holds n__law_street : Nat) : Ss :=
  (.cons (.set 3 (.call n__law_street (.cons (.var 0) (.cons (.var 1) (.cons (.bin .add (.cI 1) (.call n__law_draw (.cons (.var 0) (.cons (.var 1) (.cons (.cI 2) .nil))))) (.cons (.cI 3) .nil))))))
  (.cons (.set 4 (.call n__law_street (.cons (.var 0) (.cons (.var 1) (.cons (.bin .add (.cI 1) (.call n__law_draw (.cons (.var 0) (.cons (.var 1) (.cons (.cI 2) .nil))))) (.cons (.cI 3) .nil))))))
  (.cons (.par 5 6 (.cons (.call n__law_draw (.cons (.var 0) (.cons (.var 1) (.cons (.cI 3) .nil)))) (.cons (.call n__law_draw (.cons (.var 0) (.cons (.var 1) (.cons (.cI 168) .nil)))) .nil)))
  (.cons (.ite (.not (.call n__law_holds (.cons (.var 3) (.cons (.call n__law_draw (.cons (.var 0) (.cons (.var 1) (.cons (.cI 7) .nil)))) (.cons (.var 5) (.cons (.var 6) .nil)))))) (.cons (.ret (.cB false))
  .nil) .nil)
  (.cons (.set 7 (.call n_joined (.cons (.var 3) (.cons (.var 4) .nil))))
  (.cons (.set 8 (.call n__law_draw (.cons (.var 0) (.cons (.var 1) (.cons (.idx (.var 7) (.cI 0)) .nil)))))
  (.cons (.ite (.not (.call n__law_cuts (.cons (.var 7) (.cons (.var 8) (.cons (.bin .add (.bin .add (.var 8) (.cI 1)) (.call n__law_draw (.cons (.var 0) (.cons (.var 1) (.cons (.bin .sub (.idx (.var 7) (.cI 0)) (.var 8)) .nil))))) (.cons (.var 5) (.cons (.var 6) .nil))))))) (.cons (.ret (.cB false))
  .nil) .nil)
  (.cons (.ite (.bop false (.cons (.cmp .ne (.call n_part (.cons (.var 7) (.cons (.cI 0) (.cons (.idx (.var 3) (.cI 0)) .nil)))) (.var 3)) (.cons (.not (.call n_say_same (.cons (.call n_part (.cons (.var 7) (.cons (.idx (.var 3) (.cI 0)) (.cons (.idx (.var 7) (.cI 0)) .nil)))) (.cons (.var 4) .nil)))) .nil))) (.cons (.ret (.cB false))
  .nil) .nil)
  (.cons (.ite (.cmp .ne (.call n_moved (.cons (.var 7) (.cons (.cI 3) .nil))) (.call n_joined (.cons (.call n_moved (.cons (.var 3) (.cons (.cI 3) .nil))) (.cons (.call n_moved (.cons (.var 4) (.cons (.cI 3) .nil))) .nil)))) (.cons (.ret (.cB false))
  .nil) .nil)
  .nil)))))))))
def b_law_22 (n_moved n_joined n_say_same n_part n__law_cuts n__law_draw n__law_holds n__law_street : Nat) : Ss :=
  (.cons (.cell 1 .nil)
  (.cons (.loop (.name 2) (.rng1 (.cI 5)) (b_law_22_L1 n_moved n_joined n_say_same n_part n__law_cuts n__law_draw n__law_holds n__law_street))
  (.cons (.ret (.cB true))
  .nil)))
def b__wall_L1 : Ss :=
  (.cons .pass
  .nil)
def b__wall : Ss :=
  (.cons (.whl 1000000 (.cB true) b__wall_L1)
  .nil)
def b__law_due : Ss :=
  (.cons (.ite (.cmp .inn (.var 1) (.var 0)) (.cons (.ret (.cS "Repeated"))
  .nil) .nil)
  (.cons (.ret (.ite (.cmp .eq (.bi .len (.cons (.var 0) .nil)) (.cI 6)) (.cS "TooLarge") (.bin .add (.bi .len (.cons (.var 0) .nil)) (.cI 1))))
  .nil))
def b__law_refused_23_L1 (n__law_take_down_or : Nat) : Ss :=
  (.cons (.ite (.cmp .ne (.call n__law_take_down_or (.cons (.var 0) (.cons (.var 5) .nil))) (.cS "InvalidIndex")) (.cons (.ret (.cB false))
  .nil) .nil)
  .nil)
def b__law_refused_23_L2 (n__law_put_up_or : Nat) : Ss :=
  (.cons (.ite (.cmp .ne (.call n__law_put_up_or (.cons (.var 0) (.cons (.var 5) .nil))) (.cS "InvalidSign")) (.cons (.ret (.cB false))
  .nil) .nil)
  .nil)
def b__law_refused_23 (n__law_take_down_or n__law_put_up_or : Nat) : Ss :=
  (.cons (.set 3 (.tup (.cons (.cI 0) (.cons (.cI 0) (.cons (.cI 1) (.cons (.tup (.cons (.cI 0) .nil)) (.cons (.cI 8) (.cons (.cI 9) (.cons (.cS "none") (.cons (.cI 0) .nil))))))))))
  (.cons (.set 4 (.lst (.cons .cN (.cons (.tup .nil) (.cons (.cut (.var 3) .none (.some (.cI 7))) (.cons (.bin .add (.bin .add (.cut (.var 3) .none (.some (.cI 2))) (.tup (.cons (.bin .add (.var 1) (.cI 1)) .nil))) (.cut (.var 3) (.some (.cI 3)) .none)) (.cons (.bin .add (.tup (.cons (.cI 4) .nil)) (.cut (.var 3) (.some (.cI 1)) .none)) .nil)))))))
  (.cons (.loop (.name 5) (.of (.bin .add (.var 4) (.lst (.cons (.bi .list (.cons (.var 3) .nil)) (.cons (.bin .add (.cut (.var 3) .none (.some (.cI 6))) (.tup (.cons (.cS "off") (.cons (.cI 0) .nil)))) .nil))))) (b__law_refused_23_L2 n__law_put_up_or))
  (.cons (.loop (.name 5) (.of (.lst (.cons (.neg (.cI 1)) (.cons (.bi .len (.cons (.var 2) .nil)) (.cons .cN (.cons (.cB true) (.cons (.cS "0") .nil))))))) (b__law_refused_23_L1 n__law_take_down_or))
  (.cons (.ret (.cB true))
  .nil)))))
def b_format_street (n_street_text n_require_street : Nat) : Ss :=
  (.cons (.expr (.call n_require_street (.cons (.var 0) .nil)))
  (.cons (.ret (.call n_street_text (.cons (.var 0) .nil)))
  .nil))
def b__law_format_street_or (x_InvalidStreet n_format_street : Nat) : Ss :=
  (.cons (.tr (.cons (.ret (.call n_format_street (.cons (.var 0) .nil)))
  .nil) [(x_InvalidStreet, "InvalidStreet")])
  .nil)
def b_parse_number (x_ParseError : Nat) : Ss :=
  (.cons (.ite (.bop false (.cons (.not (.chain .le .le (.cI 1) (.bi .len (.cons (.var 0) .nil)) (.cI 2))) (.cons (.not (.bi .all (.cons (.comp [1] (.name 1) (.of (.var 0)) .none (.chain .le .le (.cS "0") (.var 1) (.cS "9"))) .nil))) .nil))) (.cons (.raise x_ParseError)
  .nil) .nil)
  (.cons (.ret (.bi .int (.cons (.var 0) .nil)))
  .nil))
def b__law_parse_street_or (x_ParseError n_parse_street : Nat) : Ss :=
  (.cons (.tr (.cons (.ret (.call n_parse_street (.cons (.var 0) .nil)))
  .nil) [(x_ParseError, "ParseError")])
  .nil)
def b_law_26_L2 (n_format_street n__law_parse_street_or n__law_spoiled : Nat) : Ss :=
  (.cons (.set 7 (.call n__law_spoiled (.cons (.var 0) (.cons (.var 1) (.cons (.var 5) (.cons (.var 2) .nil))))))
  (.cons (.set 8 (.call n__law_parse_street_or (.cons (.var 7) .nil)))
  (.cons (.ite (.isi .tuple (.var 8)) (.cons (.ite (.cmp .ne (.call n_format_street (.cons (.var 8) .nil)) (.var 7)) (.cons (.ret (.cB false))
  .nil) .nil)
  .nil) (.cons (.ite (.bop false (.cons (.cmp .ne (.var 8) (.cS "ParseError")) (.cons (.cmp .eq (.var 7) (.var 5)) .nil))) (.cons (.ret (.cB false))
  .nil) .nil)
  .nil))
  .nil)))
def b_law_26_L1 (n_format_street n__law_parse_street_or n__law_spoiled n__law_refused n__law_same n_parse_street n__law_street n__law_draw : Nat) : Ss :=
  (.cons (.set 4 (.call n__law_street (.cons (.var 0) (.cons (.var 1) (.cons (.bin .add (.cI 1) (.call n__law_draw (.cons (.var 0) (.cons (.var 1) (.cons (.cI 4) .nil))))) (.cons (.cI 4) .nil))))))
  (.cons (.set 5 (.call n_format_street (.cons (.var 4) .nil)))
  (.cons (.ite (.bop false (.cons (.not (.call n__law_same (.cons (.call n_parse_street (.cons (.var 5) .nil)) (.cons (.var 4) .nil)))) (.cons (.not (.call n__law_refused (.cons (.var 5) .nil))) .nil))) (.cons (.ret (.cB false))
  .nil) .nil)
  (.cons (.loop (.name 6) (.rng1 (.cI 6)) (b_law_26_L2 n_format_street n__law_parse_street_or n__law_spoiled))
  .nil))))
def b_law_26 (n_format_street n__law_parse_street_or n__law_spoiled n__law_refused n__law_same n_parse_street n__law_street n__law_draw : Nat) : Ss :=
  (.cons (.cell 1 .nil)
  (.cons (.set 2 (.lst (.cons (.cS "0") (.cons (.cS "1") (.cons (.cS "2") (.cons (.cS "4") (.cons (.cS " ") (.cons (.cS "\n") (.cons (.cS "-") (.cons (.cS "only") (.cons (.cS "limit") (.cons (.cS "none") (.cons (.cS "free") (.cons (.cS "01") (.cons (.cS "a") (.cons (.cS "9") (.cons (.cS "  ") (.cons (.cS " 1") (.cons (.cS "24") .nil)))))))))))))))))))
  (.cons (.loop (.name 3) (.rng1 (.cI 8)) (b_law_26_L1 n_format_street n__law_parse_street_or n__law_spoiled n__law_refused n__law_same n_parse_street n__law_street n__law_draw))
  (.cons (.ret (.cB true))
  .nil))))
def b_is_stay_L1 (n_find_kinds n_find_limit : Nat) : Ss :=
  (.cons (.set 6 (.bin .mod (.bin .add (.var 3) (.var 5)) (.cI 168)))
  (.cons (.set 7 (.call n_find_limit (.cons (.var 0) (.cons (.var 2) (.cons (.var 6) .nil)))))
  (.cons (.ite (.bop false (.cons (.cmp .nin (.var 1) (.call n_find_kinds (.cons (.var 0) (.cons (.var 2) (.cons (.var 6) .nil))))) (.cons (.bop true (.cons (.notN (.var 7)) (.cons (.cmp .lt (.var 7) (.var 4)) .nil))) .nil))) (.cons (.ret (.cB false))
  .nil) .nil)
  .nil)))
def b_is_stay (n_find_kinds n_find_limit : Nat) : Ss :=
  (.cons (.loop (.name 5) (.rng1 (.var 4)) (b_is_stay_L1 n_find_kinds n_find_limit))
  (.cons (.ret (.cB true))
  .nil))
def b_naive_longest (n_is_stay n_require_hour n_require_car : Nat) : Ss :=
  (.cons (.expr (.call n_require_car (.cons (.var 0) (.cons (.var 1) (.cons (.var 2) .nil)))))
  (.cons (.expr (.call n_require_hour (.cons (.var 3) .nil)))
  (.cons (.ret (.bi .max (.cons (.bin .add (.lst (.cons (.cI 0) .nil)) (.comp [4] (.name 4) (.rng2 (.cI 1) (.cI 169)) (.some (.call n_is_stay (.cons (.var 0) (.cons (.var 1) (.cons (.var 2) (.cons (.var 3) (.cons (.var 4) .nil))))))) (.var 4))) .nil)))
  .nil)))
def b_naive_fewest_stays_L4 (n_is_stay : Nat) : Ss :=
  (.cons (.ite (.bop true (.cons (.cmp .ne (.var 10) (.var 8)) (.cons (.call n_is_stay (.cons (.var 0) (.cons (.var 1) (.cons (.var 10) (.cons (.bin .mod (.bin .add (.var 2) (.var 7)) (.cI 168)) (.cons (.var 11) .nil)))))) .nil))) (.cons (.app 6 (.tup (.cons (.bin .add (.var 7) (.var 11)) (.cons (.var 10) (.cons (.bin .add (.var 9) (.cI 1)) .nil)))))
  .nil) .nil)
  .nil)
def b_naive_fewest_stays_L3 (n_is_stay : Nat) : Ss :=
  (.cons (.loop (.name 11) (.rng2 (.cI 1) (.bin .add (.bin .sub (.var 3) (.var 7)) (.cI 1))) (b_naive_fewest_stays_L4 n_is_stay))
  .nil)
def b_naive_fewest_stays_L2 (n_is_stay : Nat) : Ss :=
  (.cons (.loop (.name 10) (.rng1 (.idx (.var 0) (.cI 0))) (b_naive_fewest_stays_L3 n_is_stay))
  .nil)
def b_naive_fewest_stays_L1 (n_is_stay : Nat) : Ss :=
  (.cons (.own 6 .nil)
  (.cons (.loop (.tup [7, 8, 9]) (.of (.var 4)) (b_naive_fewest_stays_L2 n_is_stay))
  (.cons (.ext 5 (.comp [7, 8, 9] (.tup [7, 8, 9]) (.of (.var 6)) (.some (.cmp .eq (.var 7) (.var 3))) (.var 9)))
  (.cons (.set 4 (.comp [12] (.name 12) (.of (.var 6)) (.some (.cmp .lt (.idx (.var 12) (.cI 0)) (.var 3))) (.var 12)))
  .nil))))
def b_naive_fewest_stays (n_is_stay x_TooLarge n_require_plan : Nat) : Ss :=
  (.cons (.expr (.call n_require_plan (.cons (.var 0) (.cons (.var 1) (.cons (.var 2) (.cons (.var 3) .nil))))))
  (.cons (.ite (.cmp .gt (.var 3) (.cI 4)) (.cons (.raise x_TooLarge)
  .nil) .nil)
  (.cons (.par 4 5 (.cons (.lst (.cons (.tup (.cons (.cI 0) (.cons (.neg (.cI 1)) (.cons (.cI 0) .nil)))) .nil)) (.cons (.lst .nil) .nil)))
  (.cons (.whl 1000000 (.var 4) (b_naive_fewest_stays_L1 n_is_stay))
  (.cons (.ret (.ite (.var 5) (.bi .min (.cons (.var 5) .nil)) .cN))
  .nil)))))
def b__law_fewest_L3 (n__law_run : Nat) : Ss :=
  (.cons (.ite (.cmp .ne (.var 9) (.var 7)) (.cons (.set 10 (.bi .min (.cons (.bin .sub (.var 3) (.var 6)) (.cons (.call n__law_run (.cons (.idx (.var 0) (.var 9)) (.cons (.var 1) (.cons (.bin .mod (.bin .add (.var 2) (.var 6)) (.cI 168)) .nil)))) .nil))))
  .nil) (.cons (.set 10 (.cI 0))
  .nil))
  (.cons (.set 8 (.bin .add (.var 8) (.comp [11] (.name 11) (.rng2 (.cI 1) (.bin .add (.var 10) (.cI 1))) .none (.tup (.cons (.bin .add (.var 6) (.var 11)) (.cons (.var 9) .nil))))))
  .nil))
def b__law_fewest_L2 (n__law_run : Nat) : Ss :=
  (.cons (.loop (.name 9) (.rng1 (.bi .len (.cons (.var 0) .nil))) (b__law_fewest_L3 n__law_run))
  .nil)
def b__law_fewest_L1 (n__law_run : Nat) : Ss :=
  (.cons (.ite (.comp [6, 7] (.tup [6, 7]) (.of (.var 4)) (.some (.cmp .eq (.var 6) (.var 3))) (.cI 1)) (.cons (.ret (.var 5))
  .nil) .nil)
  (.cons (.set 8 (.lst .nil))
  (.cons (.loop (.tup [6, 7]) (.of (.var 4)) (b__law_fewest_L2 n__law_run))
  (.cons (.par 4 5 (.cons (.var 8) (.cons (.bin .add (.var 5) (.cI 1)) .nil)))
  .nil))))
def b__law_fewest (n__law_run : Nat) : Ss :=
  (.cons (.par 4 5 (.cons (.lst (.cons (.tup (.cons (.cI 0) (.cons (.neg (.cI 1)) .nil))) .nil)) (.cons (.cI 0) .nil)))
  (.cons (.whl 1000000 (.var 4) (b__law_fewest_L1 n__law_run))
  (.cons (.ret .cN)
  .nil)))
def b__law_naive_fewest_stays_or (x_InvalidStreet x_InvalidKind x_InvalidHour x_InvalidHours x_TooLarge n_naive_fewest_stays : Nat) : Ss :=
  (.cons (.tr (.cons (.ret (.call n_naive_fewest_stays (.cons (.var 0) (.cons (.var 1) (.cons (.var 2) (.cons (.var 3) .nil))))))
  .nil) [(x_InvalidStreet, "InvalidStreet"), (x_InvalidKind, "InvalidKind"), (x_InvalidHour, "InvalidHour"), (x_InvalidHours, "InvalidHours"), (x_TooLarge, "TooLarge")])
  .nil)
def b__law_naive_longest_or (x_InvalidStreet x_InvalidKind x_InvalidPlace x_InvalidHour n_naive_longest : Nat) : Ss :=
  (.cons (.tr (.cons (.ret (.call n_naive_longest (.cons (.var 0) (.cons (.var 1) (.cons (.var 2) (.cons (.var 3) .nil))))))
  .nil) [(x_InvalidStreet, "InvalidStreet"), (x_InvalidKind, "InvalidKind"), (x_InvalidPlace, "InvalidPlace"), (x_InvalidHour, "InvalidHour")])
  .nil)
def b_law_28_L3 (n_naive_fewest_stays n_fewest_stays : Nat) : Ss :=
  (.cons (.ite (.cmp .ne (.call n_naive_fewest_stays (.cons (.var 4) (.cons (.var 6) (.cons (.var 8) (.cons (.var 9) .nil))))) (.call n_fewest_stays (.cons (.var 4) (.cons (.var 6) (.cons (.var 8) (.cons (.var 9) .nil)))))) (.cons (.ret (.cB false))
  .nil) .nil)
  .nil)
def b_law_28_L2 (n_naive_fewest_stays n_fewest_stays n_naive_longest n_longest n__law_draw : Nat) : Ss :=
  (.cons (.set 6 (.call n__law_draw (.cons (.var 0) (.cons (.var 1) (.cons (.cI 3) .nil)))))
  (.cons (.set 7 (.call n__law_draw (.cons (.var 0) (.cons (.var 1) (.cons (.var 3) .nil)))))
  (.cons (.set 8 (.call n__law_draw (.cons (.var 0) (.cons (.var 1) (.cons (.cI 168) .nil)))))
  (.cons (.ite (.cmp .ne (.call n_naive_longest (.cons (.var 4) (.cons (.var 6) (.cons (.var 7) (.cons (.var 8) .nil))))) (.call n_longest (.cons (.var 4) (.cons (.var 6) (.cons (.var 7) (.cons (.var 8) .nil)))))) (.cons (.ret (.cB false))
  .nil) .nil)
  (.cons (.loop (.name 9) (.rng2 (.cI 1) (.cI 5)) (b_law_28_L3 n_naive_fewest_stays n_fewest_stays))
  .nil)))))
def b_law_28_L1 (n_naive_fewest_stays n_fewest_stays n_naive_longest n_longest n__law_draw n__law_busy n__law_street : Nat) : Ss :=
  (.cons (.set 3 (.bin .add (.cI 1) (.call n__law_draw (.cons (.var 0) (.cons (.var 1) (.cons (.cI 3) .nil))))))
  (.cons (.set 4 (.ite (.bin .mod (.var 2) (.cI 2)) (.call n__law_busy (.cons (.var 0) (.cons (.var 1) (.cons (.var 3) .nil)))) (.call n__law_street (.cons (.var 0) (.cons (.var 1) (.cons (.var 3) (.cons (.cI 4) .nil)))))))
  (.cons (.loop (.name 5) (.rng1 (.cI 2)) (b_law_28_L2 n_naive_fewest_stays n_fewest_stays n_naive_longest n_longest n__law_draw))
  .nil)))
def b_law_28 (n_naive_fewest_stays n_fewest_stays n_naive_longest n_longest n__law_draw n__law_busy n__law_street : Nat) : Ss :=
  (.cons (.cell 1 .nil)
  (.cons (.loop (.name 2) (.rng1 (.cI 5)) (b_law_28_L1 n_naive_fewest_stays n_fewest_stays n_naive_longest n_longest n__law_draw n__law_busy n__law_street))
  (.cons (.ret (.cB true))
  .nil)))
def b__law_of_streets (n__law_naive_longest_or n__law_format_street_or n__law_joined_or n__law_part_or n__law_moved_or n__law_best_parking_or n__law_park_or n__law_remaining_or n__law_best_plan_or n__law_soonest_or n__law_best_place_or n__law_first_place_or n__law_never_counting_or n__law_clashes_or n__law_reduced_or n__law_difference_or n__law_best_hour_or n__law_longest_or n__law_is_allowed_or n__law_kinds_at_or n__law_may_stand_or n__law_counting_or : Nat) : Ss :=
  (.cons (.set 2 (.lst (.cons (.call n__law_counting_or (.cons (.var 0) (.cons (.cI 9) (.cons (.cI 999) .nil)))) (.cons (.call n__law_may_stand_or (.cons (.var 0) (.cons (.cI 9) (.cons (.cI 9) (.cons (.cI 999) .nil))))) (.cons (.call n__law_kinds_at_or (.cons (.var 0) (.cons (.cI 9) (.cons (.cI 999) .nil)))) .nil)))))
  (.cons (.set 2 (.bin .add (.var 2) (.lst (.cons (.call n__law_is_allowed_or (.cons (.var 0) (.cons (.cI 9) (.cons (.cI 9) (.cons (.cI 999) (.cons (.cI 0) .nil)))))) (.cons (.call n__law_longest_or (.cons (.var 0) (.cons (.cI 9) (.cons (.cI 9) (.cons (.cI 999) .nil))))) .nil)))))
  (.cons (.set 2 (.bin .add (.var 2) (.lst (.cons (.call n__law_best_hour_or (.cons (.var 0) (.cons (.cI 9) (.cons (.cI 9) .nil)))) .nil))))
  (.cons (.set 2 (.bin .add (.var 2) (.lst (.cons (.call n__law_difference_or (.cons (.var 0) (.cons (.var 1) .nil))) (.cons (.call n__law_difference_or (.cons (.var 1) (.cons (.var 0) .nil))) (.cons (.call n__law_reduced_or (.cons (.var 0) .nil)) .nil))))))
  (.cons (.set 2 (.bin .add (.var 2) (.lst (.cons (.call n__law_clashes_or (.cons (.var 0) .nil)) (.cons (.call n__law_never_counting_or (.cons (.var 0) .nil)) (.cons (.call n__law_first_place_or (.cons (.var 0) (.cons (.cI 9) (.cons (.cI 999) (.cons (.cI 0) .nil))))) .nil))))))
  (.cons (.set 2 (.bin .add (.var 2) (.lst (.cons (.call n__law_best_place_or (.cons (.var 0) (.cons (.cI 9) (.cons (.cI 999) .nil)))) (.cons (.call n__law_soonest_or (.cons (.var 0) (.cons (.cI 9) (.cons (.cI 999) (.cons (.cI 0) .nil))))) .nil)))))
  (.cons (.set 2 (.bin .add (.var 2) (.lst (.cons (.call n__law_best_plan_or (.cons (.var 0) (.cons (.cI 9) (.cons (.cI 999) (.cons (.cI 0) .nil))))) .nil))))
  (.cons (.set 2 (.bin .add (.var 2) (.lst (.cons (.call n__law_remaining_or (.cons (.var 0) (.cons (.cI 9) (.cons (.cI 999) .nil)))) (.cons (.call n__law_park_or (.cons (.var 0) (.cons (.cI 1) .nil))) (.cons (.call n__law_best_parking_or (.cons (.var 0) (.cons (.cI 1) .nil))) .nil))))))
  (.cons (.set 2 (.bin .add (.var 2) (.lst (.cons (.call n__law_moved_or (.cons (.var 0) (.cons (.cI 9) .nil))) (.cons (.call n__law_part_or (.cons (.var 0) (.cons (.cI 9) (.cons (.cI 9) .nil)))) (.cons (.call n__law_joined_or (.cons (.var 1) (.cons (.var 0) .nil))) .nil))))))
  (.cons (.ret (.bin .add (.var 2) (.lst (.cons (.call n__law_format_street_or (.cons (.var 0) .nil)) (.cons (.call n__law_naive_longest_or (.cons (.var 0) (.cons (.cI 9) (.cons (.cI 9) (.cons (.cI 999) .nil))))) .nil)))))
  .nil))))))))))
def b__law_of_kinds (n__law_naive_longest_or n__law_remaining_or n__law_best_plan_or n__law_soonest_or n__law_best_place_or n__law_first_place_or n__law_best_hour_or n__law_longest_or n__law_is_allowed_or n__law_may_stand_or : Nat) : Ss :=
  (.cons (.set 2 (.lst (.cons (.call n__law_may_stand_or (.cons (.var 0) (.cons (.var 1) (.cons (.cI 9) (.cons (.cI 999) .nil))))) (.cons (.call n__law_is_allowed_or (.cons (.var 0) (.cons (.var 1) (.cons (.cI 9) (.cons (.cI 999) (.cons (.cI 0) .nil)))))) .nil))))
  (.cons (.set 2 (.bin .add (.var 2) (.lst (.cons (.call n__law_longest_or (.cons (.var 0) (.cons (.var 1) (.cons (.cI 9) (.cons (.cI 999) .nil))))) (.cons (.call n__law_best_hour_or (.cons (.var 0) (.cons (.var 1) (.cons (.cI 9) .nil)))) .nil)))))
  (.cons (.set 2 (.bin .add (.var 2) (.lst (.cons (.call n__law_first_place_or (.cons (.var 0) (.cons (.var 1) (.cons (.cI 999) (.cons (.cI 0) .nil))))) (.cons (.call n__law_best_place_or (.cons (.var 0) (.cons (.var 1) (.cons (.cI 999) .nil)))) .nil)))))
  (.cons (.set 2 (.bin .add (.var 2) (.lst (.cons (.call n__law_soonest_or (.cons (.var 0) (.cons (.var 1) (.cons (.cI 999) (.cons (.cI 0) .nil))))) (.cons (.call n__law_best_plan_or (.cons (.var 0) (.cons (.var 1) (.cons (.cI 999) (.cons (.cI 0) .nil))))) .nil)))))
  (.cons (.ret (.bin .add (.var 2) (.lst (.cons (.call n__law_remaining_or (.cons (.var 0) (.cons (.var 1) (.cons (.cI 999) .nil)))) (.cons (.call n__law_naive_longest_or (.cons (.var 0) (.cons (.var 1) (.cons (.cI 9) (.cons (.cI 999) .nil))))) .nil)))))
  .nil)))))
def b__law_turned : Ss :=
  (.cons (.ret (.tup (.cons (.idx (.var 0) (.cI 0)) (.cons (.bi .tuple (.cons (.comp [2] (.name 2) (.of (.var 1)) .none (.idx (.idx (.var 0) (.cI 1)) (.var 2))) .nil)) .nil))))
  .nil)
def b__law_exswapped_L1 : Ss :=
  (.cons (.app 2 (.ite (.cmp .eq (.idx (.var 3) (.cI 6)) (.cS "only")) (.bin .add (.cut (.var 3) .none (.some (.cI 7))) (.tup (.cons (.idx (.var 1) (.idx (.var 3) (.cI 7))) .nil))) (.var 3)))
  .nil)
def b__law_exswapped : Ss :=
  (.cons (.own 2 .nil)
  (.cons (.loop (.name 3) (.of (.idx (.var 0) (.cI 1))) b__law_exswapped_L1)
  (.cons (.ret (.tup (.cons (.idx (.var 0) (.cI 0)) (.cons (.bi .tuple (.cons (.var 2) .nil)) .nil))))
  .nil)))
def b__law_by_places (n_count_hours n_best_hour n_is_allowed n_naive_longest n_longest n_may_stand n_limit n_kinds_at n_counting n_holding : Nat) : Ss :=
  (.cons (.ite (.cmp .eq (.var 0) (.cI 0)) (.cons (.ret (.call n_holding (.cons (.var 1) (.cons (.var 3) (.cons (.var 4) .nil)))))
  .nil) .nil)
  (.cons (.ite (.cmp .eq (.var 0) (.cI 1)) (.cons (.ret (.call n_counting (.cons (.var 1) (.cons (.var 3) (.cons (.var 4) .nil)))))
  .nil) .nil)
  (.cons (.ite (.cmp .eq (.var 0) (.cI 2)) (.cons (.ret (.call n_kinds_at (.cons (.var 1) (.cons (.var 3) (.cons (.var 4) .nil)))))
  .nil) .nil)
  (.cons (.ite (.cmp .eq (.var 0) (.cI 3)) (.cons (.ret (.call n_limit (.cons (.var 1) (.cons (.var 3) (.cons (.var 4) .nil)))))
  .nil) .nil)
  (.cons (.ite (.cmp .eq (.var 0) (.cI 4)) (.cons (.ret (.call n_may_stand (.cons (.var 1) (.cons (.var 2) (.cons (.var 3) (.cons (.var 4) .nil))))))
  .nil) .nil)
  (.cons (.ite (.cmp .eq (.var 0) (.cI 5)) (.cons (.ret (.call n_longest (.cons (.var 1) (.cons (.var 2) (.cons (.var 3) (.cons (.var 4) .nil))))))
  .nil) .nil)
  (.cons (.ite (.cmp .eq (.var 0) (.cI 6)) (.cons (.ret (.call n_naive_longest (.cons (.var 1) (.cons (.var 2) (.cons (.var 3) (.cons (.var 4) .nil))))))
  .nil) .nil)
  (.cons (.ite (.cmp .eq (.var 0) (.cI 7)) (.cons (.ret (.call n_is_allowed (.cons (.var 1) (.cons (.var 2) (.cons (.var 3) (.cons (.var 4) (.cons (.var 5) .nil)))))))
  .nil) .nil)
  (.cons (.ite (.cmp .eq (.var 0) (.cI 8)) (.cons (.ret (.call n_best_hour (.cons (.var 1) (.cons (.var 2) (.cons (.var 3) .nil)))))
  .nil) .nil)
  (.cons (.ret (.call n_count_hours (.cons (.var 1) (.cons (.var 2) (.cons (.var 3) .nil)))))
  .nil))))))))))
def b__law_by_hours (n_naive_fewest_stays n_best_plan n_fewest_stays n_soonest n_first_place n_remaining n_best_place : Nat) : Ss :=
  (.cons (.ite (.cmp .eq (.var 0) (.cI 0)) (.cons (.ret (.call n_best_place (.cons (.var 1) (.cons (.var 2) (.cons (.var 3) .nil)))))
  .nil) .nil)
  (.cons (.ite (.cmp .eq (.var 0) (.cI 1)) (.cons (.ret (.call n_remaining (.cons (.var 1) (.cons (.var 2) (.cons (.var 3) .nil)))))
  .nil) .nil)
  (.cons (.ite (.cmp .eq (.var 0) (.cI 2)) (.cons (.ret (.call n_first_place (.cons (.var 1) (.cons (.var 2) (.cons (.var 3) (.cons (.var 4) .nil))))))
  .nil) .nil)
  (.cons (.ite (.cmp .eq (.var 0) (.cI 3)) (.cons (.ret (.call n_soonest (.cons (.var 1) (.cons (.var 2) (.cons (.var 3) (.cons (.var 4) .nil))))))
  .nil) .nil)
  (.cons (.ite (.cmp .eq (.var 0) (.cI 4)) (.cons (.ret (.call n_fewest_stays (.cons (.var 1) (.cons (.var 2) (.cons (.var 3) (.cons (.var 4) .nil))))))
  .nil) .nil)
  (.cons (.ite (.cmp .eq (.var 0) (.cI 5)) (.cons (.ret (.call n_best_plan (.cons (.var 1) (.cons (.var 2) (.cons (.var 3) (.cons (.var 4) .nil))))))
  .nil) .nil)
  (.cons (.ret (.call n_naive_fewest_stays (.cons (.var 1) (.cons (.var 2) (.cons (.var 3) (.cons (.var 4) .nil))))))
  .nil)))))))
def b__law_by_streets (n_best_parking n_most_parked n_park n_moved n_part n_format_street n_never_counting n_first_clash n_clashes n_reduced n_needless n_joined n_difference n_say_same : Nat) : Ss :=
  (.cons (.ite (.cmp .eq (.var 0) (.cI 0)) (.cons (.ret (.call n_say_same (.cons (.var 1) (.cons (.var 2) .nil))))
  .nil) .nil)
  (.cons (.ite (.cmp .eq (.var 0) (.cI 1)) (.cons (.ret (.call n_difference (.cons (.var 1) (.cons (.var 2) .nil))))
  .nil) .nil)
  (.cons (.ite (.cmp .eq (.var 0) (.cI 2)) (.cons (.ret (.call n_joined (.cons (.var 1) (.cons (.var 2) .nil))))
  .nil) .nil)
  (.cons (.ite (.cmp .eq (.var 0) (.cI 3)) (.cons (.ret (.call n_needless (.cons (.var 1) .nil)))
  .nil) .nil)
  (.cons (.ite (.cmp .eq (.var 0) (.cI 4)) (.cons (.ret (.call n_reduced (.cons (.var 1) .nil)))
  .nil) .nil)
  (.cons (.ite (.cmp .eq (.var 0) (.cI 5)) (.cons (.ret (.call n_clashes (.cons (.var 1) .nil)))
  .nil) .nil)
  (.cons (.ite (.cmp .eq (.var 0) (.cI 6)) (.cons (.ret (.call n_first_clash (.cons (.var 1) .nil)))
  .nil) .nil)
  (.cons (.ite (.cmp .eq (.var 0) (.cI 7)) (.cons (.ret (.call n_never_counting (.cons (.var 1) .nil)))
  .nil) .nil)
  (.cons (.ite (.cmp .eq (.var 0) (.cI 8)) (.cons (.ret (.call n_format_street (.cons (.var 1) .nil)))
  .nil) .nil)
  (.cons (.ite (.cmp .eq (.var 0) (.cI 9)) (.cons (.ret (.call n_part (.cons (.var 1) (.cons (.cI 0) (.cons (.var 2) .nil)))))
  .nil) .nil)
  (.cons (.ite (.cmp .eq (.var 0) (.cI 10)) (.cons (.ret (.call n_moved (.cons (.var 1) (.cons (.var 2) .nil))))
  .nil) .nil)
  (.cons (.ite (.cmp .eq (.var 0) (.cI 11)) (.cons (.ret (.call n_park (.cons (.var 1) (.cons (.var 2) .nil))))
  .nil) .nil)
  (.cons (.ite (.cmp .eq (.var 0) (.cI 12)) (.cons (.ret (.call n_most_parked (.cons (.var 1) (.cons (.var 2) .nil))))
  .nil) .nil)
  (.cons (.ret (.call n_best_parking (.cons (.var 1) (.cons (.var 2) .nil))))
  .nil))))))))))))))
def b__law_told (n__law_by_streets n__law_by_hours n__law_by_places : Nat) : Ss :=
  (.cons (.ite (.cmp .eq (.var 0) (.cI 0)) (.cons (.ret (.call n__law_by_places (.cons (.var 1) (.cons (.var 2) (.cons (.var 3) (.cons (.var 4) (.cons (.var 5) (.cons (.var 6) .nil))))))))
  .nil) .nil)
  (.cons (.ite (.cmp .eq (.var 0) (.cI 1)) (.cons (.ret (.call n__law_by_hours (.cons (.var 1) (.cons (.var 2) (.cons (.var 3) (.cons (.var 5) (.cons (.var 6) .nil)))))))
  .nil) .nil)
  (.cons (.ret (.call n__law_by_streets (.cons (.var 1) (.cons (.var 2) (.cons (.var 3) .nil)))))
  .nil)))
def b__law_told_or (x_InvalidStreet x_InvalidKind x_InvalidPlace x_InvalidHour x_InvalidHours x_InvalidCars x_InvalidDays x_InvalidPart n__law_told : Nat) : Ss :=
  (.cons (.tr (.cons (.ret (.call n__law_told (.cons (.var 0) (.cons (.var 1) (.cons (.var 2) (.cons (.var 3) (.cons (.var 4) (.cons (.var 5) (.cons (.var 6) .nil)))))))))
  .nil) [(x_InvalidStreet, "InvalidStreet"), (x_InvalidKind, "InvalidKind"), (x_InvalidPlace, "InvalidPlace"), (x_InvalidHour, "InvalidHour"), (x_InvalidHours, "InvalidHours"), (x_InvalidCars, "InvalidCars"), (x_InvalidDays, "InvalidDays"), (x_InvalidPart, "InvalidPart")])
  .nil)
def b__law_all_L1 (n__law_told_or : Nat) : Ss :=
  (.cons (.ite (.cmp .ne (.call n__law_told_or (.cons (.var 1) (.cons (.var 8) (.cons (.var 2) (.cons (.var 3) (.cons (.var 4) (.cons (.var 5) (.cons (.var 6) .nil)))))))) (.var 7)) (.cons (.ret (.cB false))
  .nil) .nil)
  .nil)
def b__law_all (n__law_told_or : Nat) : Ss :=
  (.cons (.loop (.name 8) (.of (.var 0)) (b__law_all_L1 n__law_told_or))
  (.cons (.ret (.cB true))
  .nil))
def b__law_no_sign (n__law_pick n__law_draw : Nat) : Ss :=
  (.cons (.unp (.tup [4, 5, 6, 7, 8, 9, 10, 11]) (.var 2))
  (.cons (.set 12 (.call n__law_draw (.cons (.var 0) (.cons (.var 1) (.cons (.cI 8) .nil)))))
  (.cons (.ite (.cmp .eq (.var 12) (.cI 0)) (.cons (.ret (.tup (.cons (.call n__law_pick (.cons (.var 0) (.cons (.var 1) (.cons (.lst (.cons (.cI 4) (.cons (.neg (.cI 1)) (.cons (.cB true) (.cons .cN .nil))))) .nil)))) (.cons (.var 5) (.cons (.var 6) (.cons (.var 7) (.cons (.var 8) (.cons (.var 9) (.cons (.var 10) (.cons (.var 11) .nil))))))))))
  .nil) .nil)
  (.cons (.ite (.cmp .eq (.var 12) (.cI 1)) (.cons (.ret (.tup (.cons (.var 4) (.cons (.call n__law_pick (.cons (.var 0) (.cons (.var 1) (.cons (.lst (.cons (.neg (.cI 1)) (.cons (.var 6) (.cons .cN .nil)))) .nil)))) (.cons (.var 6) (.cons (.var 7) (.cons (.var 8) (.cons (.var 9) (.cons (.var 10) (.cons (.var 11) .nil))))))))))
  .nil) .nil)
  (.cons (.ite (.cmp .eq (.var 12) (.cI 2)) (.cons (.ret (.tup (.cons (.var 4) (.cons (.var 5) (.cons (.call n__law_pick (.cons (.var 0) (.cons (.var 1) (.cons (.lst (.cons (.bin .add (.var 3) (.cI 1)) (.cons (.var 5) (.cons .cN .nil)))) .nil)))) (.cons (.var 7) (.cons (.var 8) (.cons (.var 9) (.cons (.var 10) (.cons (.var 11) .nil))))))))))
  .nil) .nil)
  (.cons (.ite (.cmp .eq (.var 12) (.cI 3)) (.cons (.set 13 (.call n__law_pick (.cons (.var 0) (.cons (.var 1) (.cons (.lst (.cons (.tup .nil) (.cons (.tup (.cons (.cI 1) (.cons (.cI 0) .nil))) (.cons (.tup (.cons (.cI 3) (.cons (.cI 3) .nil))) (.cons (.tup (.cons (.cI 7) .nil)) (.cons (.tup (.cons (.cB true) .nil)) (.cons (.lst (.cons (.cI 1) .nil)) (.cons (.tup (.cons (.cI 0) (.cons (.cI 1) (.cons (.cI 2) (.cons (.cI 2) .nil))))) (.cons (.tup (.cons (.cI 0) (.cons (.cI 1) (.cons (.cI 2) (.cons (.cI 7) .nil))))) (.cons .cN .nil)))))))))) .nil)))))
  (.cons (.ret (.tup (.cons (.var 4) (.cons (.var 5) (.cons (.var 6) (.cons (.var 13) (.cons (.var 8) (.cons (.var 9) (.cons (.var 10) (.cons (.var 11) .nil))))))))))
  .nil)) .nil)
  (.cons (.ite (.cmp .eq (.var 12) (.cI 4)) (.cons (.ret (.tup (.cons (.var 4) (.cons (.var 5) (.cons (.var 6) (.cons (.var 7) (.cons (.call n__law_pick (.cons (.var 0) (.cons (.var 1) (.cons (.lst (.cons (.cI 24) (.cons (.neg (.cI 1)) (.cons (.cB true) (.cons .cN .nil))))) .nil)))) (.cons (.var 9) (.cons (.var 10) (.cons (.var 11) .nil))))))))))
  .nil) .nil)
  (.cons (.ite (.cmp .eq (.var 12) (.cI 5)) (.cons (.ret (.tup (.cons (.var 4) (.cons (.var 5) (.cons (.var 6) (.cons (.var 7) (.cons (.var 8) (.cons (.call n__law_pick (.cons (.var 0) (.cons (.var 1) (.cons (.lst (.cons (.cI 25) (.cons (.neg (.cI 1)) (.cons (.cB true) (.cons .cN .nil))))) .nil)))) (.cons (.var 10) (.cons (.var 11) .nil))))))))))
  .nil) .nil)
  (.cons (.ite (.cmp .eq (.var 12) (.cI 6)) (.cons (.unp (.tup [13, 14]) (.call n__law_pick (.cons (.var 0) (.cons (.var 1) (.cons (.lst (.cons (.tup (.cons (.cS "none") (.cons (.cI 1) .nil))) (.cons (.tup (.cons (.cS "only") (.cons (.cI 3) .nil))) (.cons (.tup (.cons (.cS "limit") (.cons (.cI 0) .nil))) (.cons (.tup (.cons (.cS "limit") (.cons (.cI 25) .nil))) (.cons (.tup (.cons (.cS "free") (.cons (.cI 1) .nil))) .nil)))))) .nil)))))
  (.cons (.ret (.tup (.cons (.var 4) (.cons (.var 5) (.cons (.var 6) (.cons (.var 7) (.cons (.var 8) (.cons (.var 9) (.cons (.var 13) (.cons (.var 14) .nil))))))))))
  .nil)) .nil)
  (.cons (.ret (.call n__law_pick (.cons (.var 0) (.cons (.var 1) (.cons (.lst (.cons (.cut (.var 2) .none (.some (.cI 7))) (.cons (.bi .list (.cons (.var 2) .nil)) (.cons .cN (.cons (.tup (.cons (.var 4) (.cons (.var 5) (.cons (.var 6) (.cons (.var 7) (.cons (.var 8) (.cons (.var 9) (.cons (.cS "stop") (.cons (.cI 0) .nil))))))))) .nil))))) .nil)))))
  .nil))))))))))
def b__law_no_street (n__law_pick n__law_no_sign : Nat) : Ss :=
  (.cons (.unp (.tup [3, 4]) (.var 2))
  (.cons (.own 5 (.cons .cN (.cons (.cI 5) (.cons (.cS "a") (.cons (.tup .nil) (.cons (.tup (.cons (.var 3) .nil)) (.cons (.tup (.cons (.cI 0) (.cons (.tup .nil) .nil))) (.cons (.tup (.cons (.cI 5) (.cons (.tup .nil) .nil))) (.cons (.tup (.cons (.cB true) (.cons (.tup .nil) .nil))) (.cons (.tup (.cons .cN (.cons (.tup .nil) .nil))) (.cons (.tup (.cons (.var 3) (.cons (.bi .list (.cons (.var 4) .nil)) .nil))) .nil)))))))))))
  (.cons (.app 5 (.lst (.cons (.var 3) (.cons (.var 4) .nil))))
  (.cons (.ite (.var 4) (.cons (.set 5 (.bin .add (.var 5) (.lst (.cons (.tup (.cons (.var 3) (.cons (.bin .add (.var 4) (.cut (.var 4) .none (.some (.cI 1)))) .nil))) (.cons (.tup (.cons (.var 3) (.cons (.bin .add (.var 4) (.tup (.cons .cN .nil))) .nil))) .nil)))))
  (.cons (.app 5 (.tup (.cons (.var 3) (.cons (.bin .add (.var 4) (.tup (.cons (.call n__law_no_sign (.cons (.var 0) (.cons (.var 1) (.cons (.idx (.var 4) (.cI 0)) (.cons (.var 3) .nil))))) .nil))) .nil))))
  (.cons (.app 5 (.tup (.cons (.var 3) (.cons (.bin .add (.tup (.cons (.call n__law_no_sign (.cons (.var 0) (.cons (.var 1) (.cons (.idx (.var 4) (.neg (.cI 1))) (.cons (.var 3) .nil))))) .nil)) (.var 4)) .nil))))
  .nil))) .nil)
  (.cons (.ret (.call n__law_pick (.cons (.var 0) (.cons (.var 1) (.cons (.var 5) .nil)))))
  .nil)))))
def b__law_cars_right (n__law_all n_are_cars n__law_pick : Nat) : Ss :=
  (.cons (.set 3 (.tup (.cons (.cI 0) (.cons (.cI 0) (.cons (.cI 1) .nil)))))
  (.cons (.set 4 (.lst (.cons (.tup (.cons (.cI 3) (.cons (.cI 0) (.cons (.cI 1) .nil)))) (.cons (.tup (.cons (.neg (.cI 1)) (.cons (.cI 0) (.cons (.cI 1) .nil)))) (.cons (.tup (.cons (.cI 0) (.cons (.cI 168) (.cons (.cI 1) .nil)))) (.cons (.tup (.cons (.cI 0) (.cons (.neg (.cI 1)) (.cons (.cI 1) .nil)))) (.cons (.tup (.cons (.cI 0) (.cons (.cI 0) (.cons (.cI 0) .nil)))) (.cons (.tup (.cons (.cI 0) (.cons (.cI 0) (.cons (.cI 169) .nil)))) (.cons (.tup (.cons (.cI 0) (.cons (.cI 0) .nil))) (.cons (.tup (.cons (.cB true) (.cons (.cI 0) (.cons (.cI 1) .nil)))) .nil))))))))))
  (.cons (.set 5 (.call n__law_pick (.cons (.var 0) (.cons (.var 1) (.cons (.var 4) .nil)))))
  (.cons (.set 6 (.lst (.cons (.lst (.cons (.var 5) .nil)) (.cons (.lst (.cons (.var 3) (.cons (.var 5) .nil))) (.cons (.lst (.cons (.var 3) (.cons (.var 3) (.cons (.var 3) (.cons (.var 5) .nil))))) (.cons (.bin .mul (.lst (.cons (.var 3) .nil)) (.cI 5)) (.cons (.tup (.cons (.var 3) .nil)) (.cons .cN (.cons (.lst (.cons .cN .nil)) (.cons (.lst (.cons (.lst (.cons (.cI 0) (.cons (.cI 0) (.cons (.cI 1) .nil)))) .nil)) .nil))))))))))
  (.cons (.set 7 (.call n__law_pick (.cons (.var 0) (.cons (.var 1) (.cons (.var 6) .nil)))))
  (.cons (.ite (.bop false (.cons (.call n_are_cars (.cons (.var 7) .nil)) (.cons (.not (.call n_are_cars (.cons (.bin .mul (.lst (.cons (.var 3) .nil)) (.cI 4)) .nil))) (.cons (.not (.call n_are_cars (.cons (.lst .nil) .nil))) .nil)))) (.cons (.ret (.cB false))
  .nil) .nil)
  (.cons (.ret (.call n__law_all (.cons (.lst (.cons (.cI 11) (.cons (.cI 12) (.cons (.cI 13) .nil)))) (.cons (.cI 2) (.cons (.var 2) (.cons (.var 7) (.cons (.cI 0) (.cons (.cI 0) (.cons (.cI 0) (.cons (.cS "InvalidCars") .nil))))))))))
  .nil)))))))
def b__law_signs_L1 (n__law_sign : Nat) : Ss :=
  (.cons (.set 6 (.call n__law_sign (.cons (.var 0) (.cons (.var 1) (.cons (.var 2) .nil)))))
  (.cons (.app 4 (.bin .add (.bin .add (.cut (.var 6) .none (.some (.cI 4))) (.tup (.cons (.var 5) (.cons (.bin .add (.cI 20) (.bin .mod (.var 5) (.cI 5))) .nil)))) (.cut (.var 6) (.some (.cI 6)) .none)))
  .nil))
def b__law_signs (n__law_sign : Nat) : Ss :=
  (.cons (.own 4 .nil)
  (.cons (.loop (.name 5) (.rng1 (.var 3)) (b__law_signs_L1 n__law_sign))
  (.frz 4 (.cons (.ret (.var 4))
  .nil))))
def b__law_holding_or_32 (x_InvalidStreet n_holding : Nat) : Ss :=
  (.cons (.tr (.cons (.ret (.call n_holding (.cons (.var 0) (.cons (.var 1) (.cons (.var 2) .nil)))))
  .nil) [(x_InvalidStreet, "InvalidStreet")])
  .nil)
def b_law_32_L1 (n__law_late_right n__law_copies_right n__law_signs n__law_draw : Nat) : Ss :=
  (.cons (.set 3 (.bin .add (.cI 1) (.call n__law_draw (.cons (.var 0) (.cons (.var 1) (.cons (.cI 4) .nil))))))
  (.cons (.set 4 (.call n__law_signs (.cons (.var 0) (.cons (.var 1) (.cons (.var 3) (.cons (.bin .add (.cI 3) (.call n__law_draw (.cons (.var 0) (.cons (.var 1) (.cons (.cI 4) .nil))))) .nil))))))
  (.cons (.ite (.bop false (.cons (.not (.call n__law_copies_right (.cons (.var 0) (.cons (.var 1) (.cons (.var 3) (.cons (.var 4) .nil)))))) (.cons (.not (.call n__law_late_right (.cons (.var 0) (.cons (.var 1) (.cons (.var 3) .nil))))) .nil))) (.cons (.ret (.cB false))
  .nil) .nil)
  .nil)))
def b_law_32 (n__law_late_right n__law_copies_right n__law_signs n__law_draw : Nat) : Ss :=
  (.cons (.cell 1 .nil)
  (.cons (.loop (.name 2) (.rng1 (.cI 4)) (b_law_32_L1 n__law_late_right n__law_copies_right n__law_signs n__law_draw))
  (.cons (.ret (.cB true))
  .nil)))
def b__law_signs_33_L1 (n__law_draw n__law_pick : Nat) : Ss :=
  (.cons (.par 6 7 (.cons (.call n__law_pick (.cons (.var 0) (.cons (.var 1) (.cons (.lst (.cons (.cS "only") (.cons (.cS "limit") (.cons (.cS "limit") (.cons (.cS "free") (.cons (.cS "free") .nil)))))) .nil)))) (.cons (.cI 0) .nil)))
  (.cons (.ite (.cmp .eq (.var 6) (.cS "only")) (.cons (.set 7 (.call n__law_draw (.cons (.var 0) (.cons (.var 1) (.cons (.cI 3) .nil)))))
  .nil) .nil)
  (.cons (.ite (.cmp .eq (.var 6) (.cS "limit")) (.cons (.set 7 (.bin .add (.cI 1) (.call n__law_draw (.cons (.var 0) (.cons (.var 1) (.cons (.cI 24) .nil))))))
  .nil) .nil)
  (.cons (.app 4 (.tup (.cons (.cI 1) (.cons (.cI 0) (.cons (.var 2) (.cons (.tup (.cons (.cI 0) (.cons (.cI 1) (.cons (.cI 2) (.cons (.cI 3) (.cons (.cI 4) (.cons (.cI 5) (.cons (.cI 6) .nil)))))))) (.cons (.var 5) (.cons (.cI 24) (.cons (.var 6) (.cons (.var 7) .nil))))))))))
  .nil))))
def b__law_signs_33 (n__law_draw n__law_pick : Nat) : Ss :=
  (.cons (.own 4 .nil)
  (.cons (.loop (.name 5) (.rng1 (.var 3)) (b__law_signs_33_L1 n__law_draw n__law_pick))
  (.frz 4 (.cons (.ret (.var 4))
  .nil))))
def b__law_cars_right_33_L1 : Ss :=
  (.cons (.set 13 (.comp [14] (.name 14) (.of (.tup (.cons (.var 4) (.cons (.cI 3) .nil)))) (.some (.cmp .nin (.var 14) (.var 10))) (.var 14)))
  (.cons (.app 9 (.ite (.var 13) (.idx (.var 13) (.cI 0)) (.neg (.cI 1))))
  (.cons (.set 10 (.bin .add (.var 10) (.cut (.var 13) .none (.some (.cI 1)))))
  .nil)))
def b__law_cars_right_33 (n_best_parking n_most_parked n_park n__law_draw : Nat) : Ss :=
  (.cons (.set 2 (.tup (.cons (.cI 0) (.cons (.cI 1) (.cons (.cI 2) (.cons (.cI 3) (.cons (.cI 4) (.cons (.cI 5) (.cons (.cI 6) .nil)))))))))
  (.cons (.set 3 (.tup (.cons (.cI 4) (.cons (.bi .tuple (.cons (.comp [4] (.name 4) (.rng1 (.cI 3)) .none (.tup (.cons (.cI 0) (.cons (.var 4) (.cons (.bin .add (.var 4) (.cI 1)) (.cons (.var 2) (.cons (.cI 0) (.cons (.cI 24) (.cons (.cS "only") (.cons (.var 4) .nil)))))))))) .nil)) .nil))))
  (.cons (.par 5 6 (.cons (.call n__law_draw (.cons (.var 0) (.cons (.var 1) (.cons (.cI 168) .nil)))) (.cons (.bin .add (.cI 1) (.call n__law_draw (.cons (.var 0) (.cons (.var 1) (.cons (.cI 100) .nil))))) .nil)))
  (.cons (.set 7 (.comp [8] (.name 8) (.rng1 (.bin .add (.cI 1) (.call n__law_draw (.cons (.var 0) (.cons (.var 1) (.cons (.cI 4) .nil)))))) .none (.tup (.cons (.call n__law_draw (.cons (.var 0) (.cons (.var 1) (.cons (.cI 3) .nil)))) (.cons (.var 5) (.cons (.var 6) .nil))))))
  (.cons (.par 9 10 (.cons (.lst .nil) (.cons (.lst .nil) .nil)))
  (.cons (.loop (.tup [4, 11, 12]) (.of (.var 7)) b__law_cars_right_33_L1)
  (.cons (.ite (.cmp .ne (.call n_park (.cons (.var 3) (.cons (.var 7) .nil))) (.var 9)) (.cons (.ret (.cB false))
  .nil) .nil)
  (.cons (.set 15 (.bi .min (.cons (.bi .len (.cons (.var 7) .nil)) (.cons (.bin .add (.cI 1) (.lenSet (.comp [4, 11, 12] (.tup [4, 11, 12]) (.of (.var 7)) .none (.var 4)))) .nil))))
  (.cons (.ite (.bop false (.cons (.cmp .ne (.call n_most_parked (.cons (.var 3) (.cons (.var 7) .nil))) (.var 15)) (.cons (.cmp .ne (.bi .len (.cons (.comp [14] (.name 14) (.of (.call n_best_parking (.cons (.var 3) (.cons (.var 7) .nil)))) (.some (.cmp .ge (.var 14) (.cI 0))) (.cI 1)) .nil)) (.var 15)) .nil))) (.cons (.ret (.cB false))
  .nil) .nil)
  (.cons (.set 16 (.comp [8] (.name 8) (.rng1 (.cI 4)) .none (.tup (.cons (.call n__law_draw (.cons (.var 0) (.cons (.var 1) (.cons (.cI 3) .nil)))) (.cons (.var 5) (.cons (.var 6) .nil))))))
  (.cons (.ite (.bop false (.cons (.cmp .ne (.call n_park (.cons (.tup (.cons (.cI 4) (.cons (.tup .nil) .nil))) (.cons (.var 16) .nil))) (.lst (.cons (.cI 0) (.cons (.cI 1) (.cons (.cI 2) (.cons (.cI 3) .nil)))))) (.cons (.cmp .ne (.call n_most_parked (.cons (.tup (.cons (.cI 4) (.cons (.tup .nil) .nil))) (.cons (.var 16) .nil))) (.cI 4)) .nil))) (.cons (.ret (.cB false))
  .nil) .nil)
  (.cons (.ret (.cmp .eq (.call n_best_parking (.cons (.tup (.cons (.cI 4) (.cons (.tup .nil) .nil))) (.cons (.var 16) .nil))) (.tup (.cons (.cI 0) (.cons (.cI 1) (.cons (.cI 2) (.cons (.cI 3) .nil)))))))
  .nil))))))))))))
def b_law_33_L1 (n__law_cleared_right n__law_plans_right n__law_cars_right n__law_all_right : Nat) : Ss :=
  (.cons (.ite (.bop false (.cons (.not (.call n__law_all_right (.cons (.var 0) (.cons (.var 1) .nil)))) (.cons (.not (.call n__law_cars_right (.cons (.var 0) (.cons (.var 1) .nil)))) .nil))) (.cons (.ret (.cB false))
  .nil) .nil)
  (.cons (.ite (.bop false (.cons (.not (.call n__law_plans_right (.cons (.var 0) (.cons (.var 1) .nil)))) (.cons (.not (.call n__law_cleared_right (.cons (.var 0) (.cons (.var 1) .nil)))) .nil))) (.cons (.ret (.cB false))
  .nil) .nil)
  .nil))
def b_law_33 (n__law_cleared_right n__law_plans_right n__law_cars_right n__law_all_right : Nat) : Ss :=
  (.cons (.cell 1 .nil)
  (.cons (.loop (.name 2) (.rng1 (.cI 2)) (b_law_33_L1 n__law_cleared_right n__law_plans_right n__law_cars_right n__law_all_right))
  (.cons (.ret (.cB true))
  .nil)))
end Kb
namespace Kb
open PySem L2
namespace K04
def d_is_integer : Df := ⟨"is_integer", ["candidate", "least", "most"], 3, b_is_integer , 7⟩
def d_is_word : Df := ⟨"is_word", ["word", "value"], 2, b_is_word 0, 8⟩
def d_are_days : Df := ⟨"are_days", ["candidate", "one", "other"], 1, b_are_days 0, 9⟩
def d_is_sign : Df := ⟨"is_sign", ["places", "candidate", "rank", "start", "end", "days", "first", "last", "word", "value"], 2, b_is_sign 1 0 2, 10⟩
def d_is_street : Df := ⟨"is_street", ["candidate", "places", "signs", "one"], 1, b_is_street 3 0, 11⟩
def d_require_street : Df := ⟨"require_street", ["street"], 1, b_require_street 4 0, 12⟩
def d_require_hour : Df := ⟨"require_hour", ["hour"], 1, b_require_hour 0 3, 13⟩
def d_require_place : Df := ⟨"require_place", ["street", "place"], 2, b_require_place 0 2, 14⟩
def d_holds : Df := ⟨"holds", ["sign", "place", "hour", "rank", "start", "end", "days", "first", "last", "word", "value", "length", "day"], 3, b_holds , 15⟩
def d_find_holding : Df := ⟨"find_holding", ["street", "place", "hour", "index", "sign"], 3, b_find_holding 8, 16⟩
def d_find_counting : Df := ⟨"find_counting", ["street", "place", "hour", "some", "top", "index"], 3, b_find_counting 9, 17⟩
def d_require_spot : Df := ⟨"require_spot", ["street", "place", "hour"], 3, b_require_spot 6 7 5, 18⟩
def d_holding : Df := ⟨"holding", ["street", "place", "hour"], 3, b_holding 9 11, 19⟩
def d_counting : Df := ⟨"counting", ["street", "place", "hour"], 3, b_counting 10 11, 20⟩
def d_require_kind : Df := ⟨"require_kind", ["kind"], 1, b_require_kind 0 1, 22⟩
def d_words_at : Df := ⟨"words_at", ["street", "place", "hour", "index"], 3, b_words_at 10, 23⟩
def d_find_kinds : Df := ⟨"find_kinds", ["street", "place", "hour", "words", "kind", "word", "value"], 3, b_find_kinds 15, 24⟩
def d_find_limit : Df := ⟨"find_limit", ["street", "place", "hour", "found", "word", "value"], 3, b_find_limit 15, 25⟩
def d_may_stand : Df := ⟨"may_stand", ["street", "kind", "place", "hour"], 4, b_may_stand 16 6 7 14 5, 26⟩
def d_kinds_at : Df := ⟨"kinds_at", ["street", "place", "hour"], 3, b_kinds_at 16 11, 27⟩
def d_limit : Df := ⟨"limit", ["street", "place", "hour"], 3, b_limit 17 11, 28⟩
def d__law_draw : Df := ⟨"_law_draw", ["script", "state", "many", "cell", "k", "digits", "number", "more"], 3, b__law_draw , 30⟩
def d__law_pick : Df := ⟨"_law_pick", ["script", "state", "some"], 3, b__law_pick 21, 31⟩
def d__law_sign : Df := ⟨"_law_sign", ["script", "state", "places", "start", "end", "days", "day", "word", "value", "first", "last"], 3, b__law_sign 21 22, 32⟩
def d__law_street : Df := ⟨"_law_street", ["script", "state", "places", "most", "signs", "step", "sign"], 4, b__law_street 21 23, 33⟩
def d__law_same_there : Df := ⟨"_law_same_there", ["one", "other", "place", "hour"], 4, b__law_same_there 20 19, 34⟩
def d__law_holds : Df := ⟨"_law_holds", ["street", "place", "hour", "some", "own", "ranks", "index", "rest", "alone", "kind"], 3, b__law_holds 18 19 25 4 13 12, 35⟩
def d_law : Df := ⟨"law", ["script", "state", "k", "places", "street", "step", "place", "hour", "bar", "wide"], 1, b_law_04 20 19 26 21 24, 36⟩
def tb : Tb := ⟨PySem.Challenge.pw_kerbsigns_k04_whole_ranks, ["InvalidStreet", "InvalidKind", "InvalidPlace", "InvalidHour"], [d_is_integer, d_is_word, d_are_days, d_is_sign, d_is_street, d_require_street, d_require_hour, d_require_place, d_holds, d_find_holding, d_find_counting, d_require_spot, d_holding, d_counting, d_require_kind, d_words_at, d_find_kinds, d_find_limit, d_may_stand, d_kinds_at, d_limit, d__law_draw, d__law_pick, d__law_sign, d__law_street, d__law_same_there, d__law_holds, d_law]⟩
theorem tb_chk : (tb.T.all fun d => tb.chk1 d) = true := by decide +kernel
theorem bi_is_integer : tb.BindOk d_is_integer := fun _ _ _ _ _ _ us hl => match us, hl with | [_, _, _], _ => rfl
theorem bi_is_word : tb.BindOk d_is_word := fun _ _ _ _ _ _ us hl => match us, hl with | [_, _], _ => rfl
theorem bi_are_days : tb.BindOk d_are_days := fun _ _ _ _ _ _ us hl => match us, hl with | [_], _ => rfl
theorem bi_is_sign : tb.BindOk d_is_sign := fun _ _ _ _ _ _ us hl => match us, hl with | [_, _], _ => rfl
theorem bi_is_street : tb.BindOk d_is_street := fun _ _ _ _ _ _ us hl => match us, hl with | [_], _ => rfl
theorem bi_require_street : tb.BindOk d_require_street := fun _ _ _ _ _ _ us hl => match us, hl with | [_], _ => rfl
theorem bi_require_hour : tb.BindOk d_require_hour := fun _ _ _ _ _ _ us hl => match us, hl with | [_], _ => rfl
theorem bi_require_place : tb.BindOk d_require_place := fun _ _ _ _ _ _ us hl => match us, hl with | [_, _], _ => rfl
theorem bi_holds : tb.BindOk d_holds := fun _ _ _ _ _ _ us hl => match us, hl with | [_, _, _], _ => rfl
theorem bi_find_holding : tb.BindOk d_find_holding := fun _ _ _ _ _ _ us hl => match us, hl with | [_, _, _], _ => rfl
theorem bi_find_counting : tb.BindOk d_find_counting := fun _ _ _ _ _ _ us hl => match us, hl with | [_, _, _], _ => rfl
theorem bi_require_spot : tb.BindOk d_require_spot := fun _ _ _ _ _ _ us hl => match us, hl with | [_, _, _], _ => rfl
theorem bi_holding : tb.BindOk d_holding := fun _ _ _ _ _ _ us hl => match us, hl with | [_, _, _], _ => rfl
theorem bi_counting : tb.BindOk d_counting := fun _ _ _ _ _ _ us hl => match us, hl with | [_, _, _], _ => rfl
theorem bi_require_kind : tb.BindOk d_require_kind := fun _ _ _ _ _ _ us hl => match us, hl with | [_], _ => rfl
theorem bi_words_at : tb.BindOk d_words_at := fun _ _ _ _ _ _ us hl => match us, hl with | [_, _, _], _ => rfl
theorem bi_find_kinds : tb.BindOk d_find_kinds := fun _ _ _ _ _ _ us hl => match us, hl with | [_, _, _], _ => rfl
theorem bi_find_limit : tb.BindOk d_find_limit := fun _ _ _ _ _ _ us hl => match us, hl with | [_, _, _], _ => rfl
theorem bi_may_stand : tb.BindOk d_may_stand := fun _ _ _ _ _ _ us hl => match us, hl with | [_, _, _, _], _ => rfl
theorem bi_kinds_at : tb.BindOk d_kinds_at := fun _ _ _ _ _ _ us hl => match us, hl with | [_, _, _], _ => rfl
theorem bi_limit : tb.BindOk d_limit := fun _ _ _ _ _ _ us hl => match us, hl with | [_, _, _], _ => rfl
theorem bi__law_draw : tb.BindOk d__law_draw := fun _ _ _ _ _ _ us hl => match us, hl with | [_, _, _], _ => rfl
theorem bi__law_pick : tb.BindOk d__law_pick := fun _ _ _ _ _ _ us hl => match us, hl with | [_, _, _], _ => rfl
theorem bi__law_sign : tb.BindOk d__law_sign := fun _ _ _ _ _ _ us hl => match us, hl with | [_, _, _], _ => rfl
theorem bi__law_street : tb.BindOk d__law_street := fun _ _ _ _ _ _ us hl => match us, hl with | [_, _, _, _], _ => rfl
theorem bi__law_same_there : tb.BindOk d__law_same_there := fun _ _ _ _ _ _ us hl => match us, hl with | [_, _, _, _], _ => rfl
theorem bi__law_holds : tb.BindOk d__law_holds := fun _ _ _ _ _ _ us hl => match us, hl with | [_, _, _], _ => rfl
theorem bi_law : tb.BindOk d_law := fun _ _ _ _ _ _ us hl => match us, hl with | [_], _ => rfl
theorem tb_ok : tb.Ok := by
  refine ⟨fun d hd => List.all_eq_true.mp tb_chk d hd, fun d hd => ?_, by decide +kernel⟩
  simp only [tb, List.mem_cons, List.not_mem_nil, or_false] at hd
  rcases hd with rfl | rfl | rfl | rfl | rfl | rfl | rfl | rfl | rfl | rfl | rfl | rfl | rfl | rfl | rfl | rfl | rfl | rfl | rfl | rfl | rfl | rfl | rfl | rfl | rfl | rfl | rfl | rfl
  · exact bi_is_integer
  · exact bi_is_word
  · exact bi_are_days
  · exact bi_is_sign
  · exact bi_is_street
  · exact bi_require_street
  · exact bi_require_hour
  · exact bi_require_place
  · exact bi_holds
  · exact bi_find_holding
  · exact bi_find_counting
  · exact bi_require_spot
  · exact bi_holding
  · exact bi_counting
  · exact bi_require_kind
  · exact bi_words_at
  · exact bi_find_kinds
  · exact bi_find_limit
  · exact bi_may_stand
  · exact bi_kinds_at
  · exact bi_limit
  · exact bi__law_draw
  · exact bi__law_pick
  · exact bi__law_sign
  · exact bi__law_street
  · exact bi__law_same_there
  · exact bi__law_holds
  · exact bi_law
theorem at_is_integer (k : Nat) : clAt tb.T (k + 1) 0 = runF (clAt tb.T k) 3 (b_is_integer ) := rfl
theorem at_is_word (k : Nat) : clAt tb.T (k + 1) 1 = runF (clAt tb.T k) 2 (b_is_word 0) := rfl
theorem at_are_days (k : Nat) : clAt tb.T (k + 1) 2 = runF (clAt tb.T k) 3 (b_are_days 0) := rfl
theorem at_is_sign (k : Nat) : clAt tb.T (k + 1) 3 = runF (clAt tb.T k) 10 (b_is_sign 1 0 2) := rfl
theorem at_is_street (k : Nat) : clAt tb.T (k + 1) 4 = runF (clAt tb.T k) 4 (b_is_street 3 0) := rfl
theorem at_require_street (k : Nat) : clAt tb.T (k + 1) 5 = runF (clAt tb.T k) 1 (b_require_street 4 0) := rfl
theorem at_require_hour (k : Nat) : clAt tb.T (k + 1) 6 = runF (clAt tb.T k) 1 (b_require_hour 0 3) := rfl
theorem at_require_place (k : Nat) : clAt tb.T (k + 1) 7 = runF (clAt tb.T k) 2 (b_require_place 0 2) := rfl
theorem at_holds (k : Nat) : clAt tb.T (k + 1) 8 = runF (clAt tb.T k) 13 (b_holds ) := rfl
theorem at_find_holding (k : Nat) : clAt tb.T (k + 1) 9 = runF (clAt tb.T k) 5 (b_find_holding 8) := rfl
theorem at_find_counting (k : Nat) : clAt tb.T (k + 1) 10 = runF (clAt tb.T k) 6 (b_find_counting 9) := rfl
theorem at_require_spot (k : Nat) : clAt tb.T (k + 1) 11 = runF (clAt tb.T k) 3 (b_require_spot 6 7 5) := rfl
theorem at_holding (k : Nat) : clAt tb.T (k + 1) 12 = runF (clAt tb.T k) 3 (b_holding 9 11) := rfl
theorem at_counting (k : Nat) : clAt tb.T (k + 1) 13 = runF (clAt tb.T k) 3 (b_counting 10 11) := rfl
theorem at_require_kind (k : Nat) : clAt tb.T (k + 1) 14 = runF (clAt tb.T k) 1 (b_require_kind 0 1) := rfl
theorem at_words_at (k : Nat) : clAt tb.T (k + 1) 15 = runF (clAt tb.T k) 4 (b_words_at 10) := rfl
theorem at_find_kinds (k : Nat) : clAt tb.T (k + 1) 16 = runF (clAt tb.T k) 7 (b_find_kinds 15) := rfl
theorem at_find_limit (k : Nat) : clAt tb.T (k + 1) 17 = runF (clAt tb.T k) 6 (b_find_limit 15) := rfl
theorem at_may_stand (k : Nat) : clAt tb.T (k + 1) 18 = runF (clAt tb.T k) 4 (b_may_stand 16 6 7 14 5) := rfl
theorem at_kinds_at (k : Nat) : clAt tb.T (k + 1) 19 = runF (clAt tb.T k) 3 (b_kinds_at 16 11) := rfl
theorem at_limit (k : Nat) : clAt tb.T (k + 1) 20 = runF (clAt tb.T k) 3 (b_limit 17 11) := rfl
theorem at__law_draw (k : Nat) : clAt tb.T (k + 1) 21 = runF (clAt tb.T k) 8 (b__law_draw ) := rfl
theorem at__law_pick (k : Nat) : clAt tb.T (k + 1) 22 = runF (clAt tb.T k) 3 (b__law_pick 21) := rfl
theorem at__law_sign (k : Nat) : clAt tb.T (k + 1) 23 = runF (clAt tb.T k) 11 (b__law_sign 21 22) := rfl
theorem at__law_street (k : Nat) : clAt tb.T (k + 1) 24 = runF (clAt tb.T k) 7 (b__law_street 21 23) := rfl
theorem at__law_same_there (k : Nat) : clAt tb.T (k + 1) 25 = runF (clAt tb.T k) 4 (b__law_same_there 20 19) := rfl
theorem at__law_holds (k : Nat) : clAt tb.T (k + 1) 26 = runF (clAt tb.T k) 10 (b__law_holds 18 19 25 4 13 12) := rfl
theorem at_law (k : Nat) : clAt tb.T (k + 1) 27 = runF (clAt tb.T k) 10 (b_law_04 20 19 26 21 24) := rfl
def names0 : List PySem.Str := ["KerbError", "InvalidStreet", "InvalidKind", "InvalidPlace", "InvalidHour", "is_integer", "is_word", "are_days", "is_sign", "is_street", "require_street", "require_hour", "require_place", "holds", "find_holding", "find_counting", "require_spot", "holding", "counting", "require_kind", "words_at", "find_kinds", "find_limit", "may_stand", "kinds_at", "limit", "_law_draw", "_law_pick", "_law_sign", "_law_street"]
def names1 : List PySem.Str := ["_law_same_there", "_law_holds"]
def names : List PySem.Str := names0 ++ names1
abbrev R : PySem.W.OpenRow := PySem.W.OpenLaw.row PySem.Challenge.rw_kerbsigns_k04_whole_ranks
abbrev hk : PySem.W.Hook := hookL 4 tb.fa tb.fn
def ob (s : PySem.W.SharedT) : He.AlD × Bool := obL 4 tb.fa tb.fn s
theorem ob_eq (s : PySem.W.SharedT) : ob s = hk.obs s.abs := obL_eq s
theorem run (w : World) : HandSHeadRun.RunEq R (PySem.W.view R.prog [36]) hk ob 4000 names w := by
  intro os
  kernel_rfl
theorem law_at : (fnAt tb.T 27).nm = ("law" : PySem.Str) ∧ 27 < tb.T.length ∧ (fnAt tb.T 27).ar = 1 ∧ (fnAt tb.T 27).N.headD "" = ("script" : PySem.Str) := ⟨rfl, by decide, rfl, rfl⟩
end K04
end Kb
namespace Kb
open PySem L2
/-! ### plain lemmas -/
theorem see_int (h : List Cell) (i : Int) : D.see h (.int i) = .int i := rfl
theorem see_bl (h : List Cell) (i : Bool) : D.see h (.bl i) = .bl i := rfl
theorem see_str (h : List Cell) (i : Str) : D.see h (.str i) = .str i := rfl
theorem see_non (h : List Cell) : D.see h .non = .non := rfl
theorem see_tup (h : List Cell) (i : List D) : D.see h (.tup i) = .tup i := rfl
theorem see_lst (h : List Cell) (i : List D) : D.see h (.lst i) = .lst i := rfl
theorem see_ref (h : List Cell) (r : Nat) : D.see h (.ref r) = match h[r]? with | some (.lst xs) => .lst xs | _ => .ref r := rfl
theorem sz1 : 1 ≤ sizeLine := by decide
theorem sz2 : 2 ≤ sizeLine := by decide
theorem sz3 : 3 ≤ sizeLine := by decide
theorem sz4 : 4 ≤ sizeLine := by decide
theorem sz5 : 5 ≤ sizeLine := by decide
theorem sz6 : 6 ≤ sizeLine := by decide
theorem sz7 : 7 ≤ sizeLine := by decide
theorem sz8 : 8 ≤ sizeLine := by decide
theorem sz9 : 9 ≤ sizeLine := by decide
theorem sz10 : 10 ≤ sizeLine := by decide
theorem sz11 : 11 ≤ sizeLine := by decide
theorem sz12 : 12 ≤ sizeLine := by decide
theorem size_big : (100000 : Nat) < sizeLine := by decide
theorem size_le {n : Nat} (h : n ≤ 100000) : n ≤ sizeLine := Nat.le_of_lt (Nat.lt_of_le_of_lt h size_big)
theorem compD_fil {α : Type} {t : Tg} {mt : TM} {me : EM} {ρ : En} {h : List Cell} (f : α → D) (p : α → Bool) (g : α → D) : ∀ (l : List α), (∀ x ∈ l, ∃ ρ1, t.set (f x) ρ = some ρ1 ∧ mt ρ1 h = some (.ok (p x) h) ∧ (p x = true → me ρ1 h = some (.ok (.val (g x)) h))) →
    compD t mt me ρ (l.map f) h = some (.ok ((l.filter p).map g) h)
  | [], _ => rfl
  | d :: ds, H => by
    obtain ⟨ρ1, e1, e2, e3⟩ := H d List.mem_cons_self
    have ih := compD_fil f p g ds fun x hx => H x (List.mem_cons_of_mem _ hx)
    rw [List.map_cons]
    unfold compD
    rw [e1]
    dsimp only
    rw [e2]
    simp only [bx]
    cases e : p d with
    | true =>
      rw [if_pos rfl, e3 e]
      simp only [bx, ih, ret, List.filter_cons_of_pos e, List.map_cons]
    | false => rw [if_neg Bool.false_ne_true, ih, List.filter_cons_of_neg (by rw [e]; exact Bool.false_ne_true)]
theorem compD_map {α : Type} {t : Tg} {me : EM} {ρ : En} {h : List Cell} (f g : α → D) (l : List α) (H : ∀ x ∈ l, ∃ ρ1, t.set (f x) ρ = some ρ1 ∧ me ρ1 h = some (.ok (.val (g x)) h)) : compD t mYes me ρ (l.map f) h = some (.ok (l.map g) h) := by
  have := compD_fil (mt := mYes) f (fun _ => true) g l fun d hd => by
    obtain ⟨ρ1, e1, e2⟩ := H d hd
    exact ⟨ρ1, e1, rfl, fun _ => e2⟩
  rw [this, List.filter_eq_self.mpr (fun _ _ => rfl)]
theorem compD_st {t : Tg} {mt : TM} {me : EM} {ρ : En} (J : List D → List D → List Cell → Prop)
    (H : ∀ d rest acc h, J (d :: rest) acc h → ∃ ρ1 b h1, t.set d ρ = some ρ1 ∧ mt ρ1 h = some (.ok b h1) ∧ (b = true → ∃ e h2, me ρ1 h1 = some (.ok (.val e) h2) ∧ J rest (acc ++ [e]) h2) ∧ (b = false → J rest acc h1)) :
    ∀ (ds acc : List D) (h : List Cell), J ds acc h → ∃ es h', compD t mt me ρ ds h = some (.ok es h') ∧ J [] (acc ++ es) h'
  | [], acc, h, j => ⟨[], h, rfl, by rw [List.append_nil]; exact j⟩
  | d :: ds, acc, h, j => by
    obtain ⟨ρ1, b, h1, e1, e2, e3, e4⟩ := H d ds acc h j
    unfold compD
    rw [e1]
    dsimp only
    rw [e2]
    simp only [bx]
    cases b with
    | true =>
      obtain ⟨e, h2, e5, j2⟩ := e3 rfl
      obtain ⟨es, h', e6, j3⟩ := compD_st J H ds (acc ++ [e]) h2 j2
      refine ⟨e :: es, h', ?_, by rw [List.append_assoc] at j3; exact j3⟩
      rw [if_pos rfl, e5]
      simp only [bx, e6, ret]
    | false =>
      obtain ⟨es, h', e6, j3⟩ := compD_st J H ds acc h1 (e4 rfl)
      exact ⟨es, h', by rw [if_neg Bool.false_ne_true, e6], j3⟩
theorem forD_st {t : Tg} {b : SM} (J : List D → En → List Cell → Prop) (H : ∀ d rest ρ h, J (d :: rest) ρ h → ∃ ρ1 ρ2 h2, t.set d ρ = some ρ1 ∧ b ρ1 h = some (.next ρ2 h2) ∧ J rest ρ2 h2) :
    ∀ (ds : List D) (ρ : En) (h : List Cell), J ds ρ h → ∃ ρ' h', forD t b ds ρ h = some (.next ρ' h') ∧ J [] ρ' h'
  | [], ρ, h, j => ⟨ρ, h, rfl, j⟩
  | d :: ds, ρ, h, j => by
    obtain ⟨ρ1, ρ2, h2, e1, e2, j2⟩ := H d ds ρ h j
    obtain ⟨ρ', h', e3, j3⟩ := forD_st J H ds ρ2 h2 j2
    refine ⟨ρ', h', ?_, j3⟩
    unfold forD
    rw [e1]
    dsimp only
    rw [e2]
    exact e3
theorem at0 {α : Type} (a0 : α) (l : List α) : atI (a0 :: l) 0 = some a0 := by
  unfold atI ixN
  rw [if_pos (by omega), if_pos (by simp only [List.length_cons]; omega)]
  rfl
theorem at1 {α : Type} (a0 a1 : α) (l : List α) : atI (a0 :: a1 :: l) 1 = some a1 := by
  unfold atI ixN
  rw [if_pos (by omega), if_pos (by simp only [List.length_cons]; omega)]
  rfl
theorem at2 {α : Type} (a0 a1 a2 : α) (l : List α) : atI (a0 :: a1 :: a2 :: l) 2 = some a2 := by
  unfold atI ixN
  rw [if_pos (by omega), if_pos (by simp only [List.length_cons]; omega)]
  rfl
theorem at3 {α : Type} (a0 a1 a2 a3 : α) (l : List α) : atI (a0 :: a1 :: a2 :: a3 :: l) 3 = some a3 := by
  unfold atI ixN
  rw [if_pos (by omega), if_pos (by simp only [List.length_cons]; omega)]
  rfl
theorem at4 {α : Type} (a0 a1 a2 a3 a4 : α) (l : List α) : atI (a0 :: a1 :: a2 :: a3 :: a4 :: l) 4 = some a4 := by
  unfold atI ixN
  rw [if_pos (by omega), if_pos (by simp only [List.length_cons]; omega)]
  rfl
theorem at5 {α : Type} (a0 a1 a2 a3 a4 a5 : α) (l : List α) : atI (a0 :: a1 :: a2 :: a3 :: a4 :: a5 :: l) 5 = some a5 := by
  unfold atI ixN
  rw [if_pos (by omega), if_pos (by simp only [List.length_cons]; omega)]
  rfl
theorem at6 {α : Type} (a0 a1 a2 a3 a4 a5 a6 : α) (l : List α) : atI (a0 :: a1 :: a2 :: a3 :: a4 :: a5 :: a6 :: l) 6 = some a6 := by
  unfold atI ixN
  rw [if_pos (by omega), if_pos (by simp only [List.length_cons]; omega)]
  rfl
theorem at7 {α : Type} (a0 a1 a2 a3 a4 a5 a6 a7 : α) (l : List α) : atI (a0 :: a1 :: a2 :: a3 :: a4 :: a5 :: a6 :: a7 :: l) 7 = some a7 := by
  unfold atI ixN
  rw [if_pos (by omega), if_pos (by simp only [List.length_cons]; omega)]
  rfl
theorem ixz (n : Nat) : ixN (n + 1) 0 = some 0 := by
  unfold ixN
  rw [if_pos (by omega), if_pos (by omega)]
  rfl
theorem atI_get {α : Type} {xs : List α} {i : Int} (h0 : 0 ≤ i) (h1 : i < xs.length) : ∃ x, x ∈ xs ∧ atI xs i = some x := by
  have hl : i.toNat < xs.length := by omega
  refine ⟨xs[i.toNat], List.getElem_mem hl, ?_⟩
  unfold atI ixN
  rw [if_pos h0, if_pos h1]
  exact List.getElem?_eq_getElem hl
theorem exR : ∃ f : Int → Bool, ∀ j, f j = decide (-(2 ^ 62) ≤ j ∧ j < 2 ^ 62) := ⟨_, fun _ => rfl⟩
/-- within a range's bounds (not to be unfolded) -/
noncomputable def okR : Int → Bool := Classical.choose exR
theorem okR_iff (j : Int) : okR j = true ↔ (-(2 ^ 62) ≤ j ∧ j < 2 ^ 62) := by
  have e : okR j = decide (-(2 ^ 62) ≤ j ∧ j < 2 ^ 62) := Classical.choose_spec exR j
  rw [e, decide_eq_true_eq]
theorem okR_of {j : Int} (h0 : -100000 ≤ j) (h1 : j ≤ 100000) : okR j = true := (okR_iff j).mpr (by omega)
theorem okR_nat {n : Nat} (h1 : n ≤ 100000) : okR (n : Int) = true := okR_of (by omega) (by omega)
theorem mRng1_s (a : EM) (ρ : En) (h : List Cell) : mRng1 a ρ h = bd (a ρ h) fun x h1 => match x with
    | .val (.int j) => if okR j = true then ret (rngD 0 j.toNat) h1 else none
    | _ => none := by
  unfold mRng1
  congr 1
  funext x h1
  cases x with
  | bor _ => rfl
  | val d =>
    cases d with
    | int j =>
      by_cases c : -(2 ^ 62) ≤ j ∧ j < 2 ^ 62
      · have e : okR j = true := (okR_iff j).mpr c
        show (if _ then _ else _) = if okR j = true then _ else _
        rw [if_pos c, if_pos e]
      · have e : ¬ okR j = true := fun z => c ((okR_iff j).mp z)
        show (if _ then _ else _) = if okR j = true then _ else _
        rw [if_neg c, if_neg e]
    | _ => rfl
theorem mRng2_s (a b : EM) (ρ : En) (h : List Cell) : mRng2 a b ρ h = bd (a ρ h) fun x h1 => bd (b ρ h1) fun y h2 => match x, y with
    | .val (.int i), .val (.int j) => if okR i = true ∧ okR j = true then ret (rngD i (j - i).toNat) h2 else none
    | _, _ => none := by
  unfold mRng2
  congr 1
  funext x h1
  congr 1
  funext y h2
  cases x with
  | bor _ => rfl
  | val d =>
    cases d with
    | int i =>
      cases y with
      | bor _ => rfl
      | val d =>
        cases d with
        | int j =>
          by_cases c : (-(2 ^ 62) ≤ i ∧ i < 2 ^ 62) ∧ -(2 ^ 62) ≤ j ∧ j < 2 ^ 62
          · have e : okR i = true ∧ okR j = true := ⟨(okR_iff i).mpr c.1, (okR_iff j).mpr c.2⟩
            show (if _ then _ else _) = if okR i = true ∧ okR j = true then _ else _
            rw [if_pos c, if_pos e]
          · have e : ¬ (okR i = true ∧ okR j = true) := fun z => c ⟨(okR_iff i).mp z.1, (okR_iff j).mp z.2⟩
            show (if _ then _ else _) = if okR i = true ∧ okR j = true then _ else _
            rw [if_neg c, if_neg e]
        | _ => rfl
    | _ => rfl
theorem seq_next {cl : Nat → FM} {s : S} {r : Ss} {ρ ρ1 : En} {h h1 : List Cell} (e : evS cl s ρ h = some (.next ρ1 h1)) : evSs cl (.cons s r) ρ h = evSs cl r ρ1 h1 := by simp only [evSs, mSeq, e]
theorem seq_ret {cl : Nat → FM} {s : S} {r : Ss} {ρ : En} {d : D} {h h1 : List Cell} (e : evS cl s ρ h = some (.ret d h1)) : evSs cl (.cons s r) ρ h = some (.ret d h1) := by simp only [evSs, mSeq, e]
theorem for_go {cl : Nat → FM} {t : Tg} {it : I} {b : Ss} {ρ : En} {h h1 : List Cell} {ds : List D} {r : Option SRes} (e1 : evi cl true it ρ h = some (.ok ds h1)) (e2 : forD t (evSs cl b) ds ρ h1 = r) : evS cl (.loop t it b) ρ h = r := by
  simp only [evS, mFor, e1, bs]
  exact e2
def Ss.tl : Nat → Ss → Ss
  | 0, s => s
  | n + 1, .cons _ r => Ss.tl n r
  | _, s => s
/-! ### draws -/
abbrev SDraw (F : FM) : Prop := ∀ (ns xs : List Int) (m : Int), ns.length ≤ 63 → 0 < m → xs.length ≤ 50000 → ∃ (r : Int) (xs' : List Int), F [.bor (ns.map D.int), .val (.ref 0), .val (.int m)] [.lst (xs.map D.int)] = some (.ok (.int r) [.lst (xs'.map D.int)]) ∧ 0 ≤ r ∧ r < m ∧ xs'.length ≤ xs.length + 2
theorem md1 (x : Int) : -18446744073709551616 < x % 4294967291 := by omega
theorem md2 (x : Int) : x % 4294967291 < 18446744073709551616 := by omega
theorem draw_ok {cl : Nat → FM} : SDraw (runF cl 8 b__law_draw) := by
  intro ns xs m hn hm hx
  have s2 : ns.length ≤ sizeLine := size_le (by omega)
  have s3 : ns.length + 1 ≤ sizeLine := size_le (by omega)
  have s4 : 1 < sizeLine := by decide
  have s5 : 1 ≤ sizeLine := by decide
  have c1 : compD (.name 3) mYes (mCallB D.bAbs (mCons (mVar 3) mNil)) [some (SV.bor (ns.map D.int)), some (SV.val (D.ref 0)), some (SV.val (D.int m)), none, none, none, none, none] (ns.map D.int) [.lst []] = some (.ok (ns.map fun i => .int (if i < 0 then -i else i)) [.lst []]) :=
    compD_map _ _ _ fun i _ => ⟨_, rfl, rfl⟩
  have c2 : ∃ z, D.bMax [.lst (ns.map (fun i => D.int (if i < 0 then -i else i)) ++ [D.int 0])] = some (.int z) := by
    have e : ns.map (fun i => D.int (if i < 0 then -i else i)) ++ [D.int 0] = (ns.map (fun i => if i < 0 then -i else i) ++ [0]).map D.int := by simp
    rw [e]
    have e2 : D.bMax [.lst ((ns.map (fun i => if i < 0 then -i else i) ++ [0]).map D.int)] = (D.ints ((ns.map (fun i => if i < 0 then -i else i) ++ [0]).map D.int)).bind fun ns => ns.max?.map D.int := rfl
    rw [e2, ints_map]
    cases q : (ns.map (fun i : Int => if i < 0 then -i else i) ++ [0]).max? with
    | none => simp at q
    | some z => exact ⟨z, by simp [q]⟩
  obtain ⟨z, c2⟩ := c2
  have fin : ∀ (x0 : Int) (xs : List Int), xs.length ≤ 50001 → ∃ (r : Int) (xs' : List Int), endOf (evSs cl (match b__law_draw with | .cons _ r => r | s => s) [some (SV.bor (ns.map D.int)), some (SV.val (D.ref 0)), some (SV.val (D.int m)), none, none, none, none, none] [.lst (D.int x0 :: xs.map D.int)]) = some (.ok (.int r) [.lst (xs'.map D.int)]) ∧ 0 ≤ r ∧ r < m ∧ xs'.length = xs.length + 2 := by
    intro x0 xs hx
    have s1 : xs.length + 1 < sizeLine := Nat.lt_of_le_of_lt (by omega : xs.length + 1 ≤ 100000) size_big
    cases ns with
    | nil =>
      simp [runF, evSs, evS, ev, evs, evo, evc, evi, mSeq, mSet, mRet, mRetN, mSkip, mDo, mIte, mUnp, mPar, mAug, mApp, mExt, mPut, mOwn, mCell, mFreeze, mFor, mRaise, mTry, findH, bs, endOf, mArgs, mAnds, mOrs, mTAnds, mTOrs, mAnd, mOr, mNot, mTAnd, mTOr, mTNot, mTru, mIsB, mIf, mChain, mUn, mBin, mVar, mC, mCons, mNil, mTup, mLst, mCallB, mCall, mCut, mPart, mNoPart, mIter, mRng1_s, mRng2_s, mEnum, mZip, mComp, mYes, bx, notOwn, wipeO, startE, RV.sv, bd, ret, lift, RV.see, see_int, see_bl, see_str, see_non, see_tup, see_lst, see_ref, D.isi, BOp.g, COp.g, Bi.g, D.cmpI, D.add, D.sub, D.mul, D.fdiv, D.mod, D.neg, D.at_, D.bLen, D.bAbs, D.bTuple, D.bList, D.bInt, allVal, setAll, Tg.set, D.truth, D.isNo, D.notNo, D.nonB, D.toInt, D.cut, D.eqO, D.neO, D.inO, D.ninO, D.dep, D.deps, D.items, D.eq, sz1, sz2, sz3, sz4, sz5, sz6, sz7, sz8, sz9, sz10, sz11, sz12, b__law_draw, s1, md1, md2, hm, at0, ixz]
      exact ⟨_, (x0 / 65536) :: (xs ++ [0]), ⟨rfl, by simp⟩, Int.emod_nonneg _ (by omega), Int.emod_lt_of_pos _ hm, by simp⟩
    | cons n0 ns =>
      have hq : 0 < (ns.length : Int) + 1 := by omega
      obtain ⟨x, hx1, hx2⟩ := atI_get (xs := D.int n0 :: ns.map D.int) (i := ((xs.length : Int) + 1 + 1) % ((ns.length : Int) + 1)) (Int.emod_nonneg _ (by omega)) (by simp only [List.length_cons, List.length_map]; exact Int.emod_lt_of_pos _ (by omega))
      obtain ⟨c4, _, rfl⟩ : ∃ c4, c4 ∈ n0 :: ns ∧ D.int c4 = x := List.mem_map.mp hx1
      simp [runF, evSs, evS, ev, evs, evo, evc, evi, mSeq, mSet, mRet, mRetN, mSkip, mDo, mIte, mUnp, mPar, mAug, mApp, mExt, mPut, mOwn, mCell, mFreeze, mFor, mRaise, mTry, findH, bs, endOf, mArgs, mAnds, mOrs, mTAnds, mTOrs, mAnd, mOr, mNot, mTAnd, mTOr, mTNot, mTru, mIsB, mIf, mChain, mUn, mBin, mVar, mC, mCons, mNil, mTup, mLst, mCallB, mCall, mCut, mPart, mNoPart, mIter, mRng1_s, mRng2_s, mEnum, mZip, mComp, mYes, bx, notOwn, wipeO, startE, RV.sv, bd, ret, lift, RV.see, see_int, see_bl, see_str, see_non, see_tup, see_lst, see_ref, D.isi, BOp.g, COp.g, Bi.g, D.cmpI, D.add, D.sub, D.mul, D.fdiv, D.mod, D.neg, D.at_, D.bLen, D.bAbs, D.bTuple, D.bList, D.bInt, allVal, setAll, Tg.set, D.truth, D.isNo, D.notNo, D.nonB, D.toInt, D.cut, D.eqO, D.neO, D.inO, D.ninO, D.dep, D.deps, D.items, D.eq, sz1, sz2, sz3, sz4, sz5, sz6, sz7, sz8, sz9, sz10, sz11, sz12, b__law_draw, s1, md1, md2, hm, at0, ixz, hq, hx2]
      exact ⟨_, (x0 / 65536) :: (xs ++ [0]), ⟨rfl, by simp⟩, Int.emod_nonneg _ (by omega), Int.emod_lt_of_pos _ hm, by simp⟩
  have st : ∀ (s : S) (r : Ss) (ρ ρ1 : En) (h h1 : List Cell), evS cl s ρ h = some (.next ρ1 h1) → evSs cl (.cons s r) ρ h = evSs cl r ρ1 h1 := fun s r ρ ρ1 h h1 e => by simp only [evSs, mSeq, e]
  have hb : ∃ s1, b__law_draw = .cons s1 (match b__law_draw with | .cons _ r => r | s => s) ∧ evS cl s1 [some (SV.bor (ns.map D.int)), some (SV.val (D.ref 0)), some (SV.val (D.int m)), none, none, none, none, none] [.lst (xs.map D.int)] =
      some (.next [some (SV.bor (ns.map D.int)), some (SV.val (D.ref 0)), some (SV.val (D.int m)), none, none, none, none, none] [.lst (match xs with | [] => [.int z] | xs => xs.map D.int)]) := by
    refine ⟨_, rfl, ?_⟩
    cases xs with
    | nil =>
      simp only [List.map_nil]
      have s6 : 0 < sizeLine := by decide
      simp [runF, evSs, evS, ev, evs, evo, evc, evi, mSeq, mSet, mRet, mRetN, mSkip, mDo, mIte, mUnp, mPar, mAug, mApp, mExt, mPut, mOwn, mCell, mFreeze, mFor, mRaise, mTry, findH, bs, endOf, mArgs, mAnds, mOrs, mTAnds, mTOrs, mAnd, mOr, mNot, mTAnd, mTOr, mTNot, mTru, mIsB, mIf, mChain, mUn, mBin, mVar, mC, mCons, mNil, mTup, mLst, mCallB, mCall, mCut, mPart, mNoPart, mIter, mRng1_s, mRng2_s, mEnum, mZip, mComp, mYes, bx, notOwn, wipeO, startE, RV.sv, bd, ret, lift, RV.see, see_int, see_bl, see_str, see_non, see_tup, see_lst, see_ref, D.isi, BOp.g, COp.g, Bi.g, D.cmpI, D.add, D.sub, D.mul, D.fdiv, D.mod, D.neg, D.at_, D.bLen, D.bAbs, D.bTuple, D.bList, D.bInt, allVal, setAll, Tg.set, D.truth, D.isNo, D.notNo, D.nonB, D.toInt, D.cut, D.eqO, D.neO, D.inO, D.ninO, D.dep, D.deps, D.items, D.eq, sz1, sz2, sz3, sz4, sz5, sz6, sz7, sz8, sz9, sz10, sz11, sz12, s2, s3, s4, s5, s6, c1, c2]
    | cons x0 xs => simp [runF, evSs, evS, ev, evs, evo, evc, evi, mSeq, mSet, mRet, mRetN, mSkip, mDo, mIte, mUnp, mPar, mAug, mApp, mExt, mPut, mOwn, mCell, mFreeze, mFor, mRaise, mTry, findH, bs, endOf, mArgs, mAnds, mOrs, mTAnds, mTOrs, mAnd, mOr, mNot, mTAnd, mTOr, mTNot, mTru, mIsB, mIf, mChain, mUn, mBin, mVar, mC, mCons, mNil, mTup, mLst, mCallB, mCall, mCut, mPart, mNoPart, mIter, mRng1_s, mRng2_s, mEnum, mZip, mComp, mYes, bx, notOwn, wipeO, startE, RV.sv, bd, ret, lift, RV.see, see_int, see_bl, see_str, see_non, see_tup, see_lst, see_ref, D.isi, BOp.g, COp.g, Bi.g, D.cmpI, D.add, D.sub, D.mul, D.fdiv, D.mod, D.neg, D.at_, D.bLen, D.bAbs, D.bTuple, D.bList, D.bInt, allVal, setAll, Tg.set, D.truth, D.isNo, D.notNo, D.nonB, D.toInt, D.cut, D.eqO, D.neO, D.inO, D.ninO, D.dep, D.deps, D.items, D.eq, sz1, sz2, sz3, sz4, sz5, sz6, sz7, sz8, sz9, sz10, sz11, sz12]
  obtain ⟨s1, hb1, hb2⟩ := hb
  unfold runF
  show ∃ r xs', endOf (evSs cl b__law_draw [some (SV.bor (ns.map D.int)), some (SV.val (D.ref 0)), some (SV.val (D.int m)), none, none, none, none, none] [.lst (xs.map D.int)]) = _ ∧ _
  rw [hb1, st _ _ _ _ _ _ hb2]
  cases xs with
  | nil =>
    obtain ⟨r, xs', e1, e2, e3, e4⟩ := fin z [] (by simp)
    exact ⟨r, xs', e1, e2, e3, by rw [e4]; simp⟩
  | cons x0 xs =>
    obtain ⟨r, xs', e1, e2, e3, e4⟩ := fin x0 xs (by simp at hx; omega)
    exact ⟨r, xs', e1, e2, e3, by rw [e4]; simp⟩
end Kb
namespace Kb
open PySem L2
def isInt (c : D) (a b : Int) : Bool := match c with
  | .int i => decide (a ≤ i) && decide (i ≤ b)
  | _ => false
def D.noRef : D → Bool
  | .ref _ => false
  | _ => true
abbrev SIsInteger (F : FM) : Prop := ∀ c a b h, c.noRef = true → F [.val c, .val (.int a), .val (.int b)] h = some (.ok (.bl (isInt c a b)) h)
theorem is_integer_ok {cl : Nat → FM} : SIsInteger (runF cl 3 b_is_integer) := by
  intro c a b h hc
  cases c with
  | ref r => cases hc
  | int i =>
    simp [runF, evSs, evS, ev, evs, evo, evc, evi, mSeq, mSet, mRet, mRetN, mSkip, mDo, mIte, mUnp, mPar, mAug, mApp, mExt, mPut, mOwn, mCell, mFreeze, mFor, mRaise, mTry, findH, bs, endOf, mArgs, mAnds, mOrs, mTAnds, mTOrs, mAnd, mOr, mNot, mTAnd, mTOr, mTNot, mTru, mIsB, mIf, mChain, mUn, mBin, mVar, mC, mCons, mNil, mTup, mLst, mCallB, mCall, mCut, mPart, mNoPart, mIter, mRng1_s, mRng2_s, mEnum, mZip, mComp, mYes, bx, notOwn, wipeO, startE, RV.sv, bd, ret, lift, RV.see, see_int, see_bl, see_str, see_non, see_tup, see_lst, see_ref, D.isi, BOp.g, COp.g, Bi.g, D.cmpI, D.add, D.sub, D.mul, D.fdiv, D.mod, D.neg, D.at_, D.bLen, D.bAbs, D.bTuple, D.bList, D.bInt, allVal, setAll, Tg.set, D.truth, D.isNo, D.notNo, D.nonB, D.toInt, D.cut, D.eqO, D.neO, D.inO, D.ninO, D.dep, D.deps, D.items, D.eq, sz1, sz2, sz3, sz4, sz5, sz6, sz7, sz8, sz9, sz10, sz11, sz12, b_is_integer, isInt]
    by_cases h1 : a ≤ i <;> by_cases h2 : i ≤ b <;> simp [h1, h2]
  | _ => simp [runF, evSs, evS, ev, evs, evo, evc, evi, mSeq, mSet, mRet, mRetN, mSkip, mDo, mIte, mUnp, mPar, mAug, mApp, mExt, mPut, mOwn, mCell, mFreeze, mFor, mRaise, mTry, findH, bs, endOf, mArgs, mAnds, mOrs, mTAnds, mTOrs, mAnd, mOr, mNot, mTAnd, mTOr, mTNot, mTru, mIsB, mIf, mChain, mUn, mBin, mVar, mC, mCons, mNil, mTup, mLst, mCallB, mCall, mCut, mPart, mNoPart, mIter, mRng1_s, mRng2_s, mEnum, mZip, mComp, mYes, bx, notOwn, wipeO, startE, RV.sv, bd, ret, lift, RV.see, see_int, see_bl, see_str, see_non, see_tup, see_lst, see_ref, D.isi, BOp.g, COp.g, Bi.g, D.cmpI, D.add, D.sub, D.mul, D.fdiv, D.mod, D.neg, D.at_, D.bLen, D.bAbs, D.bTuple, D.bList, D.bInt, allVal, setAll, Tg.set, D.truth, D.isNo, D.notNo, D.nonB, D.toInt, D.cut, D.eqO, D.neO, D.inO, D.ninO, D.dep, D.deps, D.items, D.eq, sz1, sz2, sz3, sz4, sz5, sz6, sz7, sz8, sz9, sz10, sz11, sz12, b_is_integer, isInt]
def wordD (w v : D) : Bool := match w with
  | .str s => if (s == "only") = true then isInt v 0 2 else if (s == "limit") = true then isInt v 1 24 else (("none" == s) || ("free" == s)) && isInt v 0 0
  | _ => false
abbrev SIsWord (F : FM) : Prop := ∀ w v h, w.noRef = true → v.noRef = true → F [.val w, .val v] h = some (.ok (.bl (wordD w v)) h)
theorem is_word_ok {cl : Nat → FM} {n0 : Nat} (h0 : SIsInteger (cl n0)) : SIsWord (runF cl 2 (b_is_word n0)) := by
  intro w v h hw hv
  have e1 := fun a b h => h0 v a b h hv
  cases w with
  | ref r => cases hw
  | str s =>
    have e2 : ∀ h : List Cell, D.see h v = v := by intro h; cases v <;> first | rfl | cases hv
    by_cases h1 : (s == "only") = true
    · simp [runF, evSs, evS, ev, evs, evo, evc, evi, mSeq, mSet, mRet, mRetN, mSkip, mDo, mIte, mUnp, mPar, mAug, mApp, mExt, mPut, mOwn, mCell, mFreeze, mFor, mRaise, mTry, findH, bs, endOf, mArgs, mAnds, mOrs, mTAnds, mTOrs, mAnd, mOr, mNot, mTAnd, mTOr, mTNot, mTru, mIsB, mIf, mChain, mUn, mBin, mVar, mC, mCons, mNil, mTup, mLst, mCallB, mCall, mCut, mPart, mNoPart, mIter, mRng1_s, mRng2_s, mEnum, mZip, mComp, mYes, bx, notOwn, wipeO, startE, RV.sv, bd, ret, lift, RV.see, see_int, see_bl, see_str, see_non, see_tup, see_lst, see_ref, D.isi, BOp.g, COp.g, Bi.g, D.cmpI, D.add, D.sub, D.mul, D.fdiv, D.mod, D.neg, D.at_, D.bLen, D.bAbs, D.bTuple, D.bList, D.bInt, allVal, setAll, Tg.set, D.truth, D.isNo, D.notNo, D.nonB, D.toInt, D.cut, D.eqO, D.neO, D.inO, D.ninO, D.dep, D.deps, D.items, D.eq, sz1, sz2, sz3, sz4, sz5, sz6, sz7, sz8, sz9, sz10, sz11, sz12, b_is_word, wordD, h1, e1, e2]
    · by_cases h2 : (s == "limit") = true
      · simp [runF, evSs, evS, ev, evs, evo, evc, evi, mSeq, mSet, mRet, mRetN, mSkip, mDo, mIte, mUnp, mPar, mAug, mApp, mExt, mPut, mOwn, mCell, mFreeze, mFor, mRaise, mTry, findH, bs, endOf, mArgs, mAnds, mOrs, mTAnds, mTOrs, mAnd, mOr, mNot, mTAnd, mTOr, mTNot, mTru, mIsB, mIf, mChain, mUn, mBin, mVar, mC, mCons, mNil, mTup, mLst, mCallB, mCall, mCut, mPart, mNoPart, mIter, mRng1_s, mRng2_s, mEnum, mZip, mComp, mYes, bx, notOwn, wipeO, startE, RV.sv, bd, ret, lift, RV.see, see_int, see_bl, see_str, see_non, see_tup, see_lst, see_ref, D.isi, BOp.g, COp.g, Bi.g, D.cmpI, D.add, D.sub, D.mul, D.fdiv, D.mod, D.neg, D.at_, D.bLen, D.bAbs, D.bTuple, D.bList, D.bInt, allVal, setAll, Tg.set, D.truth, D.isNo, D.notNo, D.nonB, D.toInt, D.cut, D.eqO, D.neO, D.inO, D.ninO, D.dep, D.deps, D.items, D.eq, sz1, sz2, sz3, sz4, sz5, sz6, sz7, sz8, sz9, sz10, sz11, sz12, b_is_word, wordD, h1, h2, e1, e2]
      · by_cases h3 : (("none" == s) || ("free" == s)) = true
        · simp [runF, evSs, evS, ev, evs, evo, evc, evi, mSeq, mSet, mRet, mRetN, mSkip, mDo, mIte, mUnp, mPar, mAug, mApp, mExt, mPut, mOwn, mCell, mFreeze, mFor, mRaise, mTry, findH, bs, endOf, mArgs, mAnds, mOrs, mTAnds, mTOrs, mAnd, mOr, mNot, mTAnd, mTOr, mTNot, mTru, mIsB, mIf, mChain, mUn, mBin, mVar, mC, mCons, mNil, mTup, mLst, mCallB, mCall, mCut, mPart, mNoPart, mIter, mRng1_s, mRng2_s, mEnum, mZip, mComp, mYes, bx, notOwn, wipeO, startE, RV.sv, bd, ret, lift, RV.see, see_int, see_bl, see_str, see_non, see_tup, see_lst, see_ref, D.isi, BOp.g, COp.g, Bi.g, D.cmpI, D.add, D.sub, D.mul, D.fdiv, D.mod, D.neg, D.at_, D.bLen, D.bAbs, D.bTuple, D.bList, D.bInt, allVal, setAll, Tg.set, D.truth, D.isNo, D.notNo, D.nonB, D.toInt, D.cut, D.eqO, D.neO, D.inO, D.ninO, D.dep, D.deps, D.items, D.eq, sz1, sz2, sz3, sz4, sz5, sz6, sz7, sz8, sz9, sz10, sz11, sz12, b_is_word, wordD, h1, h2, e1, e2]
          simp at h3
          simp [h3]
        · simp [runF, evSs, evS, ev, evs, evo, evc, evi, mSeq, mSet, mRet, mRetN, mSkip, mDo, mIte, mUnp, mPar, mAug, mApp, mExt, mPut, mOwn, mCell, mFreeze, mFor, mRaise, mTry, findH, bs, endOf, mArgs, mAnds, mOrs, mTAnds, mTOrs, mAnd, mOr, mNot, mTAnd, mTOr, mTNot, mTru, mIsB, mIf, mChain, mUn, mBin, mVar, mC, mCons, mNil, mTup, mLst, mCallB, mCall, mCut, mPart, mNoPart, mIter, mRng1_s, mRng2_s, mEnum, mZip, mComp, mYes, bx, notOwn, wipeO, startE, RV.sv, bd, ret, lift, RV.see, see_int, see_bl, see_str, see_non, see_tup, see_lst, see_ref, D.isi, BOp.g, COp.g, Bi.g, D.cmpI, D.add, D.sub, D.mul, D.fdiv, D.mod, D.neg, D.at_, D.bLen, D.bAbs, D.bTuple, D.bList, D.bInt, allVal, setAll, Tg.set, D.truth, D.isNo, D.notNo, D.nonB, D.toInt, D.cut, D.eqO, D.neO, D.inO, D.ninO, D.dep, D.deps, D.items, D.eq, sz1, sz2, sz3, sz4, sz5, sz6, sz7, sz8, sz9, sz10, sz11, sz12, b_is_word, wordD, h1, h2, e1, e2]
          simp at h3
          simp [h3]
  | _ => simp [runF, evSs, evS, ev, evs, evo, evc, evi, mSeq, mSet, mRet, mRetN, mSkip, mDo, mIte, mUnp, mPar, mAug, mApp, mExt, mPut, mOwn, mCell, mFreeze, mFor, mRaise, mTry, findH, bs, endOf, mArgs, mAnds, mOrs, mTAnds, mTOrs, mAnd, mOr, mNot, mTAnd, mTOr, mTNot, mTru, mIsB, mIf, mChain, mUn, mBin, mVar, mC, mCons, mNil, mTup, mLst, mCallB, mCall, mCut, mPart, mNoPart, mIter, mRng1_s, mRng2_s, mEnum, mZip, mComp, mYes, bx, notOwn, wipeO, startE, RV.sv, bd, ret, lift, RV.see, see_int, see_bl, see_str, see_non, see_tup, see_lst, see_ref, D.isi, BOp.g, COp.g, Bi.g, D.cmpI, D.add, D.sub, D.mul, D.fdiv, D.mod, D.neg, D.at_, D.bLen, D.bAbs, D.bTuple, D.bList, D.bInt, allVal, setAll, Tg.set, D.truth, D.isNo, D.notNo, D.nonB, D.toInt, D.cut, D.eqO, D.neO, D.inO, D.ninO, D.dep, D.deps, D.items, D.eq, sz1, sz2, sz3, sz4, sz5, sz6, sz7, sz8, sz9, sz10, sz11, sz12, b_is_word, wordD]
/-! ### days -/
def incr : List Int → Bool
  | a :: b :: r => decide (a < b) && incr (b :: r)
  | _ => true
def daysOk (ds : List Int) : Bool := decide (1 ≤ ds.length) && decide (ds.length ≤ 7) && ds.all (fun d => decide (0 ≤ d) && decide (d ≤ 6)) && incr ds
abbrev SAreDays (F : FM) : Prop := ∀ (ds : List Int) h, ds.length ≤ 7 → F [.val (.tup (ds.map D.int))] h = some (.ok (.bl (daysOk ds)) h)
theorem all_id (bs : List Bool) : D.bAll [.lst (bs.map D.bl)] = some (.bl (bs.all id)) := by
  have : D.bAll [.lst (bs.map D.bl)] = (D.bls (bs.map D.bl)).map fun bs => .bl (bs.all id) := rfl
  rw [this, bls_map]
  rfl
theorem any_id (bs : List Bool) : D.bAny [.lst (bs.map D.bl)] = some (.bl (bs.any id)) := by
  have : D.bAny [.lst (bs.map D.bl)] = (D.bls (bs.map D.bl)).map fun bs => .bl (bs.any id) := rfl
  rw [this, bls_map]
  rfl
theorem all_of {α : Type} (l : List α) (p : α → Bool) : D.bAll [.lst (l.map fun x => D.bl (p x))] = some (.bl (l.all p)) := by
  have e : (l.map fun x => D.bl (p x)) = (l.map p).map D.bl := by simp
  rw [e, all_id]
  simp [List.all_map]
theorem any_of {α : Type} (l : List α) (p : α → Bool) : D.bAny [.lst (l.map fun x => D.bl (p x))] = some (.bl (l.any p)) := by
  have e : (l.map fun x => D.bl (p x)) = (l.map p).map D.bl := by simp
  rw [e, any_id]
  simp [List.any_map]
theorem cut1 {α : Type} (xs : List α) : cutD xs (some 1) none = xs.tail := by
  unfold cutD HT.sIx
  cases xs with
  | nil => rfl
  | cons a r =>
    have e : min (Int.toNat 1) (r.length + 1) = 1 := by omega
    simp only [if_neg (by omega : ¬ (1 : Int) < 0), List.length_cons, e, List.drop_succ_cons, List.drop_zero, Nat.add_sub_cancel, List.take_length, List.tail_cons]
theorem zip_pairs (ds : List Int) : zipD (ds.map D.int) (ds.map D.int).tail = (ds.zip (ds.drop 1)).map fun p => .tup [.int p.1, .int p.2] := by
  have : ∀ (a b : List Int), zipD (a.map D.int) (b.map D.int) = (a.zip b).map fun p => .tup [.int p.1, .int p.2] := by
    intro a
    induction a with
    | nil => intro b; simp [zipD]
    | cons x r ih => intro b; cases b <;> simp [zipD, ih]
  rw [← List.drop_one, ← List.map_drop]
  exact this _ _
theorem incr_zip (ds : List Int) : (ds.zip (ds.drop 1)).all (fun p => decide (p.1 < p.2)) = incr ds := by
  induction ds with
  | nil => rfl
  | cons a r ih =>
    cases r with
    | nil => rfl
    | cons b r => simp only [List.drop_succ_cons, List.drop_zero, List.zip_cons_cons, List.all_cons, incr] at ih ⊢; rw [ih]
theorem are_days_ok {cl : Nat → FM} {n0 : Nat} (h0 : SIsInteger (cl n0)) : SAreDays (runF cl 3 (b_are_days n0)) := by
  intro ds h hl
  have s1 : ds.length ≤ sizeLine := size_le (by omega)
  have e1 := fun (i : Int) a b h => h0 (.int i) a b h rfl
  have c1 : compD (.name 1) mYes (mCall 3 (cl n0) (mCons (mVar 1) (mCons (mC (.int 0)) (mCons (mC (.int 6)) mNil)))) [some (SV.val (.tup (ds.map D.int))), none, none] (ds.map D.int) h = some (.ok (ds.map fun i => .bl (isInt (.int i) 0 6)) h) :=
    compD_map _ _ _ fun i _ => ⟨_, rfl, by simp [runF, evSs, evS, ev, evs, evo, evc, evi, mSeq, mSet, mRet, mRetN, mSkip, mDo, mIte, mUnp, mPar, mAug, mApp, mExt, mPut, mOwn, mCell, mFreeze, mFor, mRaise, mTry, findH, bs, endOf, mArgs, mAnds, mOrs, mTAnds, mTOrs, mAnd, mOr, mNot, mTAnd, mTOr, mTNot, mTru, mIsB, mIf, mChain, mUn, mBin, mVar, mC, mCons, mNil, mTup, mLst, mCallB, mCall, mCut, mPart, mNoPart, mIter, mRng1_s, mRng2_s, mEnum, mZip, mComp, mYes, bx, notOwn, wipeO, startE, RV.sv, bd, ret, lift, RV.see, see_int, see_bl, see_str, see_non, see_tup, see_lst, see_ref, D.isi, BOp.g, COp.g, Bi.g, D.cmpI, D.add, D.sub, D.mul, D.fdiv, D.mod, D.neg, D.at_, D.bLen, D.bAbs, D.bTuple, D.bList, D.bInt, allVal, setAll, Tg.set, D.truth, D.isNo, D.notNo, D.nonB, D.toInt, D.cut, D.eqO, D.neO, D.inO, D.ninO, D.dep, D.deps, D.items, D.eq, sz1, sz2, sz3, sz4, sz5, sz6, sz7, sz8, sz9, sz10, sz11, sz12, e1]⟩
  have c2 : compD (.tup [1, 2]) mYes (mBin (D.cmpI fun i j => decide (i < j)) (mVar 1) (mVar 2)) [some (SV.val (.tup (ds.map D.int))), none, none] (zipD (ds.map D.int) (ds.map D.int).tail) h = some (.ok ((ds.zip (ds.drop 1)).map fun p => .bl (decide (p.1 < p.2))) h) := by
    rw [zip_pairs]
    exact compD_map _ _ _ fun p _ => ⟨_, rfl, by simp [runF, evSs, evS, ev, evs, evo, evc, evi, mSeq, mSet, mRet, mRetN, mSkip, mDo, mIte, mUnp, mPar, mAug, mApp, mExt, mPut, mOwn, mCell, mFreeze, mFor, mRaise, mTry, findH, bs, endOf, mArgs, mAnds, mOrs, mTAnds, mTOrs, mAnd, mOr, mNot, mTAnd, mTOr, mTNot, mTru, mIsB, mIf, mChain, mUn, mBin, mVar, mC, mCons, mNil, mTup, mLst, mCallB, mCall, mCut, mPart, mNoPart, mIter, mRng1_s, mRng2_s, mEnum, mZip, mComp, mYes, bx, notOwn, wipeO, startE, RV.sv, bd, ret, lift, RV.see, see_int, see_bl, see_str, see_non, see_tup, see_lst, see_ref, D.isi, BOp.g, COp.g, Bi.g, D.cmpI, D.add, D.sub, D.mul, D.fdiv, D.mod, D.neg, D.at_, D.bLen, D.bAbs, D.bTuple, D.bList, D.bInt, allVal, setAll, Tg.set, D.truth, D.isNo, D.notNo, D.nonB, D.toInt, D.cut, D.eqO, D.neO, D.inO, D.ninO, D.dep, D.deps, D.items, D.eq, sz1, sz2, sz3, sz4, sz5, sz6, sz7, sz8, sz9, sz10, sz11, sz12]⟩
  have z1 : (zipD (ds.map D.int) (ds.map D.int).tail).length ≤ sizeLine := by rw [zipD_len]; simp; omega
  by_cases hd : ds = []
  · subst hd; simp [runF, evSs, evS, ev, evs, evo, evc, evi, mSeq, mSet, mRet, mRetN, mSkip, mDo, mIte, mUnp, mPar, mAug, mApp, mExt, mPut, mOwn, mCell, mFreeze, mFor, mRaise, mTry, findH, bs, endOf, mArgs, mAnds, mOrs, mTAnds, mTOrs, mAnd, mOr, mNot, mTAnd, mTOr, mTNot, mTru, mIsB, mIf, mChain, mUn, mBin, mVar, mC, mCons, mNil, mTup, mLst, mCallB, mCall, mCut, mPart, mNoPart, mIter, mRng1_s, mRng2_s, mEnum, mZip, mComp, mYes, bx, notOwn, wipeO, startE, RV.sv, bd, ret, lift, RV.see, see_int, see_bl, see_str, see_non, see_tup, see_lst, see_ref, D.isi, BOp.g, COp.g, Bi.g, D.cmpI, D.add, D.sub, D.mul, D.fdiv, D.mod, D.neg, D.at_, D.bLen, D.bAbs, D.bTuple, D.bList, D.bInt, allVal, setAll, Tg.set, D.truth, D.isNo, D.notNo, D.nonB, D.toInt, D.cut, D.eqO, D.neO, D.inO, D.ninO, D.dep, D.deps, D.items, D.eq, sz1, sz2, sz3, sz4, sz5, sz6, sz7, sz8, sz9, sz10, sz11, sz12, b_are_days, daysOk]
  · have hp : 0 < ds.length := List.length_pos_iff.mpr hd
    have k1 : (1 : Int) ≤ ds.length := by omega
    have k2 : (ds.length : Int) ≤ 7 := by omega
    have k3 : 1 ≤ ds.length := by omega
    have ea : (ds.all fun i => isInt (.int i) 0 6) = ds.all fun d => decide (0 ≤ d) && decide (d ≤ 6) := rfl
    cases hb : (ds.all fun d => decide (0 ≤ d) && decide (d ≤ 6)) with
    | true =>
      rw [hb] at ea
      simp [runF, evSs, evS, ev, evs, evo, evc, evi, mSeq, mSet, mRet, mRetN, mSkip, mDo, mIte, mUnp, mPar, mAug, mApp, mExt, mPut, mOwn, mCell, mFreeze, mFor, mRaise, mTry, findH, bs, endOf, mArgs, mAnds, mOrs, mTAnds, mTOrs, mAnd, mOr, mNot, mTAnd, mTOr, mTNot, mTru, mIsB, mIf, mChain, mUn, mBin, mVar, mC, mCons, mNil, mTup, mLst, mCallB, mCall, mCut, mPart, mNoPart, mIter, mRng1_s, mRng2_s, mEnum, mZip, mComp, mYes, bx, notOwn, wipeO, startE, RV.sv, bd, ret, lift, RV.see, see_int, see_bl, see_str, see_non, see_tup, see_lst, see_ref, D.isi, BOp.g, COp.g, Bi.g, D.cmpI, D.add, D.sub, D.mul, D.fdiv, D.mod, D.neg, D.at_, D.bLen, D.bAbs, D.bTuple, D.bList, D.bInt, allVal, setAll, Tg.set, D.truth, D.isNo, D.notNo, D.nonB, D.toInt, D.cut, D.eqO, D.neO, D.inO, D.ninO, D.dep, D.deps, D.items, D.eq, sz1, sz2, sz3, sz4, sz5, sz6, sz7, sz8, sz9, sz10, sz11, sz12, b_are_days, k1, k2, s1, c1, all_of, ea, daysOk, k3, hl, cut1, z1, c2, hb]
      rw [← List.drop_one]
      exact incr_zip ds
    | false => 
      rw [hb] at ea
      simp [runF, evSs, evS, ev, evs, evo, evc, evi, mSeq, mSet, mRet, mRetN, mSkip, mDo, mIte, mUnp, mPar, mAug, mApp, mExt, mPut, mOwn, mCell, mFreeze, mFor, mRaise, mTry, findH, bs, endOf, mArgs, mAnds, mOrs, mTAnds, mTOrs, mAnd, mOr, mNot, mTAnd, mTOr, mTNot, mTru, mIsB, mIf, mChain, mUn, mBin, mVar, mC, mCons, mNil, mTup, mLst, mCallB, mCall, mCut, mPart, mNoPart, mIter, mRng1_s, mRng2_s, mEnum, mZip, mComp, mYes, bx, notOwn, wipeO, startE, RV.sv, bd, ret, lift, RV.see, see_int, see_bl, see_str, see_non, see_tup, see_lst, see_ref, D.isi, BOp.g, COp.g, Bi.g, D.cmpI, D.add, D.sub, D.mul, D.fdiv, D.mod, D.neg, D.at_, D.bLen, D.bAbs, D.bTuple, D.bList, D.bInt, allVal, setAll, Tg.set, D.truth, D.isNo, D.notNo, D.nonB, D.toInt, D.cut, D.eqO, D.neO, D.inO, D.ninO, D.dep, D.deps, D.items, D.eq, sz1, sz2, sz3, sz4, sz5, sz6, sz7, sz8, sz9, sz10, sz11, sz12, b_are_days, k1, k2, s1, c1, all_of, ea, daysOk, k3, hl, hb]
/-! ### signs, streets -/
structure Sg where
  rank : Int
  start : Int
  stop : Int
  days : List Int
  first : Int
  last : Int
  word : Str
  value : Int
deriving DecidableEq
def Sg.d (s : Sg) : D := .tup [.int s.rank, .int s.start, .int s.stop, .tup (s.days.map D.int), .int s.first, .int s.last, .str s.word, .int s.value]
def rngB (i a b : Int) : Bool := decide (a ≤ i) && decide (i ≤ b)
def sgOk (places : Int) (s : Sg) : Bool := rngB s.rank 0 3 && rngB s.stop 1 places && rngB s.start 0 (s.stop - 1) && daysOk s.days && rngB s.first 0 23 && rngB s.last 0 24 && wordD (.str s.word) (.int s.value)
abbrev SIsSign (F : FM) : Prop := ∀ (places : Int) (s : Sg) h, s.days.length ≤ 7 → F [.val (.int places), .val s.d] h = some (.ok (.bl (sgOk places s)) h)
theorem is_sign_ok {cl : Nat → FM} {n0 n1 n2 : Nat} (h0 : SIsWord (cl n0)) (h1 : SIsInteger (cl n1)) (h2 : SAreDays (cl n2)) : SIsSign (runF cl 10 (b_is_sign n0 n1 n2)) := by
  intro places s h hl
  have e0 := fun w (v : Int) h => h0 (.str w) (.int v) h rfl rfl
  have e1 := fun (i : Int) a b h => h1 (.int i) a b h rfl
  have e2 := fun h => h2 s.days h hl
  have r : ∀ i a b, isInt (.int i) a b = rngB i a b := fun _ _ _ => rfl
  simp only [r] at e1
  cases a1 : rngB s.rank 0 3 with
  | false => simp [runF, evSs, evS, ev, evs, evo, evc, evi, mSeq, mSet, mRet, mRetN, mSkip, mDo, mIte, mUnp, mPar, mAug, mApp, mExt, mPut, mOwn, mCell, mFreeze, mFor, mRaise, mTry, findH, bs, endOf, mArgs, mAnds, mOrs, mTAnds, mTOrs, mAnd, mOr, mNot, mTAnd, mTOr, mTNot, mTru, mIsB, mIf, mChain, mUn, mBin, mVar, mC, mCons, mNil, mTup, mLst, mCallB, mCall, mCut, mPart, mNoPart, mIter, mRng1_s, mRng2_s, mEnum, mZip, mComp, mYes, bx, notOwn, wipeO, startE, RV.sv, bd, ret, lift, RV.see, see_int, see_bl, see_str, see_non, see_tup, see_lst, see_ref, D.isi, BOp.g, COp.g, Bi.g, D.cmpI, D.add, D.sub, D.mul, D.fdiv, D.mod, D.neg, D.at_, D.bLen, D.bAbs, D.bTuple, D.bList, D.bInt, allVal, setAll, Tg.set, D.truth, D.isNo, D.notNo, D.nonB, D.toInt, D.cut, D.eqO, D.neO, D.inO, D.ninO, D.dep, D.deps, D.items, D.eq, sz1, sz2, sz3, sz4, sz5, sz6, sz7, sz8, sz9, sz10, sz11, sz12, b_is_sign, Sg.d, e1, a1, sgOk]
  | true =>
    cases a2 : rngB s.stop 1 places with
    | false => simp [runF, evSs, evS, ev, evs, evo, evc, evi, mSeq, mSet, mRet, mRetN, mSkip, mDo, mIte, mUnp, mPar, mAug, mApp, mExt, mPut, mOwn, mCell, mFreeze, mFor, mRaise, mTry, findH, bs, endOf, mArgs, mAnds, mOrs, mTAnds, mTOrs, mAnd, mOr, mNot, mTAnd, mTOr, mTNot, mTru, mIsB, mIf, mChain, mUn, mBin, mVar, mC, mCons, mNil, mTup, mLst, mCallB, mCall, mCut, mPart, mNoPart, mIter, mRng1_s, mRng2_s, mEnum, mZip, mComp, mYes, bx, notOwn, wipeO, startE, RV.sv, bd, ret, lift, RV.see, see_int, see_bl, see_str, see_non, see_tup, see_lst, see_ref, D.isi, BOp.g, COp.g, Bi.g, D.cmpI, D.add, D.sub, D.mul, D.fdiv, D.mod, D.neg, D.at_, D.bLen, D.bAbs, D.bTuple, D.bList, D.bInt, allVal, setAll, Tg.set, D.truth, D.isNo, D.notNo, D.nonB, D.toInt, D.cut, D.eqO, D.neO, D.inO, D.ninO, D.dep, D.deps, D.items, D.eq, sz1, sz2, sz3, sz4, sz5, sz6, sz7, sz8, sz9, sz10, sz11, sz12, b_is_sign, Sg.d, e1, a1, a2, sgOk]
    | true =>
      cases a3 : rngB s.start 0 (s.stop - 1) with
      | false => simp [runF, evSs, evS, ev, evs, evo, evc, evi, mSeq, mSet, mRet, mRetN, mSkip, mDo, mIte, mUnp, mPar, mAug, mApp, mExt, mPut, mOwn, mCell, mFreeze, mFor, mRaise, mTry, findH, bs, endOf, mArgs, mAnds, mOrs, mTAnds, mTOrs, mAnd, mOr, mNot, mTAnd, mTOr, mTNot, mTru, mIsB, mIf, mChain, mUn, mBin, mVar, mC, mCons, mNil, mTup, mLst, mCallB, mCall, mCut, mPart, mNoPart, mIter, mRng1_s, mRng2_s, mEnum, mZip, mComp, mYes, bx, notOwn, wipeO, startE, RV.sv, bd, ret, lift, RV.see, see_int, see_bl, see_str, see_non, see_tup, see_lst, see_ref, D.isi, BOp.g, COp.g, Bi.g, D.cmpI, D.add, D.sub, D.mul, D.fdiv, D.mod, D.neg, D.at_, D.bLen, D.bAbs, D.bTuple, D.bList, D.bInt, allVal, setAll, Tg.set, D.truth, D.isNo, D.notNo, D.nonB, D.toInt, D.cut, D.eqO, D.neO, D.inO, D.ninO, D.dep, D.deps, D.items, D.eq, sz1, sz2, sz3, sz4, sz5, sz6, sz7, sz8, sz9, sz10, sz11, sz12, b_is_sign, Sg.d, e1, a1, a2, a3, sgOk]
      | true =>
        cases a4 : daysOk s.days with
        | false => simp [runF, evSs, evS, ev, evs, evo, evc, evi, mSeq, mSet, mRet, mRetN, mSkip, mDo, mIte, mUnp, mPar, mAug, mApp, mExt, mPut, mOwn, mCell, mFreeze, mFor, mRaise, mTry, findH, bs, endOf, mArgs, mAnds, mOrs, mTAnds, mTOrs, mAnd, mOr, mNot, mTAnd, mTOr, mTNot, mTru, mIsB, mIf, mChain, mUn, mBin, mVar, mC, mCons, mNil, mTup, mLst, mCallB, mCall, mCut, mPart, mNoPart, mIter, mRng1_s, mRng2_s, mEnum, mZip, mComp, mYes, bx, notOwn, wipeO, startE, RV.sv, bd, ret, lift, RV.see, see_int, see_bl, see_str, see_non, see_tup, see_lst, see_ref, D.isi, BOp.g, COp.g, Bi.g, D.cmpI, D.add, D.sub, D.mul, D.fdiv, D.mod, D.neg, D.at_, D.bLen, D.bAbs, D.bTuple, D.bList, D.bInt, allVal, setAll, Tg.set, D.truth, D.isNo, D.notNo, D.nonB, D.toInt, D.cut, D.eqO, D.neO, D.inO, D.ninO, D.dep, D.deps, D.items, D.eq, sz1, sz2, sz3, sz4, sz5, sz6, sz7, sz8, sz9, sz10, sz11, sz12, b_is_sign, Sg.d, e1, e2, a1, a2, a3, a4, sgOk]
        | true =>
          cases a5 : rngB s.first 0 23 with
          | false => simp [runF, evSs, evS, ev, evs, evo, evc, evi, mSeq, mSet, mRet, mRetN, mSkip, mDo, mIte, mUnp, mPar, mAug, mApp, mExt, mPut, mOwn, mCell, mFreeze, mFor, mRaise, mTry, findH, bs, endOf, mArgs, mAnds, mOrs, mTAnds, mTOrs, mAnd, mOr, mNot, mTAnd, mTOr, mTNot, mTru, mIsB, mIf, mChain, mUn, mBin, mVar, mC, mCons, mNil, mTup, mLst, mCallB, mCall, mCut, mPart, mNoPart, mIter, mRng1_s, mRng2_s, mEnum, mZip, mComp, mYes, bx, notOwn, wipeO, startE, RV.sv, bd, ret, lift, RV.see, see_int, see_bl, see_str, see_non, see_tup, see_lst, see_ref, D.isi, BOp.g, COp.g, Bi.g, D.cmpI, D.add, D.sub, D.mul, D.fdiv, D.mod, D.neg, D.at_, D.bLen, D.bAbs, D.bTuple, D.bList, D.bInt, allVal, setAll, Tg.set, D.truth, D.isNo, D.notNo, D.nonB, D.toInt, D.cut, D.eqO, D.neO, D.inO, D.ninO, D.dep, D.deps, D.items, D.eq, sz1, sz2, sz3, sz4, sz5, sz6, sz7, sz8, sz9, sz10, sz11, sz12, b_is_sign, Sg.d, e1, e2, a1, a2, a3, a4, a5, sgOk]
          | true =>
            cases a6 : rngB s.last 0 24 with
            | false => simp [runF, evSs, evS, ev, evs, evo, evc, evi, mSeq, mSet, mRet, mRetN, mSkip, mDo, mIte, mUnp, mPar, mAug, mApp, mExt, mPut, mOwn, mCell, mFreeze, mFor, mRaise, mTry, findH, bs, endOf, mArgs, mAnds, mOrs, mTAnds, mTOrs, mAnd, mOr, mNot, mTAnd, mTOr, mTNot, mTru, mIsB, mIf, mChain, mUn, mBin, mVar, mC, mCons, mNil, mTup, mLst, mCallB, mCall, mCut, mPart, mNoPart, mIter, mRng1_s, mRng2_s, mEnum, mZip, mComp, mYes, bx, notOwn, wipeO, startE, RV.sv, bd, ret, lift, RV.see, see_int, see_bl, see_str, see_non, see_tup, see_lst, see_ref, D.isi, BOp.g, COp.g, Bi.g, D.cmpI, D.add, D.sub, D.mul, D.fdiv, D.mod, D.neg, D.at_, D.bLen, D.bAbs, D.bTuple, D.bList, D.bInt, allVal, setAll, Tg.set, D.truth, D.isNo, D.notNo, D.nonB, D.toInt, D.cut, D.eqO, D.neO, D.inO, D.ninO, D.dep, D.deps, D.items, D.eq, sz1, sz2, sz3, sz4, sz5, sz6, sz7, sz8, sz9, sz10, sz11, sz12, b_is_sign, Sg.d, e1, e2, a1, a2, a3, a4, a5, a6, sgOk]
            | true => simp [runF, evSs, evS, ev, evs, evo, evc, evi, mSeq, mSet, mRet, mRetN, mSkip, mDo, mIte, mUnp, mPar, mAug, mApp, mExt, mPut, mOwn, mCell, mFreeze, mFor, mRaise, mTry, findH, bs, endOf, mArgs, mAnds, mOrs, mTAnds, mTOrs, mAnd, mOr, mNot, mTAnd, mTOr, mTNot, mTru, mIsB, mIf, mChain, mUn, mBin, mVar, mC, mCons, mNil, mTup, mLst, mCallB, mCall, mCut, mPart, mNoPart, mIter, mRng1_s, mRng2_s, mEnum, mZip, mComp, mYes, bx, notOwn, wipeO, startE, RV.sv, bd, ret, lift, RV.see, see_int, see_bl, see_str, see_non, see_tup, see_lst, see_ref, D.isi, BOp.g, COp.g, Bi.g, D.cmpI, D.add, D.sub, D.mul, D.fdiv, D.mod, D.neg, D.at_, D.bLen, D.bAbs, D.bTuple, D.bList, D.bInt, allVal, setAll, Tg.set, D.truth, D.isNo, D.notNo, D.nonB, D.toInt, D.cut, D.eqO, D.neO, D.inO, D.ninO, D.dep, D.deps, D.items, D.eq, sz1, sz2, sz3, sz4, sz5, sz6, sz7, sz8, sz9, sz10, sz11, sz12, b_is_sign, Sg.d, e0, e1, e2, a1, a2, a3, a4, a5, a6, sgOk]
def stD (p : Int) (l : List Sg) : D := .tup [.int p, .tup (l.map Sg.d)]
structure Str8 (p : Int) (l : List Sg) : Prop where
  p1 : 1 ≤ p
  p4 : p ≤ 4
  len : l.length ≤ 6
  ok : ∀ s ∈ l, sgOk p s = true
  nd : l.Nodup
theorem sgOk_days {p : Int} {s : Sg} (h : sgOk p s = true) : s.days.length ≤ 7 := by
  unfold sgOk daysOk at h
  simp at h
  omega
theorem eqs_ints (a b : List Int) : D.eqs (a.map D.int) (b.map D.int) = decide (a = b) := by
  induction a generalizing b with
  | nil => cases b <;> simp [D.eqs]
  | cons x r ih =>
    cases b with
    | nil => simp [D.eqs]
    | cons y s => simp [D.eqs, D.eq, ih, Bool.decide_and]; rfl
theorem sg_eq (s t : Sg) : D.eq s.d t.d = decide (s = t) := by
  obtain ⟨a1, a2, a3, a4, a5, a6, a7, a8⟩ := s
  obtain ⟨b1, b2, b3, b4, b5, b6, b7, b8⟩ := t
  simp [Sg.d, D.eq, D.eqs, eqs_ints, Bool.decide_and]
  rw [Bool.eq_iff_iff]
  simp only [Bool.and_eq_true, beq_iff_eq, decide_eq_true_eq]
theorem deps_ints (a : List Int) : D.deps (a.map D.int) = 0 := by
  induction a with
  | nil => rfl
  | cons x r ih => simp [D.deps, D.dep, ih]
theorem deps_sgs (l : List Sg) : D.deps (l.map Sg.d) ≤ 2 := by
  induction l with
  | nil => simp [D.deps]
  | cons x r ih => simp [D.deps, D.dep, Sg.d, deps_ints]; omega
def Sg.k (s : Sg) : NestedKey := .tup [.num s.rank, .num s.start, .num s.stop, .tup (s.days.map .num), .num s.first, .num s.last, .text s.word, .num s.value]
theorem keyL_ints (a : List Int) : D.keyL (a.map D.int) = some (a.map .num) := by
  induction a with
  | nil => rfl
  | cons x r ih => simp [D.keyL, D.key, ih]
theorem key_sg (s : Sg) : D.key s.d = some s.k := by simp [Sg.d, Sg.k, D.key, D.keyL, keyL_ints]
theorem keyL_sgs (l : List Sg) : D.keyL (l.map Sg.d) = some (l.map Sg.k) := by
  induction l with
  | nil => rfl
  | cons x r ih => simp [D.keyL, key_sg, ih]
theorem depth_nums (a : List Int) : NestedKey.depthAll (a.map .num) = 0 := by
  induction a with
  | nil => rfl
  | cons x r ih => simp [NestedKey.depthAll, NestedKey.depth, ih]
theorem depth_sgs (l : List Sg) : NestedKey.depthAll (l.map Sg.k) ≤ 2 := by
  induction l with
  | nil => simp [NestedKey.depthAll]
  | cons x r ih => simp [NestedKey.depthAll, NestedKey.depth, Sg.k, depth_nums]; omega
theorem nums_inj : ∀ {a b : List Int}, a.map NestedKey.num = b.map NestedKey.num → a = b
  | [], [], _ => rfl
  | [], _ :: _, h => by simp at h
  | _ :: _, [], h => by simp at h
  | x :: a, y :: b, h => by
    simp only [List.map_cons, List.cons.injEq, NestedKey.num.injEq] at h
    rw [h.1, nums_inj h.2]
theorem sgk_inj {s t : Sg} (h : s.k = t.k) : s = t := by
  obtain ⟨a1, a2, a3, a4, a5, a6, a7, a8⟩ := s
  obtain ⟨b1, b2, b3, b4, b5, b6, b7, b8⟩ := t
  simp only [Sg.k, NestedKey.tup.injEq, List.cons.injEq, NestedKey.num.injEq, NestedKey.text.injEq, and_true] at h
  obtain ⟨rfl, rfl, rfl, h4, rfl, rfl, rfl, rfl⟩ := h
  rw [nums_inj h4]
theorem nub_same : ∀ {l : List NestedKey}, l.Nodup → nubK l = l
  | [], _ => rfl
  | k :: r, h => by
    have h1 := List.nodup_cons.mp h
    unfold nubK
    rw [if_neg h1.1, nub_same h1.2]
theorem lenSet_sgs {l : List Sg} (h : l.Nodup) (hl : l.length ≤ 6) : D.lenSet (.tup (l.map Sg.d)) = some (.int l.length) := by
  have nd : (l.map Sg.k).Nodup := List.Pairwise.map _ (fun a b ne e => ne (sgk_inj e)) h
  have dp := depth_sgs l
  have ht : (l.map Sg.d).all D.isT = true := by
    rw [List.all_eq_true]
    intro d hd
    obtain ⟨s, _, rfl⟩ := List.mem_map.mp hd
    rfl
  simp only [D.lenSet, keyL_sgs]
  rw [if_pos ⟨by rw [List.length_map]; omega, by omega, ht⟩, nub_same nd, List.length_map]
abbrev SIsStreet (F : FM) : Prop := (∀ p l h, Str8 p l → F [.val (stD p l)] h = some (.ok (.bl true) h)) ∧ (∀ h, F [.val .non] h = some (.ok (.bl false) h)) ∧ (∀ h, F [.val (.tup [.int 0, .tup []])] h = some (.ok (.bl false) h))
theorem is_street_ok {cl : Nat → FM} {n0 n1 : Nat} (h0 : SIsSign (cl n0)) (h1 : SIsInteger (cl n1)) : SIsStreet (runF cl 4 (b_is_street n0 n1)) := by
  have e1 := fun (i : Int) a b h => h1 (.int i) a b h rfl
  refine ⟨fun p l h S => ?_, fun h => by simp [runF, evSs, evS, ev, evs, evo, evc, evi, mSeq, mSet, mRet, mRetN, mSkip, mDo, mIte, mUnp, mPar, mAug, mApp, mExt, mPut, mOwn, mCell, mFreeze, mFor, mRaise, mTry, findH, bs, endOf, mArgs, mAnds, mOrs, mTAnds, mTOrs, mAnd, mOr, mNot, mTAnd, mTOr, mTNot, mTru, mIsB, mIf, mChain, mUn, mBin, mVar, mC, mCons, mNil, mTup, mLst, mCallB, mCall, mCut, mPart, mNoPart, mIter, mRng1_s, mRng2_s, mEnum, mZip, mComp, mYes, bx, notOwn, wipeO, startE, RV.sv, bd, ret, lift, RV.see, see_int, see_bl, see_str, see_non, see_tup, see_lst, see_ref, D.isi, BOp.g, COp.g, Bi.g, D.cmpI, D.add, D.sub, D.mul, D.fdiv, D.mod, D.neg, D.at_, D.bLen, D.bAbs, D.bTuple, D.bList, D.bInt, allVal, setAll, Tg.set, D.truth, D.isNo, D.notNo, D.nonB, D.toInt, D.cut, D.eqO, D.neO, D.inO, D.ninO, D.dep, D.deps, D.items, D.eq, sz1, sz2, sz3, sz4, sz5, sz6, sz7, sz8, sz9, sz10, sz11, sz12, b_is_street], fun h => by simp [runF, evSs, evS, ev, evs, evo, evc, evi, mSeq, mSet, mRet, mRetN, mSkip, mDo, mIte, mUnp, mPar, mAug, mApp, mExt, mPut, mOwn, mCell, mFreeze, mFor, mRaise, mTry, findH, bs, endOf, mArgs, mAnds, mOrs, mTAnds, mTOrs, mAnd, mOr, mNot, mTAnd, mTOr, mTNot, mTru, mIsB, mIf, mChain, mUn, mBin, mVar, mC, mCons, mNil, mTup, mLst, mCallB, mCall, mCut, mPart, mNoPart, mIter, mRng1_s, mRng2_s, mEnum, mZip, mComp, mYes, bx, notOwn, wipeO, startE, RV.sv, bd, ret, lift, RV.see, see_int, see_bl, see_str, see_non, see_tup, see_lst, see_ref, D.isi, BOp.g, COp.g, Bi.g, D.cmpI, D.add, D.sub, D.mul, D.fdiv, D.mod, D.neg, D.at_, D.bLen, D.bAbs, D.bTuple, D.bList, D.bInt, allVal, setAll, Tg.set, D.truth, D.isNo, D.notNo, D.nonB, D.toInt, D.cut, D.eqO, D.neO, D.inO, D.ninO, D.dep, D.deps, D.items, D.eq, sz1, sz2, sz3, sz4, sz5, sz6, sz7, sz8, sz9, sz10, sz11, sz12, b_is_street, e1, at0, isInt]⟩
  have s1 : l.length ≤ sizeLine := size_le (by have := S.len; omega)
  have c1 : compD (.name 3) mYes (mCall 2 (cl n0) (mCons (mVar 1) (mCons (mVar 3) mNil))) [some (SV.val (stD p l)), some (SV.val (.int p)), some (SV.val (.tup (l.map Sg.d))), none] (l.map Sg.d) h = some (.ok (l.map fun s => .bl (sgOk p s)) h) :=
    compD_map _ _ _ fun s hs => ⟨_, rfl, by simp [runF, evSs, evS, ev, evs, evo, evc, evi, mSeq, mSet, mRet, mRetN, mSkip, mDo, mIte, mUnp, mPar, mAug, mApp, mExt, mPut, mOwn, mCell, mFreeze, mFor, mRaise, mTry, findH, bs, endOf, mArgs, mAnds, mOrs, mTAnds, mTOrs, mAnd, mOr, mNot, mTAnd, mTOr, mTNot, mTru, mIsB, mIf, mChain, mUn, mBin, mVar, mC, mCons, mNil, mTup, mLst, mCallB, mCall, mCut, mPart, mNoPart, mIter, mRng1_s, mRng2_s, mEnum, mZip, mComp, mYes, bx, notOwn, wipeO, startE, RV.sv, bd, ret, lift, RV.see, see_int, see_bl, see_str, see_non, see_tup, see_lst, see_ref, D.isi, BOp.g, COp.g, Bi.g, D.cmpI, D.add, D.sub, D.mul, D.fdiv, D.mod, D.neg, D.at_, D.bLen, D.bAbs, D.bTuple, D.bList, D.bInt, allVal, setAll, Tg.set, D.truth, D.isNo, D.notNo, D.nonB, D.toInt, D.cut, D.eqO, D.neO, D.inO, D.ninO, D.dep, D.deps, D.items, D.eq, sz1, sz2, sz3, sz4, sz5, sz6, sz7, sz8, sz9, sz10, sz11, sz12, h0 p s h (sgOk_days (S.ok s hs))]⟩
  have k1 : isInt (.int p) 1 4 = true := by simp [isInt, S.p1, S.p4]
  have k2 : ¬ 6 < (l.length : Int) := by have := S.len; omega
  have k3 : (l.all fun s => sgOk p s) = true := List.all_eq_true.mpr S.ok
  unfold stD at c1 ⊢
  simp [runF, evSs, evS, ev, evs, evo, evc, evi, mSeq, mSet, mRet, mRetN, mSkip, mDo, mIte, mUnp, mPar, mAug, mApp, mExt, mPut, mOwn, mCell, mFreeze, mFor, mRaise, mTry, findH, bs, endOf, mArgs, mAnds, mOrs, mTAnds, mTOrs, mAnd, mOr, mNot, mTAnd, mTOr, mTNot, mTru, mIsB, mIf, mChain, mUn, mBin, mVar, mC, mCons, mNil, mTup, mLst, mCallB, mCall, mCut, mPart, mNoPart, mIter, mRng1_s, mRng2_s, mEnum, mZip, mComp, mYes, bx, notOwn, wipeO, startE, RV.sv, bd, ret, lift, RV.see, see_int, see_bl, see_str, see_non, see_tup, see_lst, see_ref, D.isi, BOp.g, COp.g, Bi.g, D.cmpI, D.add, D.sub, D.mul, D.fdiv, D.mod, D.neg, D.at_, D.bLen, D.bAbs, D.bTuple, D.bList, D.bInt, allVal, setAll, Tg.set, D.truth, D.isNo, D.notNo, D.nonB, D.toInt, D.cut, D.eqO, D.neO, D.inO, D.ninO, D.dep, D.deps, D.items, D.eq, sz1, sz2, sz3, sz4, sz5, sz6, sz7, sz8, sz9, sz10, sz11, sz12, b_is_street, e1, at0, k1, k2, s1, c1, all_of, k3, lenSet_sgs S.nd S.len]
end Kb
namespace Kb
open PySem L2
theorem see_noRef {v : D} (hv : v.noRef = true) (h : List Cell) : D.see h v = v := by cases v <;> first | rfl | cases hv
theorem noRef_d (s : Sg) : s.d.noRef = true := rfl
def badSt (v : D) : Prop := v = .non ∨ v = .tup [.int 0, .tup []]
theorem badSt.noRef {v : D} (h : badSt v) : v.noRef = true := by rcases h with rfl | rfl <;> rfl
abbrev SReqStreet (x : Nat) (F : FM) : Prop := (∀ p l h, Str8 p l → F [.val (stD p l)] h = some (.ok .non h)) ∧ ∀ v h, badSt v → F [.val v] h = some (.exc x h)
theorem require_street_ok {cl : Nat → FM} {n0 x : Nat} (h0 : SIsStreet (cl n0)) : SReqStreet x (runF cl 1 (b_require_street n0 x)) := by
  refine ⟨fun p l h S => ?_, fun v h b => ?_⟩
  · simp [runF, evSs, evS, ev, evs, evo, evc, evi, mSeq, mSet, mRet, mRetN, mSkip, mDo, mIte, mUnp, mPar, mAug, mApp, mExt, mPut, mOwn, mCell, mFreeze, mFor, mRaise, mTry, findH, bs, endOf, mArgs, mAnds, mOrs, mTAnds, mTOrs, mAnd, mOr, mNot, mTAnd, mTOr, mTNot, mTru, mIsB, mIf, mChain, mUn, mBin, mVar, mC, mCons, mNil, mTup, mLst, mCallB, mCall, mCut, mPart, mNoPart, mIter, mRng1_s, mRng2_s, mEnum, mZip, mComp, mYes, bx, notOwn, wipeO, startE, RV.sv, bd, ret, lift, RV.see, see_int, see_bl, see_str, see_non, see_tup, see_lst, see_ref, D.isi, BOp.g, COp.g, Bi.g, D.cmpI, D.add, D.sub, D.mul, D.fdiv, D.mod, D.neg, D.at_, D.bLen, D.bAbs, D.bTuple, D.bList, D.bInt, allVal, setAll, Tg.set, D.truth, D.isNo, D.notNo, D.nonB, D.toInt, D.cut, D.eqO, D.neO, D.inO, D.ninO, D.dep, D.deps, D.items, D.eq, sz1, sz2, sz3, sz4, sz5, sz6, sz7, sz8, sz9, sz10, sz11, sz12, b_require_street, h0.1 p l h S]
  · rcases b with rfl | rfl
    · simp [runF, evSs, evS, ev, evs, evo, evc, evi, mSeq, mSet, mRet, mRetN, mSkip, mDo, mIte, mUnp, mPar, mAug, mApp, mExt, mPut, mOwn, mCell, mFreeze, mFor, mRaise, mTry, findH, bs, endOf, mArgs, mAnds, mOrs, mTAnds, mTOrs, mAnd, mOr, mNot, mTAnd, mTOr, mTNot, mTru, mIsB, mIf, mChain, mUn, mBin, mVar, mC, mCons, mNil, mTup, mLst, mCallB, mCall, mCut, mPart, mNoPart, mIter, mRng1_s, mRng2_s, mEnum, mZip, mComp, mYes, bx, notOwn, wipeO, startE, RV.sv, bd, ret, lift, RV.see, see_int, see_bl, see_str, see_non, see_tup, see_lst, see_ref, D.isi, BOp.g, COp.g, Bi.g, D.cmpI, D.add, D.sub, D.mul, D.fdiv, D.mod, D.neg, D.at_, D.bLen, D.bAbs, D.bTuple, D.bList, D.bInt, allVal, setAll, Tg.set, D.truth, D.isNo, D.notNo, D.nonB, D.toInt, D.cut, D.eqO, D.neO, D.inO, D.ninO, D.dep, D.deps, D.items, D.eq, sz1, sz2, sz3, sz4, sz5, sz6, sz7, sz8, sz9, sz10, sz11, sz12, b_require_street, h0.2.1]
    · simp [runF, evSs, evS, ev, evs, evo, evc, evi, mSeq, mSet, mRet, mRetN, mSkip, mDo, mIte, mUnp, mPar, mAug, mApp, mExt, mPut, mOwn, mCell, mFreeze, mFor, mRaise, mTry, findH, bs, endOf, mArgs, mAnds, mOrs, mTAnds, mTOrs, mAnd, mOr, mNot, mTAnd, mTOr, mTNot, mTru, mIsB, mIf, mChain, mUn, mBin, mVar, mC, mCons, mNil, mTup, mLst, mCallB, mCall, mCut, mPart, mNoPart, mIter, mRng1_s, mRng2_s, mEnum, mZip, mComp, mYes, bx, notOwn, wipeO, startE, RV.sv, bd, ret, lift, RV.see, see_int, see_bl, see_str, see_non, see_tup, see_lst, see_ref, D.isi, BOp.g, COp.g, Bi.g, D.cmpI, D.add, D.sub, D.mul, D.fdiv, D.mod, D.neg, D.at_, D.bLen, D.bAbs, D.bTuple, D.bList, D.bInt, allVal, setAll, Tg.set, D.truth, D.isNo, D.notNo, D.nonB, D.toInt, D.cut, D.eqO, D.neO, D.inO, D.ninO, D.dep, D.deps, D.items, D.eq, sz1, sz2, sz3, sz4, sz5, sz6, sz7, sz8, sz9, sz10, sz11, sz12, b_require_street, h0.2.2]
abbrev SReqHour (x : Nat) (F : FM) : Prop := ∀ v h, v.noRef = true → F [.val v] h = if isInt v 0 167 = true then some (.ok .non h) else some (.exc x h)
theorem require_hour_ok {cl : Nat → FM} {n0 x : Nat} (h0 : SIsInteger (cl n0)) : SReqHour x (runF cl 1 (b_require_hour n0 x)) := by
  intro v h hv
  cases e : isInt v 0 167 <;> simp [runF, evSs, evS, ev, evs, evo, evc, evi, mSeq, mSet, mRet, mRetN, mSkip, mDo, mIte, mUnp, mPar, mAug, mApp, mExt, mPut, mOwn, mCell, mFreeze, mFor, mRaise, mTry, findH, bs, endOf, mArgs, mAnds, mOrs, mTAnds, mTOrs, mAnd, mOr, mNot, mTAnd, mTOr, mTNot, mTru, mIsB, mIf, mChain, mUn, mBin, mVar, mC, mCons, mNil, mTup, mLst, mCallB, mCall, mCut, mPart, mNoPart, mIter, mRng1_s, mRng2_s, mEnum, mZip, mComp, mYes, bx, notOwn, wipeO, startE, RV.sv, bd, ret, lift, RV.see, see_int, see_bl, see_str, see_non, see_tup, see_lst, see_ref, D.isi, BOp.g, COp.g, Bi.g, D.cmpI, D.add, D.sub, D.mul, D.fdiv, D.mod, D.neg, D.at_, D.bLen, D.bAbs, D.bTuple, D.bList, D.bInt, allVal, setAll, Tg.set, D.truth, D.isNo, D.notNo, D.nonB, D.toInt, D.cut, D.eqO, D.neO, D.inO, D.ninO, D.dep, D.deps, D.items, D.eq, sz1, sz2, sz3, sz4, sz5, sz6, sz7, sz8, sz9, sz10, sz11, sz12, b_require_hour, h0 v 0 167 h hv, see_noRef hv, e]
abbrev SReqPlace (x : Nat) (F : FM) : Prop := ∀ p l v h, v.noRef = true → F [.val (stD p l), .val v] h = if isInt v 0 (p - 1) = true then some (.ok .non h) else some (.exc x h)
theorem require_place_ok {cl : Nat → FM} {n0 x : Nat} (h0 : SIsInteger (cl n0)) : SReqPlace x (runF cl 2 (b_require_place n0 x)) := by
  intro p l v h hv
  have e1 := fun b => h0 v 0 b h hv
  cases e : isInt v 0 (p - 1) <;> simp [runF, evSs, evS, ev, evs, evo, evc, evi, mSeq, mSet, mRet, mRetN, mSkip, mDo, mIte, mUnp, mPar, mAug, mApp, mExt, mPut, mOwn, mCell, mFreeze, mFor, mRaise, mTry, findH, bs, endOf, mArgs, mAnds, mOrs, mTAnds, mTOrs, mAnd, mOr, mNot, mTAnd, mTOr, mTNot, mTru, mIsB, mIf, mChain, mUn, mBin, mVar, mC, mCons, mNil, mTup, mLst, mCallB, mCall, mCut, mPart, mNoPart, mIter, mRng1_s, mRng2_s, mEnum, mZip, mComp, mYes, bx, notOwn, wipeO, startE, RV.sv, bd, ret, lift, RV.see, see_int, see_bl, see_str, see_non, see_tup, see_lst, see_ref, D.isi, BOp.g, COp.g, Bi.g, D.cmpI, D.add, D.sub, D.mul, D.fdiv, D.mod, D.neg, D.at_, D.bLen, D.bAbs, D.bTuple, D.bList, D.bInt, allVal, setAll, Tg.set, D.truth, D.isNo, D.notNo, D.nonB, D.toInt, D.cut, D.eqO, D.neO, D.inO, D.ninO, D.dep, D.deps, D.items, D.eq, sz1, sz2, sz3, sz4, sz5, sz6, sz7, sz8, sz9, sz10, sz11, sz12, b_require_place, stD, at0, e1, see_noRef hv, e]
abbrev SReqSpot (xs xp xh : Nat) (F : FM) : Prop := (∀ p l v w h, Str8 p l → v.noRef = true → w.noRef = true → F [.val (stD p l), .val v, .val w] h = if isInt v 0 (p - 1) = true then if isInt w 0 167 = true then some (.ok .non h) else some (.exc xh h) else some (.exc xp h)) ∧
  ∀ b v w h, badSt b → v.noRef = true → w.noRef = true → F [.val b, .val v, .val w] h = some (.exc xs h)
theorem require_spot_ok {cl : Nat → FM} {n0 n1 n2 xs xp xh : Nat} (h0 : SReqHour xh (cl n0)) (h1 : SReqPlace xp (cl n1)) (h2 : SReqStreet xs (cl n2)) : SReqSpot xs xp xh (runF cl 3 (b_require_spot n0 n1 n2)) := by
  refine ⟨fun p l v w h S hv hw => ?_, fun b v w h hb hv hw => ?_⟩
  · cases e1 : isInt v 0 (p - 1) with
    | false => simp [runF, evSs, evS, ev, evs, evo, evc, evi, mSeq, mSet, mRet, mRetN, mSkip, mDo, mIte, mUnp, mPar, mAug, mApp, mExt, mPut, mOwn, mCell, mFreeze, mFor, mRaise, mTry, findH, bs, endOf, mArgs, mAnds, mOrs, mTAnds, mTOrs, mAnd, mOr, mNot, mTAnd, mTOr, mTNot, mTru, mIsB, mIf, mChain, mUn, mBin, mVar, mC, mCons, mNil, mTup, mLst, mCallB, mCall, mCut, mPart, mNoPart, mIter, mRng1_s, mRng2_s, mEnum, mZip, mComp, mYes, bx, notOwn, wipeO, startE, RV.sv, bd, ret, lift, RV.see, see_int, see_bl, see_str, see_non, see_tup, see_lst, see_ref, D.isi, BOp.g, COp.g, Bi.g, D.cmpI, D.add, D.sub, D.mul, D.fdiv, D.mod, D.neg, D.at_, D.bLen, D.bAbs, D.bTuple, D.bList, D.bInt, allVal, setAll, Tg.set, D.truth, D.isNo, D.notNo, D.nonB, D.toInt, D.cut, D.eqO, D.neO, D.inO, D.ninO, D.dep, D.deps, D.items, D.eq, sz1, sz2, sz3, sz4, sz5, sz6, sz7, sz8, sz9, sz10, sz11, sz12, b_require_spot, h2.1 p l h S, h1 p l v h hv, e1]
    | true => cases e2 : isInt w 0 167 <;> simp [runF, evSs, evS, ev, evs, evo, evc, evi, mSeq, mSet, mRet, mRetN, mSkip, mDo, mIte, mUnp, mPar, mAug, mApp, mExt, mPut, mOwn, mCell, mFreeze, mFor, mRaise, mTry, findH, bs, endOf, mArgs, mAnds, mOrs, mTAnds, mTOrs, mAnd, mOr, mNot, mTAnd, mTOr, mTNot, mTru, mIsB, mIf, mChain, mUn, mBin, mVar, mC, mCons, mNil, mTup, mLst, mCallB, mCall, mCut, mPart, mNoPart, mIter, mRng1_s, mRng2_s, mEnum, mZip, mComp, mYes, bx, notOwn, wipeO, startE, RV.sv, bd, ret, lift, RV.see, see_int, see_bl, see_str, see_non, see_tup, see_lst, see_ref, D.isi, BOp.g, COp.g, Bi.g, D.cmpI, D.add, D.sub, D.mul, D.fdiv, D.mod, D.neg, D.at_, D.bLen, D.bAbs, D.bTuple, D.bList, D.bInt, allVal, setAll, Tg.set, D.truth, D.isNo, D.notNo, D.nonB, D.toInt, D.cut, D.eqO, D.neO, D.inO, D.ninO, D.dep, D.deps, D.items, D.eq, sz1, sz2, sz3, sz4, sz5, sz6, sz7, sz8, sz9, sz10, sz11, sz12, b_require_spot, h2.1 p l h S, h1 p l v h hv, e1, h0 w h hw, e2]
  · simp [runF, evSs, evS, ev, evs, evo, evc, evi, mSeq, mSet, mRet, mRetN, mSkip, mDo, mIte, mUnp, mPar, mAug, mApp, mExt, mPut, mOwn, mCell, mFreeze, mFor, mRaise, mTry, findH, bs, endOf, mArgs, mAnds, mOrs, mTAnds, mTOrs, mAnd, mOr, mNot, mTAnd, mTOr, mTNot, mTru, mIsB, mIf, mChain, mUn, mBin, mVar, mC, mCons, mNil, mTup, mLst, mCallB, mCall, mCut, mPart, mNoPart, mIter, mRng1_s, mRng2_s, mEnum, mZip, mComp, mYes, bx, notOwn, wipeO, startE, RV.sv, bd, ret, lift, RV.see, see_int, see_bl, see_str, see_non, see_tup, see_lst, see_ref, D.isi, BOp.g, COp.g, Bi.g, D.cmpI, D.add, D.sub, D.mul, D.fdiv, D.mod, D.neg, D.at_, D.bLen, D.bAbs, D.bTuple, D.bList, D.bInt, allVal, setAll, Tg.set, D.truth, D.isNo, D.notNo, D.nonB, D.toInt, D.cut, D.eqO, D.neO, D.inO, D.ninO, D.dep, D.deps, D.items, D.eq, sz1, sz2, sz3, sz4, sz5, sz6, sz7, sz8, sz9, sz10, sz11, sz12, b_require_spot, h2.2 b h hb]
/-! ### the signs that hold -/
def Sg.len (s : Sg) : Int := if s.first < s.last then s.last - s.first else 24 - s.first + s.last
def holdsB (s : Sg) (place hour : Int) : Bool := (decide (s.start ≤ place) && decide (place < s.stop)) && s.days.any fun day => decide ((hour - 24 * day - s.first) % 168 < s.len)
abbrev SHolds (F : FM) : Prop := ∀ (s : Sg) (place hour : Int) h, s.days.length ≤ 7 → F [.val s.d, .val (.int place), .val (.int hour)] h = some (.ok (.bl (holdsB s place hour)) h)
theorem holds_ok {cl : Nat → FM} : SHolds (runF cl 13 b_holds) := by
  intro s place hour h hl
  have s1 : s.days.length ≤ sizeLine := size_le (by omega)
  have c1 : ∀ ln : Int, compD (.name 12) mYes (mBin (D.cmpI fun i j => decide (i < j)) (mBin D.mod (mBin D.sub (mBin D.sub (mVar 2) (mBin D.mul (mC (.int 24)) (mVar 12))) (mVar 7)) (mC (.int 168))) (mVar 11))
      [some (SV.val s.d), some (SV.val (.int place)), some (SV.val (.int hour)), some (SV.val (.int s.rank)), some (SV.val (.int s.start)), some (SV.val (.int s.stop)), some (SV.val (.tup (s.days.map D.int))), some (SV.val (.int s.first)), some (SV.val (.int s.last)), some (SV.val (.str s.word)), some (SV.val (.int s.value)), some (SV.val (.int ln)), none] (s.days.map D.int) h = some (.ok (s.days.map fun d => .bl (decide ((hour - 24 * d - s.first) % 168 < ln))) h) :=
    fun ln => compD_map _ _ _ fun d _ => ⟨_, rfl, by simp [runF, evSs, evS, ev, evs, evo, evc, evi, mSeq, mSet, mRet, mRetN, mSkip, mDo, mIte, mUnp, mPar, mAug, mApp, mExt, mPut, mOwn, mCell, mFreeze, mFor, mRaise, mTry, findH, bs, endOf, mArgs, mAnds, mOrs, mTAnds, mTOrs, mAnd, mOr, mNot, mTAnd, mTOr, mTNot, mTru, mIsB, mIf, mChain, mUn, mBin, mVar, mC, mCons, mNil, mTup, mLst, mCallB, mCall, mCut, mPart, mNoPart, mIter, mRng1_s, mRng2_s, mEnum, mZip, mComp, mYes, bx, notOwn, wipeO, startE, RV.sv, bd, ret, lift, RV.see, see_int, see_bl, see_str, see_non, see_tup, see_lst, see_ref, D.isi, BOp.g, COp.g, Bi.g, D.cmpI, D.add, D.sub, D.mul, D.fdiv, D.mod, D.neg, D.at_, D.bLen, D.bAbs, D.bTuple, D.bList, D.bInt, allVal, setAll, Tg.set, D.truth, D.isNo, D.notNo, D.nonB, D.toInt, D.cut, D.eqO, D.neO, D.inO, D.ninO, D.dep, D.deps, D.items, D.eq, sz1, sz2, sz3, sz4, sz5, sz6, sz7, sz8, sz9, sz10, sz11, sz12, Sg.d]⟩
  unfold Sg.d at c1 ⊢
  by_cases a1 : s.start ≤ place
  · by_cases a2 : place < s.stop
    · by_cases a3 : s.first < s.last
      · simp [runF, evSs, evS, ev, evs, evo, evc, evi, mSeq, mSet, mRet, mRetN, mSkip, mDo, mIte, mUnp, mPar, mAug, mApp, mExt, mPut, mOwn, mCell, mFreeze, mFor, mRaise, mTry, findH, bs, endOf, mArgs, mAnds, mOrs, mTAnds, mTOrs, mAnd, mOr, mNot, mTAnd, mTOr, mTNot, mTru, mIsB, mIf, mChain, mUn, mBin, mVar, mC, mCons, mNil, mTup, mLst, mCallB, mCall, mCut, mPart, mNoPart, mIter, mRng1_s, mRng2_s, mEnum, mZip, mComp, mYes, bx, notOwn, wipeO, startE, RV.sv, bd, ret, lift, RV.see, see_int, see_bl, see_str, see_non, see_tup, see_lst, see_ref, D.isi, BOp.g, COp.g, Bi.g, D.cmpI, D.add, D.sub, D.mul, D.fdiv, D.mod, D.neg, D.at_, D.bLen, D.bAbs, D.bTuple, D.bList, D.bInt, allVal, setAll, Tg.set, D.truth, D.isNo, D.notNo, D.nonB, D.toInt, D.cut, D.eqO, D.neO, D.inO, D.ninO, D.dep, D.deps, D.items, D.eq, sz1, sz2, sz3, sz4, sz5, sz6, sz7, sz8, sz9, sz10, sz11, sz12, b_holds, a1, a2, a3, s1, c1, any_of, holdsB, Sg.len]
      · simp [runF, evSs, evS, ev, evs, evo, evc, evi, mSeq, mSet, mRet, mRetN, mSkip, mDo, mIte, mUnp, mPar, mAug, mApp, mExt, mPut, mOwn, mCell, mFreeze, mFor, mRaise, mTry, findH, bs, endOf, mArgs, mAnds, mOrs, mTAnds, mTOrs, mAnd, mOr, mNot, mTAnd, mTOr, mTNot, mTru, mIsB, mIf, mChain, mUn, mBin, mVar, mC, mCons, mNil, mTup, mLst, mCallB, mCall, mCut, mPart, mNoPart, mIter, mRng1_s, mRng2_s, mEnum, mZip, mComp, mYes, bx, notOwn, wipeO, startE, RV.sv, bd, ret, lift, RV.see, see_int, see_bl, see_str, see_non, see_tup, see_lst, see_ref, D.isi, BOp.g, COp.g, Bi.g, D.cmpI, D.add, D.sub, D.mul, D.fdiv, D.mod, D.neg, D.at_, D.bLen, D.bAbs, D.bTuple, D.bList, D.bInt, allVal, setAll, Tg.set, D.truth, D.isNo, D.notNo, D.nonB, D.toInt, D.cut, D.eqO, D.neO, D.inO, D.ninO, D.dep, D.deps, D.items, D.eq, sz1, sz2, sz3, sz4, sz5, sz6, sz7, sz8, sz9, sz10, sz11, sz12, b_holds, a1, a2, a3, s1, c1, any_of, holdsB, Sg.len]
    · simp [runF, evSs, evS, ev, evs, evo, evc, evi, mSeq, mSet, mRet, mRetN, mSkip, mDo, mIte, mUnp, mPar, mAug, mApp, mExt, mPut, mOwn, mCell, mFreeze, mFor, mRaise, mTry, findH, bs, endOf, mArgs, mAnds, mOrs, mTAnds, mTOrs, mAnd, mOr, mNot, mTAnd, mTOr, mTNot, mTru, mIsB, mIf, mChain, mUn, mBin, mVar, mC, mCons, mNil, mTup, mLst, mCallB, mCall, mCut, mPart, mNoPart, mIter, mRng1_s, mRng2_s, mEnum, mZip, mComp, mYes, bx, notOwn, wipeO, startE, RV.sv, bd, ret, lift, RV.see, see_int, see_bl, see_str, see_non, see_tup, see_lst, see_ref, D.isi, BOp.g, COp.g, Bi.g, D.cmpI, D.add, D.sub, D.mul, D.fdiv, D.mod, D.neg, D.at_, D.bLen, D.bAbs, D.bTuple, D.bList, D.bInt, allVal, setAll, Tg.set, D.truth, D.isNo, D.notNo, D.nonB, D.toInt, D.cut, D.eqO, D.neO, D.inO, D.ninO, D.dep, D.deps, D.items, D.eq, sz1, sz2, sz3, sz4, sz5, sz6, sz7, sz8, sz9, sz10, sz11, sz12, b_holds, a1, a2, holdsB]
  · simp [runF, evSs, evS, ev, evs, evo, evc, evi, mSeq, mSet, mRet, mRetN, mSkip, mDo, mIte, mUnp, mPar, mAug, mApp, mExt, mPut, mOwn, mCell, mFreeze, mFor, mRaise, mTry, findH, bs, endOf, mArgs, mAnds, mOrs, mTAnds, mTOrs, mAnd, mOr, mNot, mTAnd, mTOr, mTNot, mTru, mIsB, mIf, mChain, mUn, mBin, mVar, mC, mCons, mNil, mTup, mLst, mCallB, mCall, mCut, mPart, mNoPart, mIter, mRng1_s, mRng2_s, mEnum, mZip, mComp, mYes, bx, notOwn, wipeO, startE, RV.sv, bd, ret, lift, RV.see, see_int, see_bl, see_str, see_non, see_tup, see_lst, see_ref, D.isi, BOp.g, COp.g, Bi.g, D.cmpI, D.add, D.sub, D.mul, D.fdiv, D.mod, D.neg, D.at_, D.bLen, D.bAbs, D.bTuple, D.bList, D.bInt, allVal, setAll, Tg.set, D.truth, D.isNo, D.notNo, D.nonB, D.toInt, D.cut, D.eqO, D.neO, D.inO, D.ninO, D.dep, D.deps, D.items, D.eq, sz1, sz2, sz3, sz4, sz5, sz6, sz7, sz8, sz9, sz10, sz11, sz12, b_holds, a1, holdsB]
def holdL (l : List Sg) (place hour : Int) : List Nat := (l.zipIdx.filter fun p => holdsB p.1 place hour).map (·.2)
def natL (l : List Nat) : D := .lst (l.map fun (i : Nat) => .int (i : Int))
theorem enum_sgs (l : List Sg) (k : Nat) : enumD k (l.map Sg.d) = (l.zipIdx k).map fun p => .tup [.int p.2, p.1.d] := by
  induction l generalizing k with
  | nil => rfl
  | cons s l ih => simp [enumD, ih, List.zipIdx_cons]
abbrev SFind (R : List Sg → Int → Int → List Nat) (F : FM) : Prop := ∀ p l (place hour : Int) h, Str8 p l → F [.val (stD p l), .val (.int place), .val (.int hour)] h = some (.ok (natL (R l place hour)) h)
theorem find_holding_ok {cl : Nat → FM} {n0 : Nat} (h0 : SHolds (cl n0)) : SFind holdL (runF cl 5 (b_find_holding n0)) := by
  intro p l place hour h S
  have s1 : l.length ≤ sizeLine := size_le (by have := S.len; omega)
  have s2 : (enumD 0 (l.map Sg.d)).length ≤ sizeLine := by rw [enumD_len, List.length_map]; exact s1
  have c1 : compD (.tup [3, 4]) (mTru (mCall 3 (cl n0) (mCons (mVar 4) (mCons (mVar 1) (mCons (mVar 2) mNil))))) (mVar 3) [some (SV.val (stD p l)), some (SV.val (.int place)), some (SV.val (.int hour)), none, none] (enumD 0 (l.map Sg.d)) h =
      some (.ok ((l.zipIdx.filter fun p => holdsB p.1 place hour).map fun p => .int p.2) h) := by
    rw [enum_sgs]
    refine compD_fil _ _ _ _ fun q hq => ⟨_, rfl, ?_, fun _ => by simp [runF, evSs, evS, ev, evs, evo, evc, evi, mSeq, mSet, mRet, mRetN, mSkip, mDo, mIte, mUnp, mPar, mAug, mApp, mExt, mPut, mOwn, mCell, mFreeze, mFor, mRaise, mTry, findH, bs, endOf, mArgs, mAnds, mOrs, mTAnds, mTOrs, mAnd, mOr, mNot, mTAnd, mTOr, mTNot, mTru, mIsB, mIf, mChain, mUn, mBin, mVar, mC, mCons, mNil, mTup, mLst, mCallB, mCall, mCut, mPart, mNoPart, mIter, mRng1_s, mRng2_s, mEnum, mZip, mComp, mYes, bx, notOwn, wipeO, startE, RV.sv, bd, ret, lift, RV.see, see_int, see_bl, see_str, see_non, see_tup, see_lst, see_ref, D.isi, BOp.g, COp.g, Bi.g, D.cmpI, D.add, D.sub, D.mul, D.fdiv, D.mod, D.neg, D.at_, D.bLen, D.bAbs, D.bTuple, D.bList, D.bInt, allVal, setAll, Tg.set, D.truth, D.isNo, D.notNo, D.nonB, D.toInt, D.cut, D.eqO, D.neO, D.inO, D.ninO, D.dep, D.deps, D.items, D.eq, sz1, sz2, sz3, sz4, sz5, sz6, sz7, sz8, sz9, sz10, sz11, sz12]⟩
    have hm : q.1 ∈ l := by
      have := List.mem_zipIdx hq
      obtain ⟨_, _, e⟩ := this
      rw [e]
      exact List.getElem_mem _
    have e := h0 q.1 place hour h (sgOk_days (S.ok _ hm))
    have e2 := see_noRef (noRef_d q.1) h
    simp [runF, evSs, evS, ev, evs, evo, evc, evi, mSeq, mSet, mRet, mRetN, mSkip, mDo, mIte, mUnp, mPar, mAug, mApp, mExt, mPut, mOwn, mCell, mFreeze, mFor, mRaise, mTry, findH, bs, endOf, mArgs, mAnds, mOrs, mTAnds, mTOrs, mAnd, mOr, mNot, mTAnd, mTOr, mTNot, mTru, mIsB, mIf, mChain, mUn, mBin, mVar, mC, mCons, mNil, mTup, mLst, mCallB, mCall, mCut, mPart, mNoPart, mIter, mRng1_s, mRng2_s, mEnum, mZip, mComp, mYes, bx, notOwn, wipeO, startE, RV.sv, bd, ret, lift, RV.see, see_int, see_bl, see_str, see_non, see_tup, see_lst, see_ref, D.isi, BOp.g, COp.g, Bi.g, D.cmpI, D.add, D.sub, D.mul, D.fdiv, D.mod, D.neg, D.at_, D.bLen, D.bAbs, D.bTuple, D.bList, D.bInt, allVal, setAll, Tg.set, D.truth, D.isNo, D.notNo, D.nonB, D.toInt, D.cut, D.eqO, D.neO, D.inO, D.ninO, D.dep, D.deps, D.items, D.eq, sz1, sz2, sz3, sz4, sz5, sz6, sz7, sz8, sz9, sz10, sz11, sz12, e]
  unfold stD at c1 ⊢
  simp [runF, evSs, evS, ev, evs, evo, evc, evi, mSeq, mSet, mRet, mRetN, mSkip, mDo, mIte, mUnp, mPar, mAug, mApp, mExt, mPut, mOwn, mCell, mFreeze, mFor, mRaise, mTry, findH, bs, endOf, mArgs, mAnds, mOrs, mTAnds, mTOrs, mAnd, mOr, mNot, mTAnd, mTOr, mTNot, mTru, mIsB, mIf, mChain, mUn, mBin, mVar, mC, mCons, mNil, mTup, mLst, mCallB, mCall, mCut, mPart, mNoPart, mIter, mRng1_s, mRng2_s, mEnum, mZip, mComp, mYes, bx, notOwn, wipeO, startE, RV.sv, bd, ret, lift, RV.see, see_int, see_bl, see_str, see_non, see_tup, see_lst, see_ref, D.isi, BOp.g, COp.g, Bi.g, D.cmpI, D.add, D.sub, D.mul, D.fdiv, D.mod, D.neg, D.at_, D.bLen, D.bAbs, D.bTuple, D.bList, D.bInt, allVal, setAll, Tg.set, D.truth, D.isNo, D.notNo, D.nonB, D.toInt, D.cut, D.eqO, D.neO, D.inO, D.ninO, D.dep, D.deps, D.items, D.eq, sz1, sz2, sz3, sz4, sz5, sz6, sz7, sz8, sz9, sz10, sz11, sz12, b_find_holding, at1, s1, s2, c1, natL, holdL]
end Kb
namespace Kb
open PySem L2
theorem atI_nat {α : Type} {xs : List α} {i : Nat} (h : i < xs.length) : atI xs (i : Int) = some xs[i] := by
  unfold atI ixN
  rw [if_pos (by omega), if_pos (by omega)]
  simp only [Option.bind_some, Int.toNat_natCast]
  exact List.getElem?_eq_getElem h
def rankAt (l : List Sg) (i : Nat) : Int := ((l[i]?).map Sg.rank).getD 0
theorem rankAt_eq {l : List Sg} {i : Nat} (h : i < l.length) : rankAt l i = l[i].rank := by
  unfold rankAt
  rw [List.getElem?_eq_getElem h]
  rfl
theorem holdL_lt {l : List Sg} {place hour : Int} {i : Nat} (h : i ∈ holdL l place hour) : i < l.length := by
  unfold holdL at h
  obtain ⟨q, hq, rfl⟩ := List.mem_map.mp h
  have := List.mem_zipIdx (List.mem_filter.mp hq).1
  omega
theorem holdL_len (l : List Sg) (place hour : Int) : (holdL l place hour).length ≤ l.length := by
  unfold holdL
  rw [List.length_map]
  have := List.length_filter_le (fun p : Sg × Nat => holdsB p.1 place hour) l.zipIdx
  rw [List.length_zipIdx] at this
  exact this
def topOf (ns : List Int) : Int := ((ns ++ [-1]).max?).getD 0
theorem max_top (ns : List Int) : D.bMax [.lst (ns.map D.int ++ [D.int (-1)])] = some (.int (topOf ns)) := by
  have e : ns.map D.int ++ [D.int (-1)] = (ns ++ [-1]).map D.int := by simp
  rw [e]
  have e2 : D.bMax [.lst ((ns ++ [-1]).map D.int)] = (D.ints ((ns ++ [-1]).map D.int)).bind fun ns => ns.max?.map D.int := rfl
  rw [e2, ints_map]
  unfold topOf
  cases q : (ns ++ [-1]).max? with
  | none => simp at q
  | some z => simp [q]
def countOf (l : List Sg) (some : List Nat) : List Nat := some.filter fun i => rankAt l i == topOf (some.map (rankAt l))
def countL (l : List Sg) (place hour : Int) : List Nat := countOf l (holdL l place hour)
theorem rank_look {l : List Sg} {i : Nat} (h : i < l.length) : atI (l.map Sg.d) (i : Int) = some (l[i].d) ∧ atI [D.int l[i].rank, .int l[i].start, .int l[i].stop, .tup (l[i].days.map D.int), .int l[i].first, .int l[i].last, .str l[i].word, .int l[i].value] 0 = some (D.int (rankAt l i)) := by
  refine ⟨?_, by rw [rankAt_eq h]; exact at0 _ _⟩
  rw [atI_nat (by rw [List.length_map]; exact h), List.getElem_map]
theorem find_counting_ok {cl : Nat → FM} {n0 : Nat} (h0 : SFind holdL (cl n0)) : SFind countL (runF cl 6 (b_find_counting n0)) := by
  intro p l place hour h S
  have e0 := h0 p l place hour h S
  have s1 : (holdL l place hour).length ≤ sizeLine := size_le (by have := S.len; have := holdL_len l place hour; omega)
  have s2 : (holdL l place hour).length + 1 ≤ sizeLine := size_le (by have := S.len; have := holdL_len l place hour; omega)
  have c1 : compD (.name 5) mYes (mBin D.at_ (mBin D.at_ (mBin D.at_ (mVar 0) (mC (.int 1))) (mVar 5)) (mC (.int 0))) [some (SV.val (stD p l)), some (SV.val (.int place)), some (SV.val (.int hour)), some (SV.val (natL (holdL l place hour))), none, none] ((holdL l place hour).map fun (i : Nat) => .int (i : Int)) h =
      some (.ok ((holdL l place hour).map fun i => .int (rankAt l i)) h) := by
    refine compD_map _ _ _ fun i hi => ⟨_, rfl, ?_⟩
    have k := rank_look (holdL_lt hi)
    simp [runF, evSs, evS, ev, evs, evo, evc, evi, mSeq, mSet, mRet, mRetN, mSkip, mDo, mIte, mUnp, mPar, mAug, mApp, mExt, mPut, mOwn, mCell, mFreeze, mFor, mRaise, mTry, findH, bs, endOf, mArgs, mAnds, mOrs, mTAnds, mTOrs, mAnd, mOr, mNot, mTAnd, mTOr, mTNot, mTru, mIsB, mIf, mChain, mUn, mBin, mVar, mC, mCons, mNil, mTup, mLst, mCallB, mCall, mCut, mPart, mNoPart, mIter, mRng1_s, mRng2_s, mEnum, mZip, mComp, mYes, bx, notOwn, wipeO, startE, RV.sv, bd, ret, lift, RV.see, see_int, see_bl, see_str, see_non, see_tup, see_lst, see_ref, D.isi, BOp.g, COp.g, Bi.g, D.cmpI, D.add, D.sub, D.mul, D.fdiv, D.mod, D.neg, D.at_, D.bLen, D.bAbs, D.bTuple, D.bList, D.bInt, allVal, setAll, Tg.set, D.truth, D.isNo, D.notNo, D.nonB, D.toInt, D.cut, D.eqO, D.neO, D.inO, D.ninO, D.dep, D.deps, D.items, D.eq, sz1, sz2, sz3, sz4, sz5, sz6, sz7, sz8, sz9, sz10, sz11, sz12, stD, at1, k.1, Sg.d, k.2]
  have c2 : ∀ top : Int, compD (.name 5) (mIsB (mBin D.eqO (mBin D.at_ (mBin D.at_ (mBin D.at_ (mVar 0) (mC (.int 1))) (mVar 5)) (mC (.int 0))) (mVar 4))) (mVar 5) [some (SV.val (stD p l)), some (SV.val (.int place)), some (SV.val (.int hour)), some (SV.val (natL (holdL l place hour))), some (SV.val (.int top)), none] ((holdL l place hour).map fun (i : Nat) => .int (i : Int)) h =
      some (.ok (((holdL l place hour).filter fun i => rankAt l i == top).map fun (i : Nat) => .int (i : Int)) h) := by
    intro top
    refine compD_fil _ _ _ _ fun i hi => ⟨_, rfl, ?_, fun _ => rfl⟩
    have k := rank_look (holdL_lt hi)
    simp [runF, evSs, evS, ev, evs, evo, evc, evi, mSeq, mSet, mRet, mRetN, mSkip, mDo, mIte, mUnp, mPar, mAug, mApp, mExt, mPut, mOwn, mCell, mFreeze, mFor, mRaise, mTry, findH, bs, endOf, mArgs, mAnds, mOrs, mTAnds, mTOrs, mAnd, mOr, mNot, mTAnd, mTOr, mTNot, mTru, mIsB, mIf, mChain, mUn, mBin, mVar, mC, mCons, mNil, mTup, mLst, mCallB, mCall, mCut, mPart, mNoPart, mIter, mRng1_s, mRng2_s, mEnum, mZip, mComp, mYes, bx, notOwn, wipeO, startE, RV.sv, bd, ret, lift, RV.see, see_int, see_bl, see_str, see_non, see_tup, see_lst, see_ref, D.isi, BOp.g, COp.g, Bi.g, D.cmpI, D.add, D.sub, D.mul, D.fdiv, D.mod, D.neg, D.at_, D.bLen, D.bAbs, D.bTuple, D.bList, D.bInt, allVal, setAll, Tg.set, D.truth, D.isNo, D.notNo, D.nonB, D.toInt, D.cut, D.eqO, D.neO, D.inO, D.ninO, D.dep, D.deps, D.items, D.eq, sz1, sz2, sz3, sz4, sz5, sz6, sz7, sz8, sz9, sz10, sz11, sz12, stD, at1, k.1, Sg.d, k.2]
  have m1 := max_top ((holdL l place hour).map (rankAt l))
  rw [List.map_map] at m1
  unfold natL at c1 c2 e0
  have e5 : (D.int ∘ rankAt l) = fun i => D.int (rankAt l i) := rfl
  rw [e5] at m1
  simp [runF, evSs, evS, ev, evs, evo, evc, evi, mSeq, mSet, mRet, mRetN, mSkip, mDo, mIte, mUnp, mPar, mAug, mApp, mExt, mPut, mOwn, mCell, mFreeze, mFor, mRaise, mTry, findH, bs, endOf, mArgs, mAnds, mOrs, mTAnds, mTOrs, mAnd, mOr, mNot, mTAnd, mTOr, mTNot, mTru, mIsB, mIf, mChain, mUn, mBin, mVar, mC, mCons, mNil, mTup, mLst, mCallB, mCall, mCut, mPart, mNoPart, mIter, mRng1_s, mRng2_s, mEnum, mZip, mComp, mYes, bx, notOwn, wipeO, startE, RV.sv, bd, ret, lift, RV.see, see_int, see_bl, see_str, see_non, see_tup, see_lst, see_ref, D.isi, BOp.g, COp.g, Bi.g, D.cmpI, D.add, D.sub, D.mul, D.fdiv, D.mod, D.neg, D.at_, D.bLen, D.bAbs, D.bTuple, D.bList, D.bInt, allVal, setAll, Tg.set, D.truth, D.isNo, D.notNo, D.nonB, D.toInt, D.cut, D.eqO, D.neO, D.inO, D.ninO, D.dep, D.deps, D.items, D.eq, sz1, sz2, sz3, sz4, sz5, sz6, sz7, sz8, sz9, sz10, sz11, sz12, b_find_counting, e0, s1, s2, c1, m1, c2, natL, countL, countOf]
abbrev SQuery (xs xp xh : Nat) (R : List Sg → Int → Int → List Nat) (F : FM) : Prop :=
  (∀ p l (v w : Int) h, Str8 p l → rngB v 0 (p - 1) = true → rngB w 0 167 = true → F [.val (stD p l), .val (.int v), .val (.int w)] h = some (.ok (natL (R l v w)) h)) ∧
  (∀ p l v w h, Str8 p l → v.noRef = true → w.noRef = true → isInt v 0 (p - 1) = false → F [.val (stD p l), .val v, .val w] h = some (.exc xp h)) ∧
  (∀ p l (v : Int) w h, Str8 p l → rngB v 0 (p - 1) = true → w.noRef = true → isInt w 0 167 = false → F [.val (stD p l), .val (.int v), .val w] h = some (.exc xh h)) ∧
  ∀ b v w h, badSt b → v.noRef = true → w.noRef = true → F [.val b, .val v, .val w] h = some (.exc xs h)
theorem isInt_rng (i a b : Int) : isInt (.int i) a b = rngB i a b := rfl
theorem holding_ok {cl : Nat → FM} {n0 n1 xs xp xh : Nat} {R : List Sg → Int → Int → List Nat} (h0 : SFind R (cl n0)) (h1 : SReqSpot xs xp xh (cl n1)) : SQuery xs xp xh R (runF cl 3 (b_holding n0 n1)) := by
  refine ⟨fun p l v w h S hv hw => ?_, fun p l v w h S hv hw e => ?_, fun p l v w h S hv hw e => ?_, fun b v w h hb hv hw => ?_⟩
  · simp [runF, evSs, evS, ev, evs, evo, evc, evi, mSeq, mSet, mRet, mRetN, mSkip, mDo, mIte, mUnp, mPar, mAug, mApp, mExt, mPut, mOwn, mCell, mFreeze, mFor, mRaise, mTry, findH, bs, endOf, mArgs, mAnds, mOrs, mTAnds, mTOrs, mAnd, mOr, mNot, mTAnd, mTOr, mTNot, mTru, mIsB, mIf, mChain, mUn, mBin, mVar, mC, mCons, mNil, mTup, mLst, mCallB, mCall, mCut, mPart, mNoPart, mIter, mRng1_s, mRng2_s, mEnum, mZip, mComp, mYes, bx, notOwn, wipeO, startE, RV.sv, bd, ret, lift, RV.see, see_int, see_bl, see_str, see_non, see_tup, see_lst, see_ref, D.isi, BOp.g, COp.g, Bi.g, D.cmpI, D.add, D.sub, D.mul, D.fdiv, D.mod, D.neg, D.at_, D.bLen, D.bAbs, D.bTuple, D.bList, D.bInt, allVal, setAll, Tg.set, D.truth, D.isNo, D.notNo, D.nonB, D.toInt, D.cut, D.eqO, D.neO, D.inO, D.ninO, D.dep, D.deps, D.items, D.eq, sz1, sz2, sz3, sz4, sz5, sz6, sz7, sz8, sz9, sz10, sz11, sz12, b_holding, h1.1 p l (.int v) (.int w) h S rfl rfl, isInt_rng, hv, hw, h0 p l v w h S]
  · simp [runF, evSs, evS, ev, evs, evo, evc, evi, mSeq, mSet, mRet, mRetN, mSkip, mDo, mIte, mUnp, mPar, mAug, mApp, mExt, mPut, mOwn, mCell, mFreeze, mFor, mRaise, mTry, findH, bs, endOf, mArgs, mAnds, mOrs, mTAnds, mTOrs, mAnd, mOr, mNot, mTAnd, mTOr, mTNot, mTru, mIsB, mIf, mChain, mUn, mBin, mVar, mC, mCons, mNil, mTup, mLst, mCallB, mCall, mCut, mPart, mNoPart, mIter, mRng1_s, mRng2_s, mEnum, mZip, mComp, mYes, bx, notOwn, wipeO, startE, RV.sv, bd, ret, lift, RV.see, see_int, see_bl, see_str, see_non, see_tup, see_lst, see_ref, D.isi, BOp.g, COp.g, Bi.g, D.cmpI, D.add, D.sub, D.mul, D.fdiv, D.mod, D.neg, D.at_, D.bLen, D.bAbs, D.bTuple, D.bList, D.bInt, allVal, setAll, Tg.set, D.truth, D.isNo, D.notNo, D.nonB, D.toInt, D.cut, D.eqO, D.neO, D.inO, D.ninO, D.dep, D.deps, D.items, D.eq, sz1, sz2, sz3, sz4, sz5, sz6, sz7, sz8, sz9, sz10, sz11, sz12, b_holding, h1.1 p l v w h S hv hw, e]
  · simp [runF, evSs, evS, ev, evs, evo, evc, evi, mSeq, mSet, mRet, mRetN, mSkip, mDo, mIte, mUnp, mPar, mAug, mApp, mExt, mPut, mOwn, mCell, mFreeze, mFor, mRaise, mTry, findH, bs, endOf, mArgs, mAnds, mOrs, mTAnds, mTOrs, mAnd, mOr, mNot, mTAnd, mTOr, mTNot, mTru, mIsB, mIf, mChain, mUn, mBin, mVar, mC, mCons, mNil, mTup, mLst, mCallB, mCall, mCut, mPart, mNoPart, mIter, mRng1_s, mRng2_s, mEnum, mZip, mComp, mYes, bx, notOwn, wipeO, startE, RV.sv, bd, ret, lift, RV.see, see_int, see_bl, see_str, see_non, see_tup, see_lst, see_ref, D.isi, BOp.g, COp.g, Bi.g, D.cmpI, D.add, D.sub, D.mul, D.fdiv, D.mod, D.neg, D.at_, D.bLen, D.bAbs, D.bTuple, D.bList, D.bInt, allVal, setAll, Tg.set, D.truth, D.isNo, D.notNo, D.nonB, D.toInt, D.cut, D.eqO, D.neO, D.inO, D.ninO, D.dep, D.deps, D.items, D.eq, sz1, sz2, sz3, sz4, sz5, sz6, sz7, sz8, sz9, sz10, sz11, sz12, b_holding, h1.1 p l (.int v) w h S rfl hw, isInt_rng, hv, e]
  · simp [runF, evSs, evS, ev, evs, evo, evc, evi, mSeq, mSet, mRet, mRetN, mSkip, mDo, mIte, mUnp, mPar, mAug, mApp, mExt, mPut, mOwn, mCell, mFreeze, mFor, mRaise, mTry, findH, bs, endOf, mArgs, mAnds, mOrs, mTAnds, mTOrs, mAnd, mOr, mNot, mTAnd, mTOr, mTNot, mTru, mIsB, mIf, mChain, mUn, mBin, mVar, mC, mCons, mNil, mTup, mLst, mCallB, mCall, mCut, mPart, mNoPart, mIter, mRng1_s, mRng2_s, mEnum, mZip, mComp, mYes, bx, notOwn, wipeO, startE, RV.sv, bd, ret, lift, RV.see, see_int, see_bl, see_str, see_non, see_tup, see_lst, see_ref, D.isi, BOp.g, COp.g, Bi.g, D.cmpI, D.add, D.sub, D.mul, D.fdiv, D.mod, D.neg, D.at_, D.bLen, D.bAbs, D.bTuple, D.bList, D.bInt, allVal, setAll, Tg.set, D.truth, D.isNo, D.notNo, D.nonB, D.toInt, D.cut, D.eqO, D.neO, D.inO, D.ninO, D.dep, D.deps, D.items, D.eq, sz1, sz2, sz3, sz4, sz5, sz6, sz7, sz8, sz9, sz10, sz11, sz12, b_holding, h1.2 b v w h hb hv hw]
theorem counting_ok {cl : Nat → FM} {n0 n1 xs xp xh : Nat} {R : List Sg → Int → Int → List Nat} (h0 : SFind R (cl n0)) (h1 : SReqSpot xs xp xh (cl n1)) : SQuery xs xp xh R (runF cl 3 (b_counting n0 n1)) := holding_ok h0 h1
/-! ### the law's own -/
def hoursD (s : Sg) : List Int := s.days.flatMap fun day => (List.range s.len.toNat).map fun (k : Nat) => (24 * day + s.first + (k : Int)) % 168
abbrev SHours (F : FM) : Prop := ∀ p (s : Sg) h, sgOk p s = true → F [.val s.d] h = some (.ok (.lst ((hoursD s).map D.int)) h)
theorem sg_len {p : Int} {s : Sg} (h : sgOk p s = true) : 1 ≤ s.len ∧ s.len ≤ 47 := by
  unfold sgOk rngB at h
  simp at h
  unfold Sg.len
  split <;> omega
theorem hours_len {p : Int} {s : Sg} (h : sgOk p s = true) : (hoursD s).length ≤ 7 * 47 := by
  have h1 := sgOk_days h
  have h2 := sg_len h
  unfold hoursD
  rw [List.length_flatMap]
  have : ∀ l : List Int, (l.map fun a => ((List.range s.len.toNat).map fun (k : Nat) => (24 * a + s.first + (k : Int)) % 168).length).sum = l.length * s.len.toNat := by
    intro l
    induction l with
    | nil => simp
    | cons a r ih => simp only [List.map_cons, List.sum_cons, ih, List.length_map, List.length_range, List.length_cons, Nat.succ_mul] at ih ⊢; omega
  rw [this]
  exact Nat.mul_le_mul h1 (by omega)
def hrs (s : Sg) (day : Int) : List Int := (List.range s.len.toNat).map fun (k : Nat) => (24 * day + s.first + (k : Int)) % 168
theorem law_hours_ok {cl : Nat → FM} : SHours (runF cl 5 b__law_hours) := by
  intro p s h hs
  have hl := sg_len hs
  have hd := sgOk_days hs
  have s3 : s.len.toNat ≤ sizeLine := size_le (by omega)
  have s4 : s.days.length ≤ sizeLine := size_le (by omega)
  have k1 : okR s.len = true := okR_of (by omega) (by omega)
  have hn : ∀ day, (hrs s day).length = s.len.toNat := fun day => by simp [hrs]
  have lp : ∀ (todo acc : List Int) (c d : Option SV), acc.length + todo.length * 47 ≤ 1000 → ∃ c' d', forD (.name 2) (evSs cl b__law_hours_L1) (todo.map D.int) [some (SV.val s.d), some (SV.val (.lst (acc.map D.int))), c, d, none] h =
      some (.next [some (SV.val s.d), some (SV.val (.lst ((acc ++ todo.flatMap (hrs s)).map D.int))), c', d', none] h) := by
    intro todo
    induction todo with
    | nil => intro acc c d _; exact ⟨c, d, by simp [forD]⟩
    | cons a r ih =>
      intro acc c d hlen
      have c1 : compD (.name 4) mYes (mBin D.mod (mBin D.add (mBin D.add (mBin D.mul (mC (.int 24)) (mVar 2)) (mBin D.at_ (mVar 0) (mC (.int 4)))) (mVar 4)) (mC (.int 168))) [some (SV.val s.d), some (SV.val (.lst (acc.map D.int))), some (SV.val (.int a)), some (SV.val (.int s.len)), none] (rngD 0 s.len.toNat) h =
          some (.ok ((hrs s a).map D.int) h) := by
        unfold rngD hrs
        rw [List.map_map]
        exact compD_map _ _ _ fun k _ => ⟨_, rfl, by simp [runF, evSs, evS, ev, evs, evo, evc, evi, mSeq, mSet, mRet, mRetN, mSkip, mDo, mIte, mUnp, mPar, mAug, mApp, mExt, mPut, mOwn, mCell, mFreeze, mFor, mRaise, mTry, findH, bs, endOf, mArgs, mAnds, mOrs, mTAnds, mTOrs, mAnd, mOr, mNot, mTAnd, mTOr, mTNot, mTru, mIsB, mIf, mChain, mUn, mBin, mVar, mC, mCons, mNil, mTup, mLst, mCallB, mCall, mCut, mPart, mNoPart, mIter, mRng1_s, mRng2_s, mEnum, mZip, mComp, mYes, bx, notOwn, wipeO, startE, RV.sv, bd, ret, lift, RV.see, see_int, see_bl, see_str, see_non, see_tup, see_lst, see_ref, D.isi, BOp.g, COp.g, Bi.g, D.cmpI, D.add, D.sub, D.mul, D.fdiv, D.mod, D.neg, D.at_, D.bLen, D.bAbs, D.bTuple, D.bList, D.bInt, allVal, setAll, Tg.set, D.truth, D.isNo, D.notNo, D.nonB, D.toInt, D.cut, D.eqO, D.neO, D.inO, D.ninO, D.dep, D.deps, D.items, D.eq, sz1, sz2, sz3, sz4, sz5, sz6, sz7, sz8, sz9, sz10, sz11, sz12, Sg.d, at4]⟩
      have hlen2 : acc.length + (r.length * 47 + 47) ≤ 1000 := by simpa [Nat.succ_mul] using hlen
      have s1 : acc.length + (hrs s a).length ≤ sizeLine := size_le (by rw [hn]; omega)
      have s2 : (rngD 0 s.len.toNat).length ≤ sizeLine := by unfold rngD; rw [List.length_map, List.length_range]; exact s3
      obtain ⟨c', d', e⟩ := ih (acc ++ hrs s a) (some (.val (.int a))) (some (.val (.int s.len))) (by rw [List.length_append, hn]; omega)
      refine ⟨c', d', ?_⟩
      rw [List.append_assoc] at e
      rw [List.flatMap_cons, ← e, List.map_cons]
      by_cases hf : s.first < s.last
      · have e1 : s.len = s.last - s.first := by unfold Sg.len; rw [if_pos hf]
        rw [e1] at c1 s2 k1
        simp only [Sg.d] at c1 ⊢
        simp [runF, evSs, evS, ev, evs, evo, evc, evi, mSeq, mSet, mRet, mRetN, mSkip, mDo, mIte, mUnp, mPar, mAug, mApp, mExt, mPut, mOwn, mCell, mFreeze, mFor, mRaise, mTry, findH, bs, endOf, mArgs, mAnds, mOrs, mTAnds, mTOrs, mAnd, mOr, mNot, mTAnd, mTOr, mTNot, mTru, mIsB, mIf, mChain, mUn, mBin, mVar, mC, mCons, mNil, mTup, mLst, mCallB, mCall, mCut, mPart, mNoPart, mIter, mRng1_s, mRng2_s, mEnum, mZip, mComp, mYes, bx, notOwn, wipeO, startE, RV.sv, bd, ret, lift, RV.see, see_int, see_bl, see_str, see_non, see_tup, see_lst, see_ref, D.isi, BOp.g, COp.g, Bi.g, D.cmpI, D.add, D.sub, D.mul, D.fdiv, D.mod, D.neg, D.at_, D.bLen, D.bAbs, D.bTuple, D.bList, D.bInt, allVal, setAll, Tg.set, D.truth, D.isNo, D.notNo, D.nonB, D.toInt, D.cut, D.eqO, D.neO, D.inO, D.ninO, D.dep, D.deps, D.items, D.eq, sz1, sz2, sz3, sz4, sz5, sz6, sz7, sz8, sz9, sz10, sz11, sz12, forD, b__law_hours_L1, at4, at5, hf, c1, s1, s2, k1, e1]
      · have e1 : s.len = 24 - s.first + s.last := by unfold Sg.len; rw [if_neg hf]
        rw [e1] at c1 s2 k1
        simp only [Sg.d] at c1 ⊢
        simp [runF, evSs, evS, ev, evs, evo, evc, evi, mSeq, mSet, mRet, mRetN, mSkip, mDo, mIte, mUnp, mPar, mAug, mApp, mExt, mPut, mOwn, mCell, mFreeze, mFor, mRaise, mTry, findH, bs, endOf, mArgs, mAnds, mOrs, mTAnds, mTOrs, mAnd, mOr, mNot, mTAnd, mTOr, mTNot, mTru, mIsB, mIf, mChain, mUn, mBin, mVar, mC, mCons, mNil, mTup, mLst, mCallB, mCall, mCut, mPart, mNoPart, mIter, mRng1_s, mRng2_s, mEnum, mZip, mComp, mYes, bx, notOwn, wipeO, startE, RV.sv, bd, ret, lift, RV.see, see_int, see_bl, see_str, see_non, see_tup, see_lst, see_ref, D.isi, BOp.g, COp.g, Bi.g, D.cmpI, D.add, D.sub, D.mul, D.fdiv, D.mod, D.neg, D.at_, D.bLen, D.bAbs, D.bTuple, D.bList, D.bInt, allVal, setAll, Tg.set, D.truth, D.isNo, D.notNo, D.nonB, D.toInt, D.cut, D.eqO, D.neO, D.inO, D.ninO, D.dep, D.deps, D.items, D.eq, sz1, sz2, sz3, sz4, sz5, sz6, sz7, sz8, sz9, sz10, sz11, sz12, forD, b__law_hours_L1, at4, at5, hf, c1, s1, s2, k1, e1]
  obtain ⟨c', d', e⟩ := lp s.days [] none none (by simp; omega)
  have z0 : 0 ≤ sizeLine := Nat.zero_le _
  have e2 : hoursD s = s.days.flatMap (hrs s) := rfl
  simp only [List.map_nil, List.nil_append] at e
  unfold Sg.d at e ⊢
  simp [runF, evSs, evS, ev, evs, evo, evc, evi, mSeq, mSet, mRet, mRetN, mSkip, mDo, mIte, mUnp, mPar, mAug, mApp, mExt, mPut, mOwn, mCell, mFreeze, mFor, mRaise, mTry, findH, bs, endOf, mArgs, mAnds, mOrs, mTAnds, mTOrs, mAnd, mOr, mNot, mTAnd, mTOr, mTNot, mTru, mIsB, mIf, mChain, mUn, mBin, mVar, mC, mCons, mNil, mTup, mLst, mCallB, mCall, mCut, mPart, mNoPart, mIter, mRng1_s, mRng2_s, mEnum, mZip, mComp, mYes, bx, notOwn, wipeO, startE, RV.sv, bd, ret, lift, RV.see, see_int, see_bl, see_str, see_non, see_tup, see_lst, see_ref, D.isi, BOp.g, COp.g, Bi.g, D.cmpI, D.add, D.sub, D.mul, D.fdiv, D.mod, D.neg, D.at_, D.bLen, D.bAbs, D.bTuple, D.bList, D.bInt, allVal, setAll, Tg.set, D.truth, D.isNo, D.notNo, D.nonB, D.toInt, D.cut, D.eqO, D.neO, D.inO, D.ninO, D.dep, D.deps, D.items, D.eq, sz1, sz2, sz3, sz4, sz5, sz6, sz7, sz8, sz9, sz10, sz11, sz12, b__law_hours, at3, e, e2]
end Kb
namespace Kb
open PySem L2
theorem hours_any {p : Int} {s : Sg} (hs : sgOk p s = true) {hour : Int} (h0 : 0 ≤ hour) (h1 : hour ≤ 167) : ((hoursD s).any fun x => x == hour) = s.days.any fun day => decide ((hour - 24 * day - s.first) % 168 < s.len) := by
  have hl := sg_len hs
  unfold hoursD
  rw [List.any_flatMap]
  congr 1
  funext day
  rw [List.any_map, Bool.eq_iff_iff]
  simp only [List.any_eq_true, List.mem_range, Function.comp, beq_iff_eq, decide_eq_true_eq]
  constructor
  · rintro ⟨k, hk, e⟩
    omega
  · intro q
    refine ⟨((hour - 24 * day - s.first) % 168).toNat, by omega, by omega⟩
def lawB (s : Sg) (place hour : Int) : Bool := (decide (s.start ≤ place) && decide (place < s.stop)) && (hoursD s).any fun x => x == hour
theorem lawB_holds {p : Int} {s : Sg} (hs : sgOk p s = true) {place hour : Int} (h0 : 0 ≤ hour) (h1 : hour ≤ 167) : lawB s place hour = holdsB s place hour := by
  unfold lawB holdsB
  rw [hours_any hs h0 h1]
abbrev SLawHolding (R : List Sg → Int → Int → List Nat) (F : FM) : Prop := ∀ p l (place hour : Int) h, Str8 p l → rngB hour 0 167 = true → F [.val (stD p l), .val (.int place), .val (.int hour)] h = some (.ok (natL (R l place hour)) h)
theorem rng_zip {α : Type} (l : List α) : rngD 0 l.length = l.zipIdx.map fun p => .int (p.2 : Int) := by
  unfold rngD
  have : ∀ (l : List α) (k : Nat), (List.range' k l.length).map (fun (i : Nat) => D.int ((i : Nat) : Int)) = (l.zipIdx k).map fun p => D.int (p.2 : Int) := by
    intro l
    induction l with
    | nil => intro k; rfl
    | cons a r ih => intro k; simp [List.range'_succ, List.zipIdx_cons, ih]
  have e := this l 0
  rw [← List.range_eq_range'] at e
  rw [← e]
  simp
theorem law_holding_L1 {cl : Nat → FM} {n0 : Nat} (h0 : SHours (cl n0)) {p : Int} {l : List Sg} {place hour : Int} {h : List Cell} (S : Str8 p l) (hr : 0 ≤ hour ∧ hour ≤ 167) : ∀ (todo : List (Sg × Nat)) (acc : List Nat) (c d : Option SV), (∀ q ∈ todo, l[q.2]? = some q.1) → acc.length + todo.length ≤ 1000 → ∃ c' d', forD (.name 4) (evSs cl (b__law_holding_L1 n0)) (todo.map fun q => .int (q.2 : Int)) [some (SV.val (stD p l)), some (SV.val (.int place)), some (SV.val (.int hour)), some (SV.own (acc.map fun (i : Nat) => .int (i : Int))), c, d] h =
      some (.next [some (SV.val (stD p l)), some (SV.val (.int place)), some (SV.val (.int hour)), some (SV.own ((acc ++ (todo.filter fun q => holdsB q.1 place hour).map (·.2)).map fun (i : Nat) => .int (i : Int))), c', d'] h) := by
  intro todo
  induction todo with
  | nil => intro acc c d _ _; exact ⟨c, d, by simp [forD]⟩
  | cons q r ih =>
    intro acc c d hq hlen
    obtain ⟨s, i⟩ := q
    have hi : l[i]? = some s := hq (s, i) List.mem_cons_self
    obtain ⟨hi1, hi2⟩ := List.getElem?_eq_some_iff.mp hi
    have hs : sgOk p s = true := S.ok s (List.mem_of_getElem? hi)
    have e1 : atI (l.map Sg.d) (i : Int) = some (.tup [.int s.rank, .int s.start, .int s.stop, .tup (s.days.map D.int), .int s.first, .int s.last, .str s.word, .int s.value]) := by
      show _ = some s.d
      rw [atI_nat (by rw [List.length_map]; exact hi1), List.getElem_map, hi2]
    have e2 : cl n0 [.val (.tup [.int s.rank, .int s.start, .int s.stop, .tup (s.days.map D.int), .int s.first, .int s.last, .str s.word, .int s.value])] h = some (.ok (.lst ((hoursD s).map D.int)) h) := h0 p s h hs
    have e3 : ((hoursD s).any fun x => x == hour) = s.days.any fun day => decide ((hour - 24 * day - s.first) % 168 < s.len) := hours_any hs hr.1 hr.2
    have s1 : acc.length < sizeLine := Nat.lt_of_le_of_lt (by simp at hlen; omega : acc.length ≤ 100000) size_big
    have e4 := lawB_holds hs (place := place) hr.1 hr.2
    unfold lawB at e4
    have dp := deps_ints (hoursD s)
    have ea : ((hoursD s).map D.int).any (fun z => D.eq z (.int hour)) = (hoursD s).any fun x => x == hour := by rw [List.any_map]; rfl
    cases hb : holdsB s place hour with
    | true =>
      obtain ⟨c', d', e⟩ := ih (acc ++ [i]) (some (.val (.int i))) (some (.val s.d)) (fun q h => hq q (List.mem_cons_of_mem _ h)) (by simp at hlen ⊢; omega)
      refine ⟨c', d', ?_⟩
      rw [hb] at e4
      simp only [Bool.and_eq_true, decide_eq_true_eq] at e4
      rw [List.append_assoc, List.singleton_append] at e
      rw [List.filter_cons_of_pos (by exact hb), List.map_cons (f := fun (x : Sg × Nat) => x.2), ← e]
      unfold Sg.d
      simp [runF, evSs, evS, ev, evs, evo, evc, evi, mSeq, mSet, mRet, mRetN, mSkip, mDo, mIte, mUnp, mPar, mAug, mApp, mExt, mPut, mOwn, mCell, mFreeze, mFor, mRaise, mTry, findH, bs, endOf, mArgs, mAnds, mOrs, mTAnds, mTOrs, mAnd, mOr, mNot, mTAnd, mTOr, mTNot, mTru, mIsB, mIf, mChain, mUn, mBin, mVar, mC, mCons, mNil, mTup, mLst, mCallB, mCall, mCut, mPart, mNoPart, mIter, mRng1_s, mRng2_s, mEnum, mZip, mComp, mYes, bx, notOwn, wipeO, startE, RV.sv, bd, ret, lift, RV.see, see_int, see_bl, see_str, see_non, see_tup, see_lst, see_ref, D.isi, BOp.g, COp.g, Bi.g, D.cmpI, D.add, D.sub, D.mul, D.fdiv, D.mod, D.neg, D.at_, D.bLen, D.bAbs, D.bTuple, D.bList, D.bInt, allVal, setAll, Tg.set, D.truth, D.isNo, D.notNo, D.nonB, D.toInt, D.cut, D.eqO, D.neO, D.inO, D.ninO, D.dep, D.deps, D.items, D.eq, sz1, sz2, sz3, sz4, sz5, sz6, sz7, sz8, sz9, sz10, sz11, sz12, forD, b__law_holding_L1, stD, at1, at2, e1, e2, e4.1.1, e4.1.2, dp, ea, e4.2, s1]
    | false =>
      obtain ⟨c', d', e⟩ := ih acc (some (.val (.int i))) (some (.val s.d)) (fun q h => hq q (List.mem_cons_of_mem _ h)) (by simp at hlen ⊢; omega)
      refine ⟨c', d', ?_⟩
      rw [hb] at e4
      rw [List.filter_cons_of_neg (by rw [hb]; exact Bool.false_ne_true), ← e]
      unfold Sg.d
      by_cases a1 : s.start ≤ place
      · by_cases a2 : place < s.stop
        · have a3 : ((hoursD s).any fun x => x == hour) = false := by simpa [a1, a2] using e4
          simp [runF, evSs, evS, ev, evs, evo, evc, evi, mSeq, mSet, mRet, mRetN, mSkip, mDo, mIte, mUnp, mPar, mAug, mApp, mExt, mPut, mOwn, mCell, mFreeze, mFor, mRaise, mTry, findH, bs, endOf, mArgs, mAnds, mOrs, mTAnds, mTOrs, mAnd, mOr, mNot, mTAnd, mTOr, mTNot, mTru, mIsB, mIf, mChain, mUn, mBin, mVar, mC, mCons, mNil, mTup, mLst, mCallB, mCall, mCut, mPart, mNoPart, mIter, mRng1_s, mRng2_s, mEnum, mZip, mComp, mYes, bx, notOwn, wipeO, startE, RV.sv, bd, ret, lift, RV.see, see_int, see_bl, see_str, see_non, see_tup, see_lst, see_ref, D.isi, BOp.g, COp.g, Bi.g, D.cmpI, D.add, D.sub, D.mul, D.fdiv, D.mod, D.neg, D.at_, D.bLen, D.bAbs, D.bTuple, D.bList, D.bInt, allVal, setAll, Tg.set, D.truth, D.isNo, D.notNo, D.nonB, D.toInt, D.cut, D.eqO, D.neO, D.inO, D.ninO, D.dep, D.deps, D.items, D.eq, sz1, sz2, sz3, sz4, sz5, sz6, sz7, sz8, sz9, sz10, sz11, sz12, forD, b__law_holding_L1, stD, at1, at2, e1, e2, a1, a2, dp, ea, a3, s1]
        · simp [runF, evSs, evS, ev, evs, evo, evc, evi, mSeq, mSet, mRet, mRetN, mSkip, mDo, mIte, mUnp, mPar, mAug, mApp, mExt, mPut, mOwn, mCell, mFreeze, mFor, mRaise, mTry, findH, bs, endOf, mArgs, mAnds, mOrs, mTAnds, mTOrs, mAnd, mOr, mNot, mTAnd, mTOr, mTNot, mTru, mIsB, mIf, mChain, mUn, mBin, mVar, mC, mCons, mNil, mTup, mLst, mCallB, mCall, mCut, mPart, mNoPart, mIter, mRng1_s, mRng2_s, mEnum, mZip, mComp, mYes, bx, notOwn, wipeO, startE, RV.sv, bd, ret, lift, RV.see, see_int, see_bl, see_str, see_non, see_tup, see_lst, see_ref, D.isi, BOp.g, COp.g, Bi.g, D.cmpI, D.add, D.sub, D.mul, D.fdiv, D.mod, D.neg, D.at_, D.bLen, D.bAbs, D.bTuple, D.bList, D.bInt, allVal, setAll, Tg.set, D.truth, D.isNo, D.notNo, D.nonB, D.toInt, D.cut, D.eqO, D.neO, D.inO, D.ninO, D.dep, D.deps, D.items, D.eq, sz1, sz2, sz3, sz4, sz5, sz6, sz7, sz8, sz9, sz10, sz11, sz12, forD, b__law_holding_L1, stD, at1, at2, e1, e2, a1, a2]
      · simp [runF, evSs, evS, ev, evs, evo, evc, evi, mSeq, mSet, mRet, mRetN, mSkip, mDo, mIte, mUnp, mPar, mAug, mApp, mExt, mPut, mOwn, mCell, mFreeze, mFor, mRaise, mTry, findH, bs, endOf, mArgs, mAnds, mOrs, mTAnds, mTOrs, mAnd, mOr, mNot, mTAnd, mTOr, mTNot, mTru, mIsB, mIf, mChain, mUn, mBin, mVar, mC, mCons, mNil, mTup, mLst, mCallB, mCall, mCut, mPart, mNoPart, mIter, mRng1_s, mRng2_s, mEnum, mZip, mComp, mYes, bx, notOwn, wipeO, startE, RV.sv, bd, ret, lift, RV.see, see_int, see_bl, see_str, see_non, see_tup, see_lst, see_ref, D.isi, BOp.g, COp.g, Bi.g, D.cmpI, D.add, D.sub, D.mul, D.fdiv, D.mod, D.neg, D.at_, D.bLen, D.bAbs, D.bTuple, D.bList, D.bInt, allVal, setAll, Tg.set, D.truth, D.isNo, D.notNo, D.nonB, D.toInt, D.cut, D.eqO, D.neO, D.inO, D.ninO, D.dep, D.deps, D.items, D.eq, sz1, sz2, sz3, sz4, sz5, sz6, sz7, sz8, sz9, sz10, sz11, sz12, forD, b__law_holding_L1, stD, at1, at2, e1, e2, a1]
theorem law_holding_t1 {cl : Nat → FM} {l : List Sg} {p place hour : Int} {h : List Cell} (k1 : okR (l.length : Int) = true) : evi cl true (.rng1 (.bi .len (.cons (.idx (.var 0) (.cI 1)) .nil))) [some (SV.val (stD p l)), some (SV.val (.int place)), some (SV.val (.int hour)), some (SV.own []), none, none] h = some (.ok (rngD 0 l.length) h) := by
  simp [runF, evSs, evS, ev, evs, evo, evc, evi, mSeq, mSet, mRet, mRetN, mSkip, mDo, mIte, mUnp, mPar, mAug, mApp, mExt, mPut, mOwn, mCell, mFreeze, mFor, mRaise, mTry, findH, bs, endOf, mArgs, mAnds, mOrs, mTAnds, mTOrs, mAnd, mOr, mNot, mTAnd, mTOr, mTNot, mTru, mIsB, mIf, mChain, mUn, mBin, mVar, mC, mCons, mNil, mTup, mLst, mCallB, mCall, mCut, mPart, mNoPart, mIter, mRng1_s, mRng2_s, mEnum, mZip, mComp, mYes, bx, notOwn, wipeO, startE, RV.sv, bd, ret, lift, RV.see, see_int, see_bl, see_str, see_non, see_tup, see_lst, see_ref, D.isi, BOp.g, COp.g, Bi.g, D.cmpI, D.add, D.sub, D.mul, D.fdiv, D.mod, D.neg, D.at_, D.bLen, D.bAbs, D.bTuple, D.bList, D.bInt, allVal, setAll, Tg.set, D.truth, D.isNo, D.notNo, D.nonB, D.toInt, D.cut, D.eqO, D.neO, D.inO, D.ninO, D.dep, D.deps, D.items, D.eq, sz1, sz2, sz3, sz4, sz5, sz6, sz7, sz8, sz9, sz10, sz11, sz12, stD, at1, k1]
theorem law_holding_t2 {cl : Nat → FM} {l : List Sg} {p place hour : Int} {h : List Cell} {c' d' : Option SV} (q : List Nat) : endOf (evSs cl (.frz 3 (.cons (.ret (.var 3)) .nil)) [some (SV.val (stD p l)), some (SV.val (.int place)), some (SV.val (.int hour)), some (SV.own (q.map fun (i : Nat) => .int (i : Int))), c', d'] h) = some (.ok (natL q) h) := by
  rfl
theorem law_holding_t3 {cl : Nat → FM} {l : List Sg} {p place hour : Int} {h : List Cell} : evS cl (.own 3 .nil) [some (SV.val (stD p l)), some (SV.val (.int place)), some (SV.val (.int hour)), none, none, none] h = some (.next [some (SV.val (stD p l)), some (SV.val (.int place)), some (SV.val (.int hour)), some (SV.own []), none, none] h) := by simp [runF, evSs, evS, ev, evs, evo, evc, evi, mSeq, mSet, mRet, mRetN, mSkip, mDo, mIte, mUnp, mPar, mAug, mApp, mExt, mPut, mOwn, mCell, mFreeze, mFor, mRaise, mTry, findH, bs, endOf, mArgs, mAnds, mOrs, mTAnds, mTOrs, mAnd, mOr, mNot, mTAnd, mTOr, mTNot, mTru, mIsB, mIf, mChain, mUn, mBin, mVar, mC, mCons, mNil, mTup, mLst, mCallB, mCall, mCut, mPart, mNoPart, mIter, mRng1_s, mRng2_s, mEnum, mZip, mComp, mYes, bx, notOwn, wipeO, startE, RV.sv, bd, ret, lift, RV.see, see_int, see_bl, see_str, see_non, see_tup, see_lst, see_ref, D.isi, BOp.g, COp.g, Bi.g, D.cmpI, D.add, D.sub, D.mul, D.fdiv, D.mod, D.neg, D.at_, D.bLen, D.bAbs, D.bTuple, D.bList, D.bInt, allVal, setAll, Tg.set, D.truth, D.isNo, D.notNo, D.nonB, D.toInt, D.cut, D.eqO, D.neO, D.inO, D.ninO, D.dep, D.deps, D.items, D.eq, sz1, sz2, sz3, sz4, sz5, sz6, sz7, sz8, sz9, sz10, sz11, sz12]
theorem law_holding_t4 {cl : Nat → FM} {n0 : Nat} {p : Int} {l : List Sg} {place hour : Int} {h : List Cell} {c' d' : Option SV} {q : List D} (k1 : okR (l.length : Int) = true) (e : forD (.name 4) (evSs cl (b__law_holding_L1 n0)) (rngD 0 l.length) [some (SV.val (stD p l)), some (SV.val (.int place)), some (SV.val (.int hour)), some (SV.own []), none, none] h = some (.next [some (SV.val (stD p l)), some (SV.val (.int place)), some (SV.val (.int hour)), some (SV.own q), c', d'] h)) : evS cl (.loop (.name 4) (.rng1 (.bi .len (.cons (.idx (.var 0) (.cI 1)) .nil))) (b__law_holding_L1 n0)) [some (SV.val (stD p l)), some (SV.val (.int place)), some (SV.val (.int hour)), some (SV.own []), none, none] h = some (.next [some (SV.val (stD p l)), some (SV.val (.int place)), some (SV.val (.int hour)), some (SV.own q), c', d'] h) := for_go (law_holding_t1 k1) e
theorem law_holding_t5 {cl : Nat → FM} {n0 : Nat} {p : Int} {l : List Sg} {place hour : Int} {h : List Cell} {c' d' : Option SV} {q : List D} (k1 : okR (l.length : Int) = true) (e : forD (.name 4) (evSs cl (b__law_holding_L1 n0)) (rngD 0 l.length) [some (SV.val (stD p l)), some (SV.val (.int place)), some (SV.val (.int hour)), some (SV.own []), none, none] h = some (.next [some (SV.val (stD p l)), some (SV.val (.int place)), some (SV.val (.int hour)), some (SV.own q), c', d'] h)) : runF cl 6 (b__law_holding n0) [.val (stD p l), .val (.int place), .val (.int hour)] h = endOf (evSs cl (.frz 3 (.cons (.ret (.var 3)) .nil)) [some (SV.val (stD p l)), some (SV.val (.int place)), some (SV.val (.int hour)), some (SV.own q), c', d'] h) := by
  have es : startE 6 [.val (stD p l), .val (.int place), .val (.int hour)] = [some (SV.val (stD p l)), some (SV.val (.int place)), some (SV.val (.int hour)), none, none, none] := rfl
  unfold runF b__law_holding
  rw [es, seq_next law_holding_t3, seq_next (law_holding_t4 k1 e)]
theorem law_holding_ok {cl : Nat → FM} {n0 : Nat} (h0 : SHours (cl n0)) : SLawHolding holdL (runF cl 6 (b__law_holding n0)) := by
  intro p l place hour h S hh
  have hr : 0 ≤ hour ∧ hour ≤ 167 := by unfold rngB at hh; simpa using hh
  obtain ⟨c', d', e⟩ := law_holding_L1 h0 (place := place) (h := h) S hr l.zipIdx [] none none (fun q hq => by
    obtain ⟨h1, h2, h3⟩ := List.mem_zipIdx hq
    rw [List.getElem?_eq_getElem (by omega), h3]
    simp) (by simp; have := S.len; omega)
  rw [← rng_zip] at e
  have k1 : okR (l.length : Int) = true := okR_nat (by have := S.len; omega)
  exact (law_holding_t5 k1 e).trans (law_holding_t2 _)
abbrev SLawFind (R : List Sg → Int → Int → List Nat) (F : FM) : Prop := SLawHolding R F
theorem max_of (ns : List Int) (h : ns ≠ []) : ∃ z, ns.max? = some z ∧ D.bMax [.lst (ns.map D.int)] = some (.int z) := by
  cases q : ns.max? with
  | none => rw [List.max?_eq_none_iff] at q; exact absurd q h
  | some z =>
    refine ⟨z, rfl, ?_⟩
    have e2 : D.bMax [.lst (ns.map D.int)] = (D.ints (ns.map D.int)).bind fun ns => ns.max?.map D.int := rfl
    rw [e2, ints_map]
    simp [q]
theorem rank_pos {p : Int} {s : Sg} (h : sgOk p s = true) : 0 ≤ s.rank := by
  unfold sgOk rngB at h
  simp at h
  omega
theorem top_max {ns : List Int} {z : Int} (h : ns.max? = some z) (h0 : ∀ n ∈ ns, 0 ≤ n) : topOf ns = z := by
  unfold topOf
  have hz := List.max?_eq_some_iff.mp h
  have : (ns ++ [-1]).max? = some z := by
    rw [List.max?_eq_some_iff]
    refine ⟨List.mem_append_left _ hz.1, fun b hb => ?_⟩
    rcases List.mem_append.mp hb with hb | hb
    · exact hz.2 b hb
    · have := h0 z hz.1
      simp at hb
      omega
  rw [this]
  rfl
theorem law_counting_ok {cl : Nat → FM} {n0 : Nat} (h0 : SLawHolding holdL (cl n0)) : SLawHolding countL (runF cl 6 (b__law_counting n0)) := by
  intro p l place hour h S hh
  have e0 := h0 p l place hour h S hh
  have s1 : (holdL l place hour).length ≤ sizeLine := size_le (by have := S.len; have := holdL_len l place hour; omega)
  have c1 : compD (.name 5) mYes (mBin D.at_ (mBin D.at_ (mBin D.at_ (mVar 0) (mC (.int 1))) (mVar 5)) (mC (.int 0))) [some (SV.val (stD p l)), some (SV.val (.int place)), some (SV.val (.int hour)), some (SV.val (natL (holdL l place hour))), none, none] ((holdL l place hour).map fun (i : Nat) => .int (i : Int)) h =
      some (.ok ((holdL l place hour).map fun i => .int (rankAt l i)) h) := by
    refine compD_map _ _ _ fun i hi => ⟨_, rfl, ?_⟩
    have k := rank_look (holdL_lt hi)
    simp [runF, evSs, evS, ev, evs, evo, evc, evi, mSeq, mSet, mRet, mRetN, mSkip, mDo, mIte, mUnp, mPar, mAug, mApp, mExt, mPut, mOwn, mCell, mFreeze, mFor, mRaise, mTry, findH, bs, endOf, mArgs, mAnds, mOrs, mTAnds, mTOrs, mAnd, mOr, mNot, mTAnd, mTOr, mTNot, mTru, mIsB, mIf, mChain, mUn, mBin, mVar, mC, mCons, mNil, mTup, mLst, mCallB, mCall, mCut, mPart, mNoPart, mIter, mRng1_s, mRng2_s, mEnum, mZip, mComp, mYes, bx, notOwn, wipeO, startE, RV.sv, bd, ret, lift, RV.see, see_int, see_bl, see_str, see_non, see_tup, see_lst, see_ref, D.isi, BOp.g, COp.g, Bi.g, D.cmpI, D.add, D.sub, D.mul, D.fdiv, D.mod, D.neg, D.at_, D.bLen, D.bAbs, D.bTuple, D.bList, D.bInt, allVal, setAll, Tg.set, D.truth, D.isNo, D.notNo, D.nonB, D.toInt, D.cut, D.eqO, D.neO, D.inO, D.ninO, D.dep, D.deps, D.items, D.eq, sz1, sz2, sz3, sz4, sz5, sz6, sz7, sz8, sz9, sz10, sz11, sz12, stD, at1, k.1, Sg.d, k.2]
  unfold natL at e0
  by_cases hE : holdL l place hour = []
  · have z : countL l place hour = [] := by unfold countL countOf; rw [hE]; rfl
    rw [z]
    rw [hE] at e0
    simp [runF, evSs, evS, ev, evs, evo, evc, evi, mSeq, mSet, mRet, mRetN, mSkip, mDo, mIte, mUnp, mPar, mAug, mApp, mExt, mPut, mOwn, mCell, mFreeze, mFor, mRaise, mTry, findH, bs, endOf, mArgs, mAnds, mOrs, mTAnds, mTOrs, mAnd, mOr, mNot, mTAnd, mTOr, mTNot, mTru, mIsB, mIf, mChain, mUn, mBin, mVar, mC, mCons, mNil, mTup, mLst, mCallB, mCall, mCut, mPart, mNoPart, mIter, mRng1_s, mRng2_s, mEnum, mZip, mComp, mYes, bx, notOwn, wipeO, startE, RV.sv, bd, ret, lift, RV.see, see_int, see_bl, see_str, see_non, see_tup, see_lst, see_ref, D.isi, BOp.g, COp.g, Bi.g, D.cmpI, D.add, D.sub, D.mul, D.fdiv, D.mod, D.neg, D.at_, D.bLen, D.bAbs, D.bTuple, D.bList, D.bInt, allVal, setAll, Tg.set, D.truth, D.isNo, D.notNo, D.nonB, D.toInt, D.cut, D.eqO, D.neO, D.inO, D.ninO, D.dep, D.deps, D.items, D.eq, sz1, sz2, sz3, sz4, sz5, sz6, sz7, sz8, sz9, sz10, sz11, sz12, b__law_counting, e0, natL, compD]
  · obtain ⟨z, m1, m2⟩ := max_of ((holdL l place hour).map (rankAt l)) (by simpa using hE)
    have ht := top_max m1 (fun n hn => by
      obtain ⟨i, hi, rfl⟩ := List.mem_map.mp hn
      rw [rankAt_eq (holdL_lt hi)]
      exact rank_pos (S.ok _ (List.getElem_mem _)))
    have c2 : compD (.name 5) (mIsB (mBin D.inO (mBin D.at_ (mBin D.at_ (mBin D.at_ (mVar 0) (mC (.int 1))) (mVar 5)) (mC (.int 0))) (mVar 4))) (mVar 5) [some (SV.val (stD p l)), some (SV.val (.int place)), some (SV.val (.int hour)), some (SV.val (natL (holdL l place hour))), some (SV.val (.lst [.int z])), none] ((holdL l place hour).map fun (i : Nat) => .int (i : Int)) h =
        some (.ok (((holdL l place hour).filter fun i => rankAt l i == z).map fun (i : Nat) => .int (i : Int)) h) := by
      refine compD_fil _ _ _ _ fun i hi => ⟨_, rfl, ?_, fun _ => rfl⟩
      have k := rank_look (holdL_lt hi)
      simp [runF, evSs, evS, ev, evs, evo, evc, evi, mSeq, mSet, mRet, mRetN, mSkip, mDo, mIte, mUnp, mPar, mAug, mApp, mExt, mPut, mOwn, mCell, mFreeze, mFor, mRaise, mTry, findH, bs, endOf, mArgs, mAnds, mOrs, mTAnds, mTOrs, mAnd, mOr, mNot, mTAnd, mTOr, mTNot, mTru, mIsB, mIf, mChain, mUn, mBin, mVar, mC, mCons, mNil, mTup, mLst, mCallB, mCall, mCut, mPart, mNoPart, mIter, mRng1_s, mRng2_s, mEnum, mZip, mComp, mYes, bx, notOwn, wipeO, startE, RV.sv, bd, ret, lift, RV.see, see_int, see_bl, see_str, see_non, see_tup, see_lst, see_ref, D.isi, BOp.g, COp.g, Bi.g, D.cmpI, D.add, D.sub, D.mul, D.fdiv, D.mod, D.neg, D.at_, D.bLen, D.bAbs, D.bTuple, D.bList, D.bInt, allVal, setAll, Tg.set, D.truth, D.isNo, D.notNo, D.nonB, D.toInt, D.cut, D.eqO, D.neO, D.inO, D.ninO, D.dep, D.deps, D.items, D.eq, sz1, sz2, sz3, sz4, sz5, sz6, sz7, sz8, sz9, sz10, sz11, sz12, stD, at1, k.1, Sg.d, k.2]
      rw [Bool.eq_iff_iff, beq_iff_eq, beq_iff_eq]
      exact eq_comm
    rw [List.map_map] at m2
    have e5 : (D.int ∘ rankAt l) = fun i => D.int (rankAt l i) := rfl
    rw [e5] at m2
    have hne : (holdL l place hour).isEmpty = false := by simpa using hE
    unfold natL at c1 c2
    unfold countL countOf
    rw [ht]
    simp [runF, evSs, evS, ev, evs, evo, evc, evi, mSeq, mSet, mRet, mRetN, mSkip, mDo, mIte, mUnp, mPar, mAug, mApp, mExt, mPut, mOwn, mCell, mFreeze, mFor, mRaise, mTry, findH, bs, endOf, mArgs, mAnds, mOrs, mTAnds, mTOrs, mAnd, mOr, mNot, mTAnd, mTOr, mTNot, mTru, mIsB, mIf, mChain, mUn, mBin, mVar, mC, mCons, mNil, mTup, mLst, mCallB, mCall, mCut, mPart, mNoPart, mIter, mRng1_s, mRng2_s, mEnum, mZip, mComp, mYes, bx, notOwn, wipeO, startE, RV.sv, bd, ret, lift, RV.see, see_int, see_bl, see_str, see_non, see_tup, see_lst, see_ref, D.isi, BOp.g, COp.g, Bi.g, D.cmpI, D.add, D.sub, D.mul, D.fdiv, D.mod, D.neg, D.at_, D.bLen, D.bAbs, D.bTuple, D.bList, D.bInt, allVal, setAll, Tg.set, D.truth, D.isNo, D.notNo, D.nonB, D.toInt, D.cut, D.eqO, D.neO, D.inO, D.ninO, D.dep, D.deps, D.items, D.eq, sz1, sz2, sz3, sz4, sz5, sz6, sz7, sz8, sz9, sz10, sz11, sz12, b__law_counting, e0, s1, c1, m2, c2, natL, hne, hE]
/-! ### with the exception's name -/
abbrev SOr (R : List Sg → Int → Int → List Nat) (F : FM) : Prop :=
  (∀ p l v w h, Str8 p l → v.noRef = true → w.noRef = true → isInt v 0 (p - 1) = false → F [.val (stD p l), .val v, .val w] h = some (.ok (.str "InvalidPlace") h)) ∧
  (∀ p l (v : Int) w h, Str8 p l → rngB v 0 (p - 1) = true → w.noRef = true → isInt w 0 167 = false → F [.val (stD p l), .val (.int v), .val w] h = some (.ok (.str "InvalidHour") h)) ∧
  ∀ b v w h, badSt b → v.noRef = true → w.noRef = true → F [.val b, .val v, .val w] h = some (.ok (.str "InvalidStreet") h)
theorem holding_or_ok {cl : Nat → FM} {n0 xs xp xh : Nat} {R : List Sg → Int → Int → List Nat} (h0 : SQuery xs xp xh R (cl n0)) (d1 : xp ≠ xs) (d2 : xh ≠ xs) (d3 : xh ≠ xp) : SOr R (runF cl 3 (b__law_holding_or xs xp xh n0)) := by
  refine ⟨fun p l v w h S hv hw e => ?_, fun p l v w h S hv hw e => ?_, fun b v w h hb hv hw => ?_⟩
  · simp [runF, evSs, evS, ev, evs, evo, evc, evi, mSeq, mSet, mRet, mRetN, mSkip, mDo, mIte, mUnp, mPar, mAug, mApp, mExt, mPut, mOwn, mCell, mFreeze, mFor, mRaise, mTry, findH, bs, endOf, mArgs, mAnds, mOrs, mTAnds, mTOrs, mAnd, mOr, mNot, mTAnd, mTOr, mTNot, mTru, mIsB, mIf, mChain, mUn, mBin, mVar, mC, mCons, mNil, mTup, mLst, mCallB, mCall, mCut, mPart, mNoPart, mIter, mRng1_s, mRng2_s, mEnum, mZip, mComp, mYes, bx, notOwn, wipeO, startE, RV.sv, bd, ret, lift, RV.see, see_int, see_bl, see_str, see_non, see_tup, see_lst, see_ref, D.isi, BOp.g, COp.g, Bi.g, D.cmpI, D.add, D.sub, D.mul, D.fdiv, D.mod, D.neg, D.at_, D.bLen, D.bAbs, D.bTuple, D.bList, D.bInt, allVal, setAll, Tg.set, D.truth, D.isNo, D.notNo, D.nonB, D.toInt, D.cut, D.eqO, D.neO, D.inO, D.ninO, D.dep, D.deps, D.items, D.eq, sz1, sz2, sz3, sz4, sz5, sz6, sz7, sz8, sz9, sz10, sz11, sz12, b__law_holding_or, h0.2.1 p l v w h S hv hw e, d1]
  · simp [runF, evSs, evS, ev, evs, evo, evc, evi, mSeq, mSet, mRet, mRetN, mSkip, mDo, mIte, mUnp, mPar, mAug, mApp, mExt, mPut, mOwn, mCell, mFreeze, mFor, mRaise, mTry, findH, bs, endOf, mArgs, mAnds, mOrs, mTAnds, mTOrs, mAnd, mOr, mNot, mTAnd, mTOr, mTNot, mTru, mIsB, mIf, mChain, mUn, mBin, mVar, mC, mCons, mNil, mTup, mLst, mCallB, mCall, mCut, mPart, mNoPart, mIter, mRng1_s, mRng2_s, mEnum, mZip, mComp, mYes, bx, notOwn, wipeO, startE, RV.sv, bd, ret, lift, RV.see, see_int, see_bl, see_str, see_non, see_tup, see_lst, see_ref, D.isi, BOp.g, COp.g, Bi.g, D.cmpI, D.add, D.sub, D.mul, D.fdiv, D.mod, D.neg, D.at_, D.bLen, D.bAbs, D.bTuple, D.bList, D.bInt, allVal, setAll, Tg.set, D.truth, D.isNo, D.notNo, D.nonB, D.toInt, D.cut, D.eqO, D.neO, D.inO, D.ninO, D.dep, D.deps, D.items, D.eq, sz1, sz2, sz3, sz4, sz5, sz6, sz7, sz8, sz9, sz10, sz11, sz12, b__law_holding_or, h0.2.2.1 p l v w h S hv hw e, d2, d3]
  · simp [runF, evSs, evS, ev, evs, evo, evc, evi, mSeq, mSet, mRet, mRetN, mSkip, mDo, mIte, mUnp, mPar, mAug, mApp, mExt, mPut, mOwn, mCell, mFreeze, mFor, mRaise, mTry, findH, bs, endOf, mArgs, mAnds, mOrs, mTAnds, mTOrs, mAnd, mOr, mNot, mTAnd, mTOr, mTNot, mTru, mIsB, mIf, mChain, mUn, mBin, mVar, mC, mCons, mNil, mTup, mLst, mCallB, mCall, mCut, mPart, mNoPart, mIter, mRng1_s, mRng2_s, mEnum, mZip, mComp, mYes, bx, notOwn, wipeO, startE, RV.sv, bd, ret, lift, RV.see, see_int, see_bl, see_str, see_non, see_tup, see_lst, see_ref, D.isi, BOp.g, COp.g, Bi.g, D.cmpI, D.add, D.sub, D.mul, D.fdiv, D.mod, D.neg, D.at_, D.bLen, D.bAbs, D.bTuple, D.bList, D.bInt, allVal, setAll, Tg.set, D.truth, D.isNo, D.notNo, D.nonB, D.toInt, D.cut, D.eqO, D.neO, D.inO, D.ninO, D.dep, D.deps, D.items, D.eq, sz1, sz2, sz3, sz4, sz5, sz6, sz7, sz8, sz9, sz10, sz11, sz12, b__law_holding_or, h0.2.2.2 b v w h hb hv hw]
theorem counting_or_ok {cl : Nat → FM} {n0 xs xp xh : Nat} {R : List Sg → Int → Int → List Nat} (h0 : SQuery xs xp xh R (cl n0)) (d1 : xp ≠ xs) (d2 : xh ≠ xs) (d3 : xh ≠ xp) : SOr R (runF cl 3 (b__law_counting_or xs xp xh n0)) := holding_or_ok h0 d1 d2 d3
end Kb
namespace Kb
open PySem L2
abbrev SPick (F : FM) : Prop := ∀ (ns xs : List Int) (l : List D), ns.length ≤ 63 → xs.length ≤ 50000 → l ≠ [] → l.length ≤ 1000 → ∃ (d : D) (xs' : List Int), d ∈ l ∧ F [.bor (ns.map D.int), .val (.ref 0), .val (.lst l)] [.lst (xs.map D.int)] = some (.ok d [.lst (xs'.map D.int)]) ∧ xs'.length ≤ xs.length + 2
theorem pick_ok {cl : Nat → FM} {n0 : Nat} (h0 : SDraw (cl n0)) : SPick (runF cl 3 (b__law_pick n0)) := by
  intro ns xs l hn hx hl hl2
  have hp : 0 < (l.length : Int) := by have := List.length_pos_iff.mpr hl; omega
  obtain ⟨r, xs', e, h1, h2, h3⟩ := h0 ns xs l.length hn hp hx
  obtain ⟨d, hd, e2⟩ := atI_get (xs := l) h1 h2
  refine ⟨d, xs', hd, ?_, h3⟩
  simp [runF, evSs, evS, ev, evs, evo, evc, evi, mSeq, mSet, mRet, mRetN, mSkip, mDo, mIte, mUnp, mPar, mAug, mApp, mExt, mPut, mOwn, mCell, mFreeze, mFor, mRaise, mTry, findH, bs, endOf, mArgs, mAnds, mOrs, mTAnds, mTOrs, mAnd, mOr, mNot, mTAnd, mTOr, mTNot, mTru, mIsB, mIf, mChain, mUn, mBin, mVar, mC, mCons, mNil, mTup, mLst, mCallB, mCall, mCut, mPart, mNoPart, mIter, mRng1_s, mRng2_s, mEnum, mZip, mComp, mYes, bx, notOwn, wipeO, startE, RV.sv, bd, ret, lift, RV.see, see_int, see_bl, see_str, see_non, see_tup, see_lst, see_ref, D.isi, BOp.g, COp.g, Bi.g, D.cmpI, D.add, D.sub, D.mul, D.fdiv, D.mod, D.neg, D.at_, D.bLen, D.bAbs, D.bTuple, D.bList, D.bInt, allVal, setAll, Tg.set, D.truth, D.isNo, D.notNo, D.nonB, D.toInt, D.cut, D.eqO, D.neO, D.inO, D.ninO, D.dep, D.deps, D.items, D.eq, sz1, sz2, sz3, sz4, sz5, sz6, sz7, sz8, sz9, sz10, sz11, sz12, b__law_pick, e, e2]
theorem rngD_succ (k : Int) (n : Nat) : rngD k (n + 1) = .int k :: rngD (k + 1) n := by
  unfold rngD
  rw [List.range_succ_eq_map]
  simp only [List.map_cons, List.map_map]
  congr 1
  · simp
  · apply List.map_congr_left
    intro a _
    simp only [Function.comp]
    congr 1
    omega
theorem incr_snoc : ∀ (l : List Int) (k : Int), incr l = true → (∀ d ∈ l, d < k) → incr (l ++ [k]) = true
  | [], _, _, _ => rfl
  | [a], k, _, h => by
    have := h a (by simp)
    simp [incr, this]
  | a :: b :: r, k, hi, h => by
    simp only [incr, Bool.and_eq_true] at hi
    show (decide (a < b) && incr (b :: (r ++ [k]))) = true
    rw [Bool.and_eq_true]
    exact ⟨hi.1, incr_snoc (b :: r) k hi.2 fun d hd => h d (List.mem_cons_of_mem _ hd)⟩
structure DaysJ (k : Nat) (ds : List Int) : Prop where
  lt : ∀ d ∈ ds, 0 ≤ d ∧ d < k
  inc : incr ds = true
  len : ds.length ≤ k
abbrev SSign (F : FM) : Prop := ∀ (ns xs : List Int) (places : Int), ns.length ≤ 63 → 1 ≤ places → places ≤ 4 → xs.length ≤ 40000 → ∃ (s : Sg) (xs' : List Int), F [.bor (ns.map D.int), .val (.ref 0), .val (.int places)] [.lst (xs.map D.int)] = some (.ok s.d [.lst (xs'.map D.int)]) ∧ sgOk places s = true ∧ s.rank ≤ 2 ∧ xs'.length ≤ xs.length + 60
theorem sign_days {cl : Nat → FM} {n0 : Nat} (h0 : SDraw (cl n0)) {ns : List Int} (hn : ns.length ≤ 63) {ρ : En} (hρ : ∀ d : Int, ∃ ρ1, (Tg.name 6).set (.int d) ρ = some ρ1 ∧ ρ1[0]? = some (some (.bor (ns.map D.int))) ∧ ρ1[1]? = some (some (.val (.ref 0))) ∧ ρ1[6]? = some (some (.val (.int d)))) {xs : List Int} (hx : xs.length ≤ 49000) :
    ∃ (ds xs' : List Int), compD (.name 6) (mTru (mCall 3 (cl n0) (mCons (mVar 0) (mCons (mVar 1) (mCons (mC (.int 2)) mNil))))) (mVar 6) ρ (rngD 0 7) [.lst (xs.map D.int)] = some (.ok (ds.map D.int) [.lst (xs'.map D.int)]) ∧ DaysJ 7 ds ∧ xs'.length ≤ xs.length + 14 := by
  obtain ⟨es, h', e, ds, xs', k, e1, e2, e3, e4, e5⟩ := compD_st (t := .name 6) (mt := mTru (mCall 3 (cl n0) (mCons (mVar 0) (mCons (mVar 1) (mCons (mC (.int 2)) mNil))))) (me := mVar 6) (ρ := ρ)
    (fun rest acc h => ∃ (ds xs' : List Int) (k : Nat), rest = rngD k (7 - k) ∧ k ≤ 7 ∧ acc = ds.map D.int ∧ (h = [.lst (xs'.map D.int)] ∧ xs'.length ≤ xs.length + 2 * k) ∧ DaysJ k ds)
    (fun d rest acc h ⟨ds, xs', k, r1, r2, r3, ⟨r4, r5⟩, J⟩ => by
      have hk : k < 7 := by
        rcases Nat.lt_or_ge k 7 with q | q
        · exact q
        · have : k = 7 := by omega
          subst this
          simp [rngD] at r1
      have e7 : 7 - k = (7 - (k + 1)) + 1 := by omega
      rw [e7, rngD_succ] at r1
      cases r1
      obtain ⟨ρ1, q1, q2, q3, q4⟩ := hρ k
      obtain ⟨r, xs2, e, b1, b2, b3⟩ := h0 ns xs' 2 hn (by omega) (by omega)
      refine ⟨ρ1, decide (r ≠ 0), [.lst (xs2.map D.int)], q1, ?_, fun _ => ⟨.int k, _, ?_, ds ++ [(k : Int)], xs2, k + 1, rfl, by omega, by rw [r3, List.map_append]; rfl, ⟨rfl, by omega⟩, ?_⟩, fun _ => ⟨ds, xs2, k + 1, rfl, by omega, r3, ⟨rfl, by omega⟩, ?_⟩⟩
      · subst r4
        simp [runF, evSs, evS, ev, evs, evo, evc, evi, mSeq, mSet, mRet, mRetN, mSkip, mDo, mIte, mUnp, mPar, mAug, mApp, mExt, mPut, mOwn, mCell, mFreeze, mFor, mRaise, mTry, findH, bs, endOf, mArgs, mAnds, mOrs, mTAnds, mTOrs, mAnd, mOr, mNot, mTAnd, mTOr, mTNot, mTru, mIsB, mIf, mChain, mUn, mBin, mVar, mC, mCons, mNil, mTup, mLst, mCallB, mCall, mCut, mPart, mNoPart, mIter, mRng1_s, mRng2_s, mEnum, mZip, mComp, mYes, bx, notOwn, wipeO, startE, RV.sv, bd, ret, lift, RV.see, see_int, see_bl, see_str, see_non, see_tup, see_lst, see_ref, D.isi, BOp.g, COp.g, Bi.g, D.cmpI, D.add, D.sub, D.mul, D.fdiv, D.mod, D.neg, D.at_, D.bLen, D.bAbs, D.bTuple, D.bList, D.bInt, allVal, setAll, Tg.set, D.truth, D.isNo, D.notNo, D.nonB, D.toInt, D.cut, D.eqO, D.neO, D.inO, D.ninO, D.dep, D.deps, D.items, D.eq, sz1, sz2, sz3, sz4, sz5, sz6, sz7, sz8, sz9, sz10, sz11, sz12, q2, q3, e]
        by_cases z : r = 0 <;> simp [z]
      · simp [runF, evSs, evS, ev, evs, evo, evc, evi, mSeq, mSet, mRet, mRetN, mSkip, mDo, mIte, mUnp, mPar, mAug, mApp, mExt, mPut, mOwn, mCell, mFreeze, mFor, mRaise, mTry, findH, bs, endOf, mArgs, mAnds, mOrs, mTAnds, mTOrs, mAnd, mOr, mNot, mTAnd, mTOr, mTNot, mTru, mIsB, mIf, mChain, mUn, mBin, mVar, mC, mCons, mNil, mTup, mLst, mCallB, mCall, mCut, mPart, mNoPart, mIter, mRng1_s, mRng2_s, mEnum, mZip, mComp, mYes, bx, notOwn, wipeO, startE, RV.sv, bd, ret, lift, RV.see, see_int, see_bl, see_str, see_non, see_tup, see_lst, see_ref, D.isi, BOp.g, COp.g, Bi.g, D.cmpI, D.add, D.sub, D.mul, D.fdiv, D.mod, D.neg, D.at_, D.bLen, D.bAbs, D.bTuple, D.bList, D.bInt, allVal, setAll, Tg.set, D.truth, D.isNo, D.notNo, D.nonB, D.toInt, D.cut, D.eqO, D.neO, D.inO, D.ninO, D.dep, D.deps, D.items, D.eq, sz1, sz2, sz3, sz4, sz5, sz6, sz7, sz8, sz9, sz10, sz11, sz12, q4]
      · refine ⟨fun d hd => ?_, incr_snoc _ _ J.inc fun d hd => (J.lt d hd).2, by simp; have := J.len; omega⟩
        rcases List.mem_append.mp hd with hd | hd
        · have := J.lt d hd; omega
        · simp at hd; omega
      · exact ⟨fun d hd => by have := J.lt d hd; omega, J.inc, by have := J.len; omega⟩)
    (rngD 0 7) [] [.lst (xs.map D.int)] ⟨[], xs, 0, rfl, by omega, rfl, ⟨rfl, by omega⟩, ⟨by simp, rfl, by simp⟩⟩
  obtain ⟨e4, e6⟩ := e4
  refine ⟨ds, xs', ?_, ?_, by omega⟩
  · rw [e, ← e4, ← e3]
    simp
  · exact ⟨fun d hd => by have := e5.lt d hd; omega, e5.inc, by have := e5.len; omega⟩
theorem days_fin {ds : List Int} (J : DaysJ 7 ds) (h : ds ≠ []) : daysOk ds = true := by
  have h1 := List.length_pos_iff.mpr h
  have h2 := J.len
  unfold daysOk
  simp only [Bool.and_eq_true, decide_eq_true_eq, List.all_eq_true]
  exact ⟨⟨⟨by omega, h2⟩, fun d hd => by have := J.lt d hd; omega⟩, J.inc⟩
theorem days_one {d : Int} (h0 : 0 ≤ d) (h1 : d < 7) : daysOk [d] = true := by
  unfold daysOk
  simp [incr]
  omega
end Kb
namespace Kb
open PySem L2
theorem f1 : (Str.ofString "none" == Str.ofString "only") = false := by decide +kernel
theorem f2 : (Str.ofString "none" == Str.ofString "limit") = false := by decide +kernel
theorem f3 : (Str.ofString "only" == Str.ofString "limit") = false := by decide +kernel
theorem f4 : (Str.ofString "limit" == Str.ofString "only") = false := by decide +kernel
theorem f5 : (Str.ofString "free" == Str.ofString "only") = false := by decide +kernel
theorem f6 : (Str.ofString "free" == Str.ofString "limit") = false := by decide +kernel
theorem f7 : (Str.ofString "none" == Str.ofString "free") = false := by decide +kernel
def wordsL : List D := [.str "none", .str "only", .str "limit", .str "limit", .str "free"]
/-- behind the days: word, value, hours, rank -/
theorem sign_rest {cl : Nat → FM} {n0 n1 : Nat} (h0 : SDraw (cl n0)) (h1 : SPick (cl n1)) {ns xs ds : List Int} {places start stop : Int} (hn : ns.length ≤ 63) (hs : rngB stop 1 places = true ∧ rngB start 0 (stop - 1) = true) (hd : daysOk ds = true) (hx : xs.length ≤ 49000) :
    ∃ (s : Sg) (xs' : List Int), evSs cl (Ss.tl 4 (b__law_sign n0 n1)) [some (SV.bor (ns.map D.int)), some (SV.val (D.ref 0)), some (SV.val (D.int places)), some (SV.val (.int start)), some (SV.val (.int stop)), some (SV.val (.lst (ds.map D.int))), none, none, none, none, none] [.lst (xs.map D.int)] = some (.ret s.d [.lst (xs'.map D.int)]) ∧ sgOk places s = true ∧ s.rank ≤ 2 ∧ xs'.length ≤ xs.length + 20 := by
  obtain ⟨d, x1, hd1, e1, l1⟩ := h1 ns xs wordsL hn (by omega) (by simp [wordsL]) (by simp [wordsL])
  have fin : ∀ (w : Str) (v : Int) (x2 : List Int), wordD (.str w) (.int v) = true → x2.length ≤ xs.length + 8 → ∃ (s : Sg) (xs' : List Int), evSs cl (Ss.tl 7 (b__law_sign n0 n1)) [some (SV.bor (ns.map D.int)), some (SV.val (D.ref 0)), some (SV.val (D.int places)), some (SV.val (.int start)), some (SV.val (.int stop)), some (SV.val (.lst (ds.map D.int))), none, some (SV.val (.str w)), some (SV.val (.int v)), none, none] [.lst (x2.map D.int)] = some (.ret s.d [.lst (xs'.map D.int)]) ∧ sgOk places s = true ∧ s.rank ≤ 2 ∧ xs'.length ≤ xs.length + 20 := by
    intro w v x2 hw hx2
    obtain ⟨a, x3, e3, a1, a2, l3⟩ := h0 ns x2 24 hn (by omega) (by omega)
    obtain ⟨b, x4, e4, b1, b2, l4⟩ := h0 ns x3 25 hn (by omega) (by omega)
    obtain ⟨c, x5, e5, c1, c2, l5⟩ := h0 ns x4 3 hn (by omega) (by omega)
    refine ⟨⟨c, start, stop, ds, a, b, w, v⟩, x5, ?_, ?_, by show c ≤ 2; omega, by omega⟩
    · simp [runF, evSs, evS, ev, evs, evo, evc, evi, mSeq, mSet, mRet, mRetN, mSkip, mDo, mIte, mUnp, mPar, mAug, mApp, mExt, mPut, mOwn, mCell, mFreeze, mFor, mRaise, mTry, findH, bs, endOf, mArgs, mAnds, mOrs, mTAnds, mTOrs, mAnd, mOr, mNot, mTAnd, mTOr, mTNot, mTru, mIsB, mIf, mChain, mUn, mBin, mVar, mC, mCons, mNil, mTup, mLst, mCallB, mCall, mCut, mPart, mNoPart, mIter, mRng1_s, mRng2_s, mEnum, mZip, mComp, mYes, bx, notOwn, wipeO, startE, RV.sv, bd, ret, lift, RV.see, see_int, see_bl, see_str, see_non, see_tup, see_lst, see_ref, D.isi, BOp.g, COp.g, Bi.g, D.cmpI, D.add, D.sub, D.mul, D.fdiv, D.mod, D.neg, D.at_, D.bLen, D.bAbs, D.bTuple, D.bList, D.bInt, allVal, setAll, Tg.set, D.truth, D.isNo, D.notNo, D.nonB, D.toInt, D.cut, D.eqO, D.neO, D.inO, D.ninO, D.dep, D.deps, D.items, D.eq, sz1, sz2, sz3, sz4, sz5, sz6, sz7, sz8, sz9, sz10, sz11, sz12, b__law_sign, Ss.tl, e3, e4, e5, Sg.d]
    · unfold sgOk
      simp only [Bool.and_eq_true]
      refine ⟨⟨⟨⟨⟨⟨?_, hs.1⟩, hs.2⟩, hd⟩, ?_⟩, ?_⟩, hw⟩ <;> (unfold rngB; simp; omega)
  have st : ∀ (w : Str) (v : Int) (x2 : List Int), evSs cl (Ss.tl 4 (b__law_sign n0 n1)) [some (SV.bor (ns.map D.int)), some (SV.val (D.ref 0)), some (SV.val (D.int places)), some (SV.val (.int start)), some (SV.val (.int stop)), some (SV.val (.lst (ds.map D.int))), none, none, none, none, none] [.lst (xs.map D.int)] =
      evSs cl (Ss.tl 7 (b__law_sign n0 n1)) [some (SV.bor (ns.map D.int)), some (SV.val (D.ref 0)), some (SV.val (D.int places)), some (SV.val (.int start)), some (SV.val (.int stop)), some (SV.val (.lst (ds.map D.int))), none, some (SV.val (.str w)), some (SV.val (.int v)), none, none] [.lst (x2.map D.int)] →
      wordD (.str w) (.int v) = true → x2.length ≤ xs.length + 8 → ∃ (s : Sg) (xs' : List Int), evSs cl (Ss.tl 4 (b__law_sign n0 n1)) [some (SV.bor (ns.map D.int)), some (SV.val (D.ref 0)), some (SV.val (D.int places)), some (SV.val (.int start)), some (SV.val (.int stop)), some (SV.val (.lst (ds.map D.int))), none, none, none, none, none] [.lst (xs.map D.int)] = some (.ret s.d [.lst (xs'.map D.int)]) ∧ sgOk places s = true ∧ s.rank ≤ 2 ∧ xs'.length ≤ xs.length + 20 := by
    intro w v x2 e hw hx2
    obtain ⟨s, xs', q⟩ := fin w v x2 hw hx2
    exact ⟨s, xs', by rw [e]; exact q.1, q.2⟩
  unfold wordsL at e1
  have hd2 : d = .str "none" ∨ d = .str "only" ∨ d = .str "limit" ∨ d = .str "free" := by
    simp [wordsL] at hd1
    rcases hd1 with h | h | h | h
    · exact .inl h
    · exact .inr (.inl h)
    · exact .inr (.inr (.inl h))
    · exact .inr (.inr (.inr h))
  rcases hd2 with rfl | rfl | rfl | rfl
  · refine st "none" 0 x1 ?_ (by simp [wordD, f1, f2, isInt]) (by omega)
    unfold b__law_sign
    simp only [Ss.tl]
    rw [seq_next (ρ1 := [some (SV.bor (ns.map D.int)), some (SV.val (D.ref 0)), some (SV.val (D.int places)), some (SV.val (.int start)), some (SV.val (.int stop)), some (SV.val (.lst (ds.map D.int))), none, some (SV.val (.str "none")), some (SV.val (.int 0)), none, none]) (h1 := [.lst (x1.map D.int)]) (by simp [runF, evSs, evS, ev, evs, evo, evc, evi, mSeq, mSet, mRet, mRetN, mSkip, mDo, mIte, mUnp, mPar, mAug, mApp, mExt, mPut, mOwn, mCell, mFreeze, mFor, mRaise, mTry, findH, bs, endOf, mArgs, mAnds, mOrs, mTAnds, mTOrs, mAnd, mOr, mNot, mTAnd, mTOr, mTNot, mTru, mIsB, mIf, mChain, mUn, mBin, mVar, mC, mCons, mNil, mTup, mLst, mCallB, mCall, mCut, mPart, mNoPart, mIter, mRng1_s, mRng2_s, mEnum, mZip, mComp, mYes, bx, notOwn, wipeO, startE, RV.sv, bd, ret, lift, RV.see, see_int, see_bl, see_str, see_non, see_tup, see_lst, see_ref, D.isi, BOp.g, COp.g, Bi.g, D.cmpI, D.add, D.sub, D.mul, D.fdiv, D.mod, D.neg, D.at_, D.bLen, D.bAbs, D.bTuple, D.bList, D.bInt, allVal, setAll, Tg.set, D.truth, D.isNo, D.notNo, D.nonB, D.toInt, D.cut, D.eqO, D.neO, D.inO, D.ninO, D.dep, D.deps, D.items, D.eq, sz1, sz2, sz3, sz4, sz5, sz6, sz7, sz8, sz9, sz10, sz11, sz12, e1]), seq_next (ρ1 := [some (SV.bor (ns.map D.int)), some (SV.val (D.ref 0)), some (SV.val (D.int places)), some (SV.val (.int start)), some (SV.val (.int stop)), some (SV.val (.lst (ds.map D.int))), none, some (SV.val (.str "none")), some (SV.val (.int 0)), none, none]) (h1 := [.lst (x1.map D.int)]) (by simp [runF, evSs, evS, ev, evs, evo, evc, evi, mSeq, mSet, mRet, mRetN, mSkip, mDo, mIte, mUnp, mPar, mAug, mApp, mExt, mPut, mOwn, mCell, mFreeze, mFor, mRaise, mTry, findH, bs, endOf, mArgs, mAnds, mOrs, mTAnds, mTOrs, mAnd, mOr, mNot, mTAnd, mTOr, mTNot, mTru, mIsB, mIf, mChain, mUn, mBin, mVar, mC, mCons, mNil, mTup, mLst, mCallB, mCall, mCut, mPart, mNoPart, mIter, mRng1_s, mRng2_s, mEnum, mZip, mComp, mYes, bx, notOwn, wipeO, startE, RV.sv, bd, ret, lift, RV.see, see_int, see_bl, see_str, see_non, see_tup, see_lst, see_ref, D.isi, BOp.g, COp.g, Bi.g, D.cmpI, D.add, D.sub, D.mul, D.fdiv, D.mod, D.neg, D.at_, D.bLen, D.bAbs, D.bTuple, D.bList, D.bInt, allVal, setAll, Tg.set, D.truth, D.isNo, D.notNo, D.nonB, D.toInt, D.cut, D.eqO, D.neO, D.inO, D.ninO, D.dep, D.deps, D.items, D.eq, sz1, sz2, sz3, sz4, sz5, sz6, sz7, sz8, sz9, sz10, sz11, sz12, f1]), seq_next (ρ1 := [some (SV.bor (ns.map D.int)), some (SV.val (D.ref 0)), some (SV.val (D.int places)), some (SV.val (.int start)), some (SV.val (.int stop)), some (SV.val (.lst (ds.map D.int))), none, some (SV.val (.str "none")), some (SV.val (.int 0)), none, none]) (h1 := [.lst (x1.map D.int)]) (by simp [runF, evSs, evS, ev, evs, evo, evc, evi, mSeq, mSet, mRet, mRetN, mSkip, mDo, mIte, mUnp, mPar, mAug, mApp, mExt, mPut, mOwn, mCell, mFreeze, mFor, mRaise, mTry, findH, bs, endOf, mArgs, mAnds, mOrs, mTAnds, mTOrs, mAnd, mOr, mNot, mTAnd, mTOr, mTNot, mTru, mIsB, mIf, mChain, mUn, mBin, mVar, mC, mCons, mNil, mTup, mLst, mCallB, mCall, mCut, mPart, mNoPart, mIter, mRng1_s, mRng2_s, mEnum, mZip, mComp, mYes, bx, notOwn, wipeO, startE, RV.sv, bd, ret, lift, RV.see, see_int, see_bl, see_str, see_non, see_tup, see_lst, see_ref, D.isi, BOp.g, COp.g, Bi.g, D.cmpI, D.add, D.sub, D.mul, D.fdiv, D.mod, D.neg, D.at_, D.bLen, D.bAbs, D.bTuple, D.bList, D.bInt, allVal, setAll, Tg.set, D.truth, D.isNo, D.notNo, D.nonB, D.toInt, D.cut, D.eqO, D.neO, D.inO, D.ninO, D.dep, D.deps, D.items, D.eq, sz1, sz2, sz3, sz4, sz5, sz6, sz7, sz8, sz9, sz10, sz11, sz12, f2])]
  · obtain ⟨v, x2, e2, v1, v2, l2⟩ := h0 ns x1 3 hn (by omega) (by omega)
    refine st "only" v x2 ?_ (by simp [wordD, isInt]; omega) (by omega)
    unfold b__law_sign
    simp only [Ss.tl]
    rw [seq_next (ρ1 := [some (SV.bor (ns.map D.int)), some (SV.val (D.ref 0)), some (SV.val (D.int places)), some (SV.val (.int start)), some (SV.val (.int stop)), some (SV.val (.lst (ds.map D.int))), none, some (SV.val (.str "only")), some (SV.val (.int 0)), none, none]) (h1 := [.lst (x1.map D.int)]) (by simp [runF, evSs, evS, ev, evs, evo, evc, evi, mSeq, mSet, mRet, mRetN, mSkip, mDo, mIte, mUnp, mPar, mAug, mApp, mExt, mPut, mOwn, mCell, mFreeze, mFor, mRaise, mTry, findH, bs, endOf, mArgs, mAnds, mOrs, mTAnds, mTOrs, mAnd, mOr, mNot, mTAnd, mTOr, mTNot, mTru, mIsB, mIf, mChain, mUn, mBin, mVar, mC, mCons, mNil, mTup, mLst, mCallB, mCall, mCut, mPart, mNoPart, mIter, mRng1_s, mRng2_s, mEnum, mZip, mComp, mYes, bx, notOwn, wipeO, startE, RV.sv, bd, ret, lift, RV.see, see_int, see_bl, see_str, see_non, see_tup, see_lst, see_ref, D.isi, BOp.g, COp.g, Bi.g, D.cmpI, D.add, D.sub, D.mul, D.fdiv, D.mod, D.neg, D.at_, D.bLen, D.bAbs, D.bTuple, D.bList, D.bInt, allVal, setAll, Tg.set, D.truth, D.isNo, D.notNo, D.nonB, D.toInt, D.cut, D.eqO, D.neO, D.inO, D.ninO, D.dep, D.deps, D.items, D.eq, sz1, sz2, sz3, sz4, sz5, sz6, sz7, sz8, sz9, sz10, sz11, sz12, e1]), seq_next (ρ1 := [some (SV.bor (ns.map D.int)), some (SV.val (D.ref 0)), some (SV.val (D.int places)), some (SV.val (.int start)), some (SV.val (.int stop)), some (SV.val (.lst (ds.map D.int))), none, some (SV.val (.str "only")), some (SV.val (.int v)), none, none]) (h1 := [.lst (x2.map D.int)]) (by simp [runF, evSs, evS, ev, evs, evo, evc, evi, mSeq, mSet, mRet, mRetN, mSkip, mDo, mIte, mUnp, mPar, mAug, mApp, mExt, mPut, mOwn, mCell, mFreeze, mFor, mRaise, mTry, findH, bs, endOf, mArgs, mAnds, mOrs, mTAnds, mTOrs, mAnd, mOr, mNot, mTAnd, mTOr, mTNot, mTru, mIsB, mIf, mChain, mUn, mBin, mVar, mC, mCons, mNil, mTup, mLst, mCallB, mCall, mCut, mPart, mNoPart, mIter, mRng1_s, mRng2_s, mEnum, mZip, mComp, mYes, bx, notOwn, wipeO, startE, RV.sv, bd, ret, lift, RV.see, see_int, see_bl, see_str, see_non, see_tup, see_lst, see_ref, D.isi, BOp.g, COp.g, Bi.g, D.cmpI, D.add, D.sub, D.mul, D.fdiv, D.mod, D.neg, D.at_, D.bLen, D.bAbs, D.bTuple, D.bList, D.bInt, allVal, setAll, Tg.set, D.truth, D.isNo, D.notNo, D.nonB, D.toInt, D.cut, D.eqO, D.neO, D.inO, D.ninO, D.dep, D.deps, D.items, D.eq, sz1, sz2, sz3, sz4, sz5, sz6, sz7, sz8, sz9, sz10, sz11, sz12, e2]), seq_next (ρ1 := [some (SV.bor (ns.map D.int)), some (SV.val (D.ref 0)), some (SV.val (D.int places)), some (SV.val (.int start)), some (SV.val (.int stop)), some (SV.val (.lst (ds.map D.int))), none, some (SV.val (.str "only")), some (SV.val (.int v)), none, none]) (h1 := [.lst (x2.map D.int)]) (by simp [runF, evSs, evS, ev, evs, evo, evc, evi, mSeq, mSet, mRet, mRetN, mSkip, mDo, mIte, mUnp, mPar, mAug, mApp, mExt, mPut, mOwn, mCell, mFreeze, mFor, mRaise, mTry, findH, bs, endOf, mArgs, mAnds, mOrs, mTAnds, mTOrs, mAnd, mOr, mNot, mTAnd, mTOr, mTNot, mTru, mIsB, mIf, mChain, mUn, mBin, mVar, mC, mCons, mNil, mTup, mLst, mCallB, mCall, mCut, mPart, mNoPart, mIter, mRng1_s, mRng2_s, mEnum, mZip, mComp, mYes, bx, notOwn, wipeO, startE, RV.sv, bd, ret, lift, RV.see, see_int, see_bl, see_str, see_non, see_tup, see_lst, see_ref, D.isi, BOp.g, COp.g, Bi.g, D.cmpI, D.add, D.sub, D.mul, D.fdiv, D.mod, D.neg, D.at_, D.bLen, D.bAbs, D.bTuple, D.bList, D.bInt, allVal, setAll, Tg.set, D.truth, D.isNo, D.notNo, D.nonB, D.toInt, D.cut, D.eqO, D.neO, D.inO, D.ninO, D.dep, D.deps, D.items, D.eq, sz1, sz2, sz3, sz4, sz5, sz6, sz7, sz8, sz9, sz10, sz11, sz12, f3])]
  · obtain ⟨v, x2, e2, v1, v2, l2⟩ := h0 ns x1 5 hn (by omega) (by omega)
    refine st "limit" (1 + v) x2 ?_ (by simp [wordD, isInt, f4]; omega) (by omega)
    unfold b__law_sign
    simp only [Ss.tl]
    rw [seq_next (ρ1 := [some (SV.bor (ns.map D.int)), some (SV.val (D.ref 0)), some (SV.val (D.int places)), some (SV.val (.int start)), some (SV.val (.int stop)), some (SV.val (.lst (ds.map D.int))), none, some (SV.val (.str "limit")), some (SV.val (.int 0)), none, none]) (h1 := [.lst (x1.map D.int)]) (by simp [runF, evSs, evS, ev, evs, evo, evc, evi, mSeq, mSet, mRet, mRetN, mSkip, mDo, mIte, mUnp, mPar, mAug, mApp, mExt, mPut, mOwn, mCell, mFreeze, mFor, mRaise, mTry, findH, bs, endOf, mArgs, mAnds, mOrs, mTAnds, mTOrs, mAnd, mOr, mNot, mTAnd, mTOr, mTNot, mTru, mIsB, mIf, mChain, mUn, mBin, mVar, mC, mCons, mNil, mTup, mLst, mCallB, mCall, mCut, mPart, mNoPart, mIter, mRng1_s, mRng2_s, mEnum, mZip, mComp, mYes, bx, notOwn, wipeO, startE, RV.sv, bd, ret, lift, RV.see, see_int, see_bl, see_str, see_non, see_tup, see_lst, see_ref, D.isi, BOp.g, COp.g, Bi.g, D.cmpI, D.add, D.sub, D.mul, D.fdiv, D.mod, D.neg, D.at_, D.bLen, D.bAbs, D.bTuple, D.bList, D.bInt, allVal, setAll, Tg.set, D.truth, D.isNo, D.notNo, D.nonB, D.toInt, D.cut, D.eqO, D.neO, D.inO, D.ninO, D.dep, D.deps, D.items, D.eq, sz1, sz2, sz3, sz4, sz5, sz6, sz7, sz8, sz9, sz10, sz11, sz12, e1]), seq_next (ρ1 := [some (SV.bor (ns.map D.int)), some (SV.val (D.ref 0)), some (SV.val (D.int places)), some (SV.val (.int start)), some (SV.val (.int stop)), some (SV.val (.lst (ds.map D.int))), none, some (SV.val (.str "limit")), some (SV.val (.int 0)), none, none]) (h1 := [.lst (x1.map D.int)]) (by simp [runF, evSs, evS, ev, evs, evo, evc, evi, mSeq, mSet, mRet, mRetN, mSkip, mDo, mIte, mUnp, mPar, mAug, mApp, mExt, mPut, mOwn, mCell, mFreeze, mFor, mRaise, mTry, findH, bs, endOf, mArgs, mAnds, mOrs, mTAnds, mTOrs, mAnd, mOr, mNot, mTAnd, mTOr, mTNot, mTru, mIsB, mIf, mChain, mUn, mBin, mVar, mC, mCons, mNil, mTup, mLst, mCallB, mCall, mCut, mPart, mNoPart, mIter, mRng1_s, mRng2_s, mEnum, mZip, mComp, mYes, bx, notOwn, wipeO, startE, RV.sv, bd, ret, lift, RV.see, see_int, see_bl, see_str, see_non, see_tup, see_lst, see_ref, D.isi, BOp.g, COp.g, Bi.g, D.cmpI, D.add, D.sub, D.mul, D.fdiv, D.mod, D.neg, D.at_, D.bLen, D.bAbs, D.bTuple, D.bList, D.bInt, allVal, setAll, Tg.set, D.truth, D.isNo, D.notNo, D.nonB, D.toInt, D.cut, D.eqO, D.neO, D.inO, D.ninO, D.dep, D.deps, D.items, D.eq, sz1, sz2, sz3, sz4, sz5, sz6, sz7, sz8, sz9, sz10, sz11, sz12, f4]), seq_next (ρ1 := [some (SV.bor (ns.map D.int)), some (SV.val (D.ref 0)), some (SV.val (D.int places)), some (SV.val (.int start)), some (SV.val (.int stop)), some (SV.val (.lst (ds.map D.int))), none, some (SV.val (.str "limit")), some (SV.val (.int (1 + v))), none, none]) (h1 := [.lst (x2.map D.int)]) (by simp [runF, evSs, evS, ev, evs, evo, evc, evi, mSeq, mSet, mRet, mRetN, mSkip, mDo, mIte, mUnp, mPar, mAug, mApp, mExt, mPut, mOwn, mCell, mFreeze, mFor, mRaise, mTry, findH, bs, endOf, mArgs, mAnds, mOrs, mTAnds, mTOrs, mAnd, mOr, mNot, mTAnd, mTOr, mTNot, mTru, mIsB, mIf, mChain, mUn, mBin, mVar, mC, mCons, mNil, mTup, mLst, mCallB, mCall, mCut, mPart, mNoPart, mIter, mRng1_s, mRng2_s, mEnum, mZip, mComp, mYes, bx, notOwn, wipeO, startE, RV.sv, bd, ret, lift, RV.see, see_int, see_bl, see_str, see_non, see_tup, see_lst, see_ref, D.isi, BOp.g, COp.g, Bi.g, D.cmpI, D.add, D.sub, D.mul, D.fdiv, D.mod, D.neg, D.at_, D.bLen, D.bAbs, D.bTuple, D.bList, D.bInt, allVal, setAll, Tg.set, D.truth, D.isNo, D.notNo, D.nonB, D.toInt, D.cut, D.eqO, D.neO, D.inO, D.ninO, D.dep, D.deps, D.items, D.eq, sz1, sz2, sz3, sz4, sz5, sz6, sz7, sz8, sz9, sz10, sz11, sz12, e2])]
  · refine st "free" 0 x1 ?_ (by simp [wordD, f5, f6, isInt]) (by omega)
    unfold b__law_sign
    simp only [Ss.tl]
    rw [seq_next (ρ1 := [some (SV.bor (ns.map D.int)), some (SV.val (D.ref 0)), some (SV.val (D.int places)), some (SV.val (.int start)), some (SV.val (.int stop)), some (SV.val (.lst (ds.map D.int))), none, some (SV.val (.str "free")), some (SV.val (.int 0)), none, none]) (h1 := [.lst (x1.map D.int)]) (by simp [runF, evSs, evS, ev, evs, evo, evc, evi, mSeq, mSet, mRet, mRetN, mSkip, mDo, mIte, mUnp, mPar, mAug, mApp, mExt, mPut, mOwn, mCell, mFreeze, mFor, mRaise, mTry, findH, bs, endOf, mArgs, mAnds, mOrs, mTAnds, mTOrs, mAnd, mOr, mNot, mTAnd, mTOr, mTNot, mTru, mIsB, mIf, mChain, mUn, mBin, mVar, mC, mCons, mNil, mTup, mLst, mCallB, mCall, mCut, mPart, mNoPart, mIter, mRng1_s, mRng2_s, mEnum, mZip, mComp, mYes, bx, notOwn, wipeO, startE, RV.sv, bd, ret, lift, RV.see, see_int, see_bl, see_str, see_non, see_tup, see_lst, see_ref, D.isi, BOp.g, COp.g, Bi.g, D.cmpI, D.add, D.sub, D.mul, D.fdiv, D.mod, D.neg, D.at_, D.bLen, D.bAbs, D.bTuple, D.bList, D.bInt, allVal, setAll, Tg.set, D.truth, D.isNo, D.notNo, D.nonB, D.toInt, D.cut, D.eqO, D.neO, D.inO, D.ninO, D.dep, D.deps, D.items, D.eq, sz1, sz2, sz3, sz4, sz5, sz6, sz7, sz8, sz9, sz10, sz11, sz12, e1]), seq_next (ρ1 := [some (SV.bor (ns.map D.int)), some (SV.val (D.ref 0)), some (SV.val (D.int places)), some (SV.val (.int start)), some (SV.val (.int stop)), some (SV.val (.lst (ds.map D.int))), none, some (SV.val (.str "free")), some (SV.val (.int 0)), none, none]) (h1 := [.lst (x1.map D.int)]) (by simp [runF, evSs, evS, ev, evs, evo, evc, evi, mSeq, mSet, mRet, mRetN, mSkip, mDo, mIte, mUnp, mPar, mAug, mApp, mExt, mPut, mOwn, mCell, mFreeze, mFor, mRaise, mTry, findH, bs, endOf, mArgs, mAnds, mOrs, mTAnds, mTOrs, mAnd, mOr, mNot, mTAnd, mTOr, mTNot, mTru, mIsB, mIf, mChain, mUn, mBin, mVar, mC, mCons, mNil, mTup, mLst, mCallB, mCall, mCut, mPart, mNoPart, mIter, mRng1_s, mRng2_s, mEnum, mZip, mComp, mYes, bx, notOwn, wipeO, startE, RV.sv, bd, ret, lift, RV.see, see_int, see_bl, see_str, see_non, see_tup, see_lst, see_ref, D.isi, BOp.g, COp.g, Bi.g, D.cmpI, D.add, D.sub, D.mul, D.fdiv, D.mod, D.neg, D.at_, D.bLen, D.bAbs, D.bTuple, D.bList, D.bInt, allVal, setAll, Tg.set, D.truth, D.isNo, D.notNo, D.nonB, D.toInt, D.cut, D.eqO, D.neO, D.inO, D.ninO, D.dep, D.deps, D.items, D.eq, sz1, sz2, sz3, sz4, sz5, sz6, sz7, sz8, sz9, sz10, sz11, sz12, f5]), seq_next (ρ1 := [some (SV.bor (ns.map D.int)), some (SV.val (D.ref 0)), some (SV.val (D.int places)), some (SV.val (.int start)), some (SV.val (.int stop)), some (SV.val (.lst (ds.map D.int))), none, some (SV.val (.str "free")), some (SV.val (.int 0)), none, none]) (h1 := [.lst (x1.map D.int)]) (by simp [runF, evSs, evS, ev, evs, evo, evc, evi, mSeq, mSet, mRet, mRetN, mSkip, mDo, mIte, mUnp, mPar, mAug, mApp, mExt, mPut, mOwn, mCell, mFreeze, mFor, mRaise, mTry, findH, bs, endOf, mArgs, mAnds, mOrs, mTAnds, mTOrs, mAnd, mOr, mNot, mTAnd, mTOr, mTNot, mTru, mIsB, mIf, mChain, mUn, mBin, mVar, mC, mCons, mNil, mTup, mLst, mCallB, mCall, mCut, mPart, mNoPart, mIter, mRng1_s, mRng2_s, mEnum, mZip, mComp, mYes, bx, notOwn, wipeO, startE, RV.sv, bd, ret, lift, RV.see, see_int, see_bl, see_str, see_non, see_tup, see_lst, see_ref, D.isi, BOp.g, COp.g, Bi.g, D.cmpI, D.add, D.sub, D.mul, D.fdiv, D.mod, D.neg, D.at_, D.bLen, D.bAbs, D.bTuple, D.bList, D.bInt, allVal, setAll, Tg.set, D.truth, D.isNo, D.notNo, D.nonB, D.toInt, D.cut, D.eqO, D.neO, D.inO, D.ninO, D.dep, D.deps, D.items, D.eq, sz1, sz2, sz3, sz4, sz5, sz6, sz7, sz8, sz9, sz10, sz11, sz12, f6])]
end Kb
namespace Kb
open PySem L2
theorem sign_ok {cl : Nat → FM} {n0 n1 : Nat} (h0 : SDraw (cl n0)) (h1 : SPick (cl n1)) : SSign (runF cl 11 (b__law_sign n0 n1)) := by
  intro ns xs places hn hp1 hp4 hx
  obtain ⟨a, x1, e1, a1, a2, l1⟩ := h0 ns xs places hn (by omega) (by omega)
  obtain ⟨b, x2, e2, b1, b2, l2⟩ := h0 ns x1 (places - a) hn (by omega) (by omega)
  obtain ⟨ds, x3, e3, J, l3⟩ := sign_days h0 hn (ρ := [some (SV.bor (ns.map D.int)), some (SV.val (D.ref 0)), some (SV.val (D.int places)), some (SV.val (.int a)), some (SV.val (.int (a + 1 + b))), none, none, none, none, none, none]) (fun d => ⟨_, rfl, rfl, rfl, rfl⟩) (xs := x2) (by omega)
  have hs : rngB (a + 1 + b) 1 places = true ∧ rngB a 0 ((a + 1 + b) - 1) = true := by
    unfold rngB
    simp
    omega
  have es : startE 11 [.bor (ns.map D.int), .val (.ref 0), .val (.int places)] = [some (SV.bor (ns.map D.int)), some (SV.val (D.ref 0)), some (SV.val (D.int places)), none, none, none, none, none, none, none, none] := rfl
  have sl : (rngD 0 7).length ≤ sizeLine := by simp [rngD, sz7]
  have k7 : okR 7 = true := okR_of (by omega) (by omega)
  have go : ∀ (dd x4 : List Int), daysOk dd = true → x4.length ≤ xs.length + 22 → evSs cl (b__law_sign n0 n1) [some (SV.bor (ns.map D.int)), some (SV.val (D.ref 0)), some (SV.val (D.int places)), none, none, none, none, none, none, none, none] [.lst (xs.map D.int)] =
      evSs cl (Ss.tl 4 (b__law_sign n0 n1)) [some (SV.bor (ns.map D.int)), some (SV.val (D.ref 0)), some (SV.val (D.int places)), some (SV.val (.int a)), some (SV.val (.int (a + 1 + b))), some (SV.val (.lst (dd.map D.int))), none, none, none, none, none] [.lst (x4.map D.int)] →
      ∃ (s : Sg) (xs' : List Int), runF cl 11 (b__law_sign n0 n1) [.bor (ns.map D.int), .val (.ref 0), .val (.int places)] [.lst (xs.map D.int)] = some (.ok s.d [.lst (xs'.map D.int)]) ∧ sgOk places s = true ∧ s.rank ≤ 2 ∧ xs'.length ≤ xs.length + 60 := by
    intro dd x4 hd hl e
    obtain ⟨s, xs', q1, q2, q3, q4⟩ := sign_rest h0 h1 hn hs hd (xs := x4) (by omega)
    refine ⟨s, xs', ?_, q2, q3, by omega⟩
    unfold runF
    rw [es, e, q1]
    rfl
  have t1 : evSs cl (b__law_sign n0 n1) [some (SV.bor (ns.map D.int)), some (SV.val (D.ref 0)), some (SV.val (D.int places)), none, none, none, none, none, none, none, none] [.lst (xs.map D.int)] =
      evSs cl (Ss.tl 3 (b__law_sign n0 n1)) [some (SV.bor (ns.map D.int)), some (SV.val (D.ref 0)), some (SV.val (D.int places)), some (SV.val (.int a)), some (SV.val (.int (a + 1 + b))), some (SV.val (.lst (ds.map D.int))), none, none, none, none, none] [.lst (x3.map D.int)] := by
    unfold b__law_sign
    simp only [Ss.tl]
    rw [seq_next (ρ1 := [some (SV.bor (ns.map D.int)), some (SV.val (D.ref 0)), some (SV.val (D.int places)), some (SV.val (.int a)), none, none, none, none, none, none, none]) (h1 := [.lst (x1.map D.int)]) (by simp [runF, evSs, evS, ev, evs, evo, evc, evi, mSeq, mSet, mRet, mRetN, mSkip, mDo, mIte, mUnp, mPar, mAug, mApp, mExt, mPut, mOwn, mCell, mFreeze, mFor, mRaise, mTry, findH, bs, endOf, mArgs, mAnds, mOrs, mTAnds, mTOrs, mAnd, mOr, mNot, mTAnd, mTOr, mTNot, mTru, mIsB, mIf, mChain, mUn, mBin, mVar, mC, mCons, mNil, mTup, mLst, mCallB, mCall, mCut, mPart, mNoPart, mIter, mRng1_s, mRng2_s, mEnum, mZip, mComp, mYes, bx, notOwn, wipeO, startE, RV.sv, bd, ret, lift, RV.see, see_int, see_bl, see_str, see_non, see_tup, see_lst, see_ref, D.isi, BOp.g, COp.g, Bi.g, D.cmpI, D.add, D.sub, D.mul, D.fdiv, D.mod, D.neg, D.at_, D.bLen, D.bAbs, D.bTuple, D.bList, D.bInt, allVal, setAll, Tg.set, D.truth, D.isNo, D.notNo, D.nonB, D.toInt, D.cut, D.eqO, D.neO, D.inO, D.ninO, D.dep, D.deps, D.items, D.eq, sz1, sz2, sz3, sz4, sz5, sz6, sz7, sz8, sz9, sz10, sz11, sz12, e1]),
      seq_next (ρ1 := [some (SV.bor (ns.map D.int)), some (SV.val (D.ref 0)), some (SV.val (D.int places)), some (SV.val (.int a)), some (SV.val (.int (a + 1 + b))), none, none, none, none, none, none]) (h1 := [.lst (x2.map D.int)]) (by simp [runF, evSs, evS, ev, evs, evo, evc, evi, mSeq, mSet, mRet, mRetN, mSkip, mDo, mIte, mUnp, mPar, mAug, mApp, mExt, mPut, mOwn, mCell, mFreeze, mFor, mRaise, mTry, findH, bs, endOf, mArgs, mAnds, mOrs, mTAnds, mTOrs, mAnd, mOr, mNot, mTAnd, mTOr, mTNot, mTru, mIsB, mIf, mChain, mUn, mBin, mVar, mC, mCons, mNil, mTup, mLst, mCallB, mCall, mCut, mPart, mNoPart, mIter, mRng1_s, mRng2_s, mEnum, mZip, mComp, mYes, bx, notOwn, wipeO, startE, RV.sv, bd, ret, lift, RV.see, see_int, see_bl, see_str, see_non, see_tup, see_lst, see_ref, D.isi, BOp.g, COp.g, Bi.g, D.cmpI, D.add, D.sub, D.mul, D.fdiv, D.mod, D.neg, D.at_, D.bLen, D.bAbs, D.bTuple, D.bList, D.bInt, allVal, setAll, Tg.set, D.truth, D.isNo, D.notNo, D.nonB, D.toInt, D.cut, D.eqO, D.neO, D.inO, D.ninO, D.dep, D.deps, D.items, D.eq, sz1, sz2, sz3, sz4, sz5, sz6, sz7, sz8, sz9, sz10, sz11, sz12, e2]),
      seq_next (ρ1 := [some (SV.bor (ns.map D.int)), some (SV.val (D.ref 0)), some (SV.val (D.int places)), some (SV.val (.int a)), some (SV.val (.int (a + 1 + b))), some (SV.val (.lst (ds.map D.int))), none, none, none, none, none]) (h1 := [.lst (x3.map D.int)]) (by simp [runF, evSs, evS, ev, evs, evo, evc, evi, mSeq, mSet, mRet, mRetN, mSkip, mDo, mIte, mUnp, mPar, mAug, mApp, mExt, mPut, mOwn, mCell, mFreeze, mFor, mRaise, mTry, findH, bs, endOf, mArgs, mAnds, mOrs, mTAnds, mTOrs, mAnd, mOr, mNot, mTAnd, mTOr, mTNot, mTru, mIsB, mIf, mChain, mUn, mBin, mVar, mC, mCons, mNil, mTup, mLst, mCallB, mCall, mCut, mPart, mNoPart, mIter, mRng1_s, mRng2_s, mEnum, mZip, mComp, mYes, bx, notOwn, wipeO, startE, RV.sv, bd, ret, lift, RV.see, see_int, see_bl, see_str, see_non, see_tup, see_lst, see_ref, D.isi, BOp.g, COp.g, Bi.g, D.cmpI, D.add, D.sub, D.mul, D.fdiv, D.mod, D.neg, D.at_, D.bLen, D.bAbs, D.bTuple, D.bList, D.bInt, allVal, setAll, Tg.set, D.truth, D.isNo, D.notNo, D.nonB, D.toInt, D.cut, D.eqO, D.neO, D.inO, D.ninO, D.dep, D.deps, D.items, D.eq, sz1, sz2, sz3, sz4, sz5, sz6, sz7, sz8, sz9, sz10, sz11, sz12, k7, sl, e3])]
  by_cases hd : ds = []
  · obtain ⟨c, x4, e4, c1, c2, l4⟩ := h0 ns x3 7 hn (by omega) (by omega)
    refine go [c] x4 (days_one c1 c2) (by omega) (t1.trans ?_)
    subst hd
    unfold b__law_sign
    simp only [Ss.tl]
    rw [seq_next (ρ1 := [some (SV.bor (ns.map D.int)), some (SV.val (D.ref 0)), some (SV.val (D.int places)), some (SV.val (.int a)), some (SV.val (.int (a + 1 + b))), some (SV.val (.lst ([c].map D.int))), none, none, none, none, none]) (h1 := [.lst (x4.map D.int)]) (by simp [runF, evSs, evS, ev, evs, evo, evc, evi, mSeq, mSet, mRet, mRetN, mSkip, mDo, mIte, mUnp, mPar, mAug, mApp, mExt, mPut, mOwn, mCell, mFreeze, mFor, mRaise, mTry, findH, bs, endOf, mArgs, mAnds, mOrs, mTAnds, mTOrs, mAnd, mOr, mNot, mTAnd, mTOr, mTNot, mTru, mIsB, mIf, mChain, mUn, mBin, mVar, mC, mCons, mNil, mTup, mLst, mCallB, mCall, mCut, mPart, mNoPart, mIter, mRng1_s, mRng2_s, mEnum, mZip, mComp, mYes, bx, notOwn, wipeO, startE, RV.sv, bd, ret, lift, RV.see, see_int, see_bl, see_str, see_non, see_tup, see_lst, see_ref, D.isi, BOp.g, COp.g, Bi.g, D.cmpI, D.add, D.sub, D.mul, D.fdiv, D.mod, D.neg, D.at_, D.bLen, D.bAbs, D.bTuple, D.bList, D.bInt, allVal, setAll, Tg.set, D.truth, D.isNo, D.notNo, D.nonB, D.toInt, D.cut, D.eqO, D.neO, D.inO, D.ninO, D.dep, D.deps, D.items, D.eq, sz1, sz2, sz3, sz4, sz5, sz6, sz7, sz8, sz9, sz10, sz11, sz12, e4])]
  · refine go ds x3 (days_fin J hd) (by omega) (t1.trans ?_)
    unfold b__law_sign
    simp only [Ss.tl]
    rw [seq_next (ρ1 := [some (SV.bor (ns.map D.int)), some (SV.val (D.ref 0)), some (SV.val (D.int places)), some (SV.val (.int a)), some (SV.val (.int (a + 1 + b))), some (SV.val (.lst (ds.map D.int))), none, none, none, none, none]) (h1 := [.lst (x3.map D.int)]) (by simp [runF, evSs, evS, ev, evs, evo, evc, evi, mSeq, mSet, mRet, mRetN, mSkip, mDo, mIte, mUnp, mPar, mAug, mApp, mExt, mPut, mOwn, mCell, mFreeze, mFor, mRaise, mTry, findH, bs, endOf, mArgs, mAnds, mOrs, mTAnds, mTOrs, mAnd, mOr, mNot, mTAnd, mTOr, mTNot, mTru, mIsB, mIf, mChain, mUn, mBin, mVar, mC, mCons, mNil, mTup, mLst, mCallB, mCall, mCut, mPart, mNoPart, mIter, mRng1_s, mRng2_s, mEnum, mZip, mComp, mYes, bx, notOwn, wipeO, startE, RV.sv, bd, ret, lift, RV.see, see_int, see_bl, see_str, see_non, see_tup, see_lst, see_ref, D.isi, BOp.g, COp.g, Bi.g, D.cmpI, D.add, D.sub, D.mul, D.fdiv, D.mod, D.neg, D.at_, D.bLen, D.bAbs, D.bTuple, D.bList, D.bInt, allVal, setAll, Tg.set, D.truth, D.isNo, D.notNo, D.nonB, D.toInt, D.cut, D.eqO, D.neO, D.inO, D.ninO, D.dep, D.deps, D.items, D.eq, sz1, sz2, sz3, sz4, sz5, sz6, sz7, sz8, sz9, sz10, sz11, sz12, hd])]
abbrev SStreet (F : FM) : Prop := ∀ (ns xs : List Int) (places : Int) (most : Nat), ns.length ≤ 63 → 1 ≤ places → places ≤ 4 → most ≤ 6 → xs.length ≤ 39000 → ∃ (l : List Sg) (xs' : List Int), F [.bor (ns.map D.int), .val (.ref 0), .val (.int places), .val (.int most)] [.lst (xs.map D.int)] = some (.ok (stD places l) [.lst (xs'.map D.int)]) ∧ Str8 places l ∧ l.length ≤ most ∧ (∀ s ∈ l, s.rank ≤ 2) ∧ xs'.length ≤ xs.length + 2 + 60 * most
theorem see_sg (h : List Cell) (s : Sg) : D.see h s.d = s.d := rfl
theorem any_sg (l : List Sg) (s : Sg) : (l.any ((fun z => D.eq z s.d) ∘ Sg.d)) = decide (s ∈ l) := by
  rw [Bool.eq_iff_iff]
  simp only [List.any_eq_true, Function.comp, sg_eq, decide_eq_true_eq]
  constructor
  · rintro ⟨t, h, rfl⟩; exact h
  · intro h; exact ⟨s, h, rfl⟩
theorem dep_sg (s : Sg) : D.dep s.d = 2 := by simp [Sg.d, D.dep, D.deps, deps_ints]
theorem street_ok {cl : Nat → FM} {n0 n1 : Nat} (h0 : SDraw (cl n0)) (h1 : SSign (cl n1)) : SStreet (runF cl 7 (b__law_street n0 n1)) := by
  intro ns xs places most hn hp1 hp4 hm hx
  obtain ⟨a, x1, e1, a1, a2, l1⟩ := h0 ns xs (most + 1) hn (by omega) (by omega)
  obtain ⟨m, rfl⟩ : ∃ m : Nat, a = m := ⟨a.toNat, by omega⟩
  obtain ⟨ρ', h', e, l, xs', c, d, q1, q2, q3, q4, q5, q6, q7⟩ := forD_st (t := .name 5) (b := evSs cl (b__law_street_L1 n1))
    (fun rest ρ h => ∃ (l : List Sg) (xs' : List Int) (c d : Option SV), ρ = [some (SV.bor (ns.map D.int)), some (SV.val (D.ref 0)), some (SV.val (D.int places)), some (SV.val (.int most)), some (SV.val (.lst (l.map Sg.d))), c, d] ∧ h = [.lst (xs'.map D.int)] ∧ l.Nodup ∧ (∀ s ∈ l, sgOk places s = true) ∧ (∀ s ∈ l, s.rank ≤ 2) ∧ l.length + rest.length ≤ most ∧ xs'.length + 60 * rest.length ≤ xs.length + 2 + 60 * most)
    (fun d rest ρ h ⟨l, xs', c, dd, q1, q2, q3, q4, q5, q6, q7⟩ => by
      simp only [List.length_cons] at q6 q7
      obtain ⟨s, x2, e2, k1, k2, l2⟩ := h1 ns xs' places hn hp1 hp4 (by omega)
      have s1 : l.length ≤ sizeLine := size_le (by omega)
      have s2 : l.length + 1 ≤ sizeLine := size_le (by omega)
      have dp : D.deps (l.map Sg.d) + 1 ≤ 64 := by have := deps_sgs l; omega
      subst q1 q2
      by_cases hs : s ∈ l
      · refine ⟨_, [some (SV.bor (ns.map D.int)), some (SV.val (D.ref 0)), some (SV.val (D.int places)), some (SV.val (.int most)), some (SV.val (.lst (l.map Sg.d))), some (.val d), some (.val s.d)], [.lst (x2.map D.int)], rfl, ?_, l, x2, _, _, rfl, rfl, q3, q4, q5, by omega, by omega⟩
        simp [runF, evSs, evS, ev, evs, evo, evc, evi, mSeq, mSet, mRet, mRetN, mSkip, mDo, mIte, mUnp, mPar, mAug, mApp, mExt, mPut, mOwn, mCell, mFreeze, mFor, mRaise, mTry, findH, bs, endOf, mArgs, mAnds, mOrs, mTAnds, mTOrs, mAnd, mOr, mNot, mTAnd, mTOr, mTNot, mTru, mIsB, mIf, mChain, mUn, mBin, mVar, mC, mCons, mNil, mTup, mLst, mCallB, mCall, mCut, mPart, mNoPart, mIter, mRng1_s, mRng2_s, mEnum, mZip, mComp, mYes, bx, notOwn, wipeO, startE, RV.sv, bd, ret, lift, RV.see, see_int, see_bl, see_str, see_non, see_tup, see_lst, see_ref, D.isi, BOp.g, COp.g, Bi.g, D.cmpI, D.add, D.sub, D.mul, D.fdiv, D.mod, D.neg, D.at_, D.bLen, D.bAbs, D.bTuple, D.bList, D.bInt, allVal, setAll, Tg.set, D.truth, D.isNo, D.notNo, D.nonB, D.toInt, D.cut, D.eqO, D.neO, D.inO, D.ninO, D.dep, D.deps, D.items, D.eq, sz1, sz2, sz3, sz4, sz5, sz6, sz7, sz8, sz9, sz10, sz11, sz12, b__law_street_L1, e2, dep_sg, dp, any_sg, hs, s1, see_sg]
      · refine ⟨_, [some (SV.bor (ns.map D.int)), some (SV.val (D.ref 0)), some (SV.val (D.int places)), some (SV.val (.int most)), some (SV.val (.lst ((l ++ [s]).map Sg.d))), some (.val d), some (.val s.d)], [.lst (x2.map D.int)], rfl, ?_, l ++ [s], x2, _, _, rfl, rfl, ?_, ?_, ?_, by simp; omega, by omega⟩
        · simp [runF, evSs, evS, ev, evs, evo, evc, evi, mSeq, mSet, mRet, mRetN, mSkip, mDo, mIte, mUnp, mPar, mAug, mApp, mExt, mPut, mOwn, mCell, mFreeze, mFor, mRaise, mTry, findH, bs, endOf, mArgs, mAnds, mOrs, mTAnds, mTOrs, mAnd, mOr, mNot, mTAnd, mTOr, mTNot, mTru, mIsB, mIf, mChain, mUn, mBin, mVar, mC, mCons, mNil, mTup, mLst, mCallB, mCall, mCut, mPart, mNoPart, mIter, mRng1_s, mRng2_s, mEnum, mZip, mComp, mYes, bx, notOwn, wipeO, startE, RV.sv, bd, ret, lift, RV.see, see_int, see_bl, see_str, see_non, see_tup, see_lst, see_ref, D.isi, BOp.g, COp.g, Bi.g, D.cmpI, D.add, D.sub, D.mul, D.fdiv, D.mod, D.neg, D.at_, D.bLen, D.bAbs, D.bTuple, D.bList, D.bInt, allVal, setAll, Tg.set, D.truth, D.isNo, D.notNo, D.nonB, D.toInt, D.cut, D.eqO, D.neO, D.inO, D.ninO, D.dep, D.deps, D.items, D.eq, sz1, sz2, sz3, sz4, sz5, sz6, sz7, sz8, sz9, sz10, sz11, sz12, b__law_street_L1, e2, dep_sg, dp, any_sg, hs, s2, see_sg]
        · rw [List.nodup_append]
          exact ⟨q3, by simp, fun a ha b hb e => by simp at hb; subst hb; subst e; exact hs ha⟩
        · intro t ht
          rcases List.mem_append.mp ht with ht | ht
          · exact q4 t ht
          · simp at ht; subst ht; exact k1
        · intro t ht
          rcases List.mem_append.mp ht with ht | ht
          · exact q5 t ht
          · simp at ht; subst ht; exact k2)
    (rngD 0 m) [some (SV.bor (ns.map D.int)), some (SV.val (D.ref 0)), some (SV.val (D.int places)), some (SV.val (.int most)), some (SV.val (.lst [])), none, none] [.lst (x1.map D.int)] ⟨[], x1, none, none, rfl, rfl, List.nodup_nil, by simp, by simp, by simp [rngD]; omega, by simp [rngD]; omega⟩
  subst q1 q2
  simp only [List.length_nil, Nat.add_zero, Nat.mul_zero] at q6 q7
  refine ⟨l, xs', ?_, ⟨hp1, hp4, by omega, q4, q3⟩, q6, q5, q7⟩
  have km : okR (m : Int) = true := okR_nat (by omega)
  have es : startE 7 [.bor (ns.map D.int), .val (.ref 0), .val (.int places), .val (.int most)] = [some (SV.bor (ns.map D.int)), some (SV.val (D.ref 0)), some (SV.val (D.int places)), some (SV.val (.int most)), none, none, none] := rfl
  unfold runF b__law_street
  rw [es, seq_next (ρ1 := [some (SV.bor (ns.map D.int)), some (SV.val (D.ref 0)), some (SV.val (D.int places)), some (SV.val (.int most)), some (SV.val (.lst [])), none, none]) (h1 := [.lst (xs.map D.int)]) (by simp [runF, evSs, evS, ev, evs, evo, evc, evi, mSeq, mSet, mRet, mRetN, mSkip, mDo, mIte, mUnp, mPar, mAug, mApp, mExt, mPut, mOwn, mCell, mFreeze, mFor, mRaise, mTry, findH, bs, endOf, mArgs, mAnds, mOrs, mTAnds, mTOrs, mAnd, mOr, mNot, mTAnd, mTOr, mTNot, mTru, mIsB, mIf, mChain, mUn, mBin, mVar, mC, mCons, mNil, mTup, mLst, mCallB, mCall, mCut, mPart, mNoPart, mIter, mRng1_s, mRng2_s, mEnum, mZip, mComp, mYes, bx, notOwn, wipeO, startE, RV.sv, bd, ret, lift, RV.see, see_int, see_bl, see_str, see_non, see_tup, see_lst, see_ref, D.isi, BOp.g, COp.g, Bi.g, D.cmpI, D.add, D.sub, D.mul, D.fdiv, D.mod, D.neg, D.at_, D.bLen, D.bAbs, D.bTuple, D.bList, D.bInt, allVal, setAll, Tg.set, D.truth, D.isNo, D.notNo, D.nonB, D.toInt, D.cut, D.eqO, D.neO, D.inO, D.ninO, D.dep, D.deps, D.items, D.eq, sz1, sz2, sz3, sz4, sz5, sz6, sz7, sz8, sz9, sz10, sz11, sz12]),
    seq_next (for_go (ds := rngD 0 m) (h1 := [.lst (x1.map D.int)]) (by simp [runF, evSs, evS, ev, evs, evo, evc, evi, mSeq, mSet, mRet, mRetN, mSkip, mDo, mIte, mUnp, mPar, mAug, mApp, mExt, mPut, mOwn, mCell, mFreeze, mFor, mRaise, mTry, findH, bs, endOf, mArgs, mAnds, mOrs, mTAnds, mTOrs, mAnd, mOr, mNot, mTAnd, mTOr, mTNot, mTru, mIsB, mIf, mChain, mUn, mBin, mVar, mC, mCons, mNil, mTup, mLst, mCallB, mCall, mCut, mPart, mNoPart, mIter, mRng1_s, mRng2_s, mEnum, mZip, mComp, mYes, bx, notOwn, wipeO, startE, RV.sv, bd, ret, lift, RV.see, see_int, see_bl, see_str, see_non, see_tup, see_lst, see_ref, D.isi, BOp.g, COp.g, Bi.g, D.cmpI, D.add, D.sub, D.mul, D.fdiv, D.mod, D.neg, D.at_, D.bLen, D.bAbs, D.bTuple, D.bList, D.bInt, allVal, setAll, Tg.set, D.truth, D.isNo, D.notNo, D.nonB, D.toInt, D.cut, D.eqO, D.neO, D.inO, D.ninO, D.dep, D.deps, D.items, D.eq, sz1, sz2, sz3, sz4, sz5, sz6, sz7, sz8, sz9, sz10, sz11, sz12, e1, km]) e)]
  have s1 : l.length ≤ sizeLine := size_le (by omega)
  simp [runF, evSs, evS, ev, evs, evo, evc, evi, mSeq, mSet, mRet, mRetN, mSkip, mDo, mIte, mUnp, mPar, mAug, mApp, mExt, mPut, mOwn, mCell, mFreeze, mFor, mRaise, mTry, findH, bs, endOf, mArgs, mAnds, mOrs, mTAnds, mTOrs, mAnd, mOr, mNot, mTAnd, mTOr, mTNot, mTru, mIsB, mIf, mChain, mUn, mBin, mVar, mC, mCons, mNil, mTup, mLst, mCallB, mCall, mCut, mPart, mNoPart, mIter, mRng1_s, mRng2_s, mEnum, mZip, mComp, mYes, bx, notOwn, wipeO, startE, RV.sv, bd, ret, lift, RV.see, see_int, see_bl, see_str, see_non, see_tup, see_lst, see_ref, D.isi, BOp.g, COp.g, Bi.g, D.cmpI, D.add, D.sub, D.mul, D.fdiv, D.mod, D.neg, D.at_, D.bLen, D.bAbs, D.bTuple, D.bList, D.bInt, allVal, setAll, Tg.set, D.truth, D.isNo, D.notNo, D.nonB, D.toInt, D.cut, D.eqO, D.neO, D.inO, D.ninO, D.dep, D.deps, D.items, D.eq, sz1, sz2, sz3, sz4, sz5, sz6, sz7, sz8, sz9, sz10, sz11, sz12, stD]
end Kb
namespace Kb
open PySem L2
theorem atI_last {α : Type} {xs : List α} (h : xs ≠ []) : ∃ x, x ∈ xs ∧ atI xs (-1) = some x := by
  have hl := List.length_pos_iff.mpr h
  have e : (-1 + (xs.length : Int)).toNat < xs.length := by omega
  refine ⟨xs[(-1 + (xs.length : Int)).toNat], List.getElem_mem e, ?_⟩
  unfold atI ixN
  rw [if_neg (by omega), if_pos (by omega)]
  exact List.getElem?_eq_getElem e
theorem hours_rng {s : Sg} {x : Int} (h : x ∈ hoursD s) : 0 ≤ x ∧ x ≤ 167 := by
  unfold hoursD at h
  simp only [List.mem_flatMap, List.mem_map, List.mem_range] at h
  obtain ⟨a, _, k, _, rfl⟩ := h
  omega
theorem hours_ne {p : Int} {s : Sg} (h : sgOk p s = true) : hoursD s ≠ [] := by
  have h2 := sg_len h
  have h3 : s.days ≠ [] := by
    intro e
    unfold sgOk daysOk at h
    rw [e] at h
    simp at h
  obtain ⟨d, r, e⟩ := List.exists_cons_of_ne_nil h3
  intro z
  have : (24 * d + s.first + ((0 : Nat) : Int)) % 168 ∈ hoursD s := by
    unfold hoursD
    rw [e]
    simp only [List.mem_flatMap, List.mem_map, List.mem_range]
    exact ⟨d, List.mem_cons_self, 0, by omega, rfl⟩
  rw [z] at this
  cases this
theorem mem_ints {l : List Int} {x : D} (h : x ∈ l.map D.int) : ∃ i ∈ l, x = .int i := by
  obtain ⟨i, h1, rfl⟩ := List.mem_map.mp h
  exact ⟨i, h1, rfl⟩
theorem dep_ints (l : List Int) : D.dep (.lst (l.map D.int)) = 1 := by simp [D.dep, deps_ints]
theorem natL_ints (l : List Nat) : natL l = .lst ((l.map fun (i : Nat) => (i : Int)).map D.int) := by
  unfold natL
  rw [List.map_map]
  rfl
theorem natL_ne (l : List Nat) : D.neO (natL l) (natL l) = some (.bl false) := by
  unfold D.neO
  rw [natL_ints, dep_ints, if_pos ⟨by omega, by omega⟩]
  show some (D.bl (!D.eqs _ _)) = _
  rw [eqs_ints]
  simp
theorem for_step {t : Tg} {b : SM} {d : D} {ds : List D} {ρ ρ1 ρ2 : En} {h h2 : List Cell} (e1 : t.set d ρ = some ρ1) (e2 : b ρ1 h = some (.next ρ2 h2)) : forD t b (d :: ds) ρ h = forD t b ds ρ2 h2 := by
  simp only [forD, e1, e2]
theorem rng_go {cl : Nat → FM} {st : Bool} {a : E} {ρ : En} {h h1 : List Cell} {m : Nat} (e : (ev cl a).1 ρ h = some (.ok (.val (.int (m : Int))) h1)) (hm : m ≤ 100000) : evi cl st (.rng1 a) ρ h = some (.ok (rngD 0 m) h1) := by
  simp only [evi, mRng1_s, e, bd, okR_nat hm, if_true, ret, Int.toNat_natCast]
theorem rng_ints (n : Nat) : rngD 0 n = ((List.range n).map fun (k : Nat) => (k : Int)).map D.int := by
  unfold rngD
  rw [List.map_map]
  apply List.map_congr_left
  intro k _
  simp
end Kb
namespace Kb
open PySem L2
/-! ### stepwise -/
def ws (r : Option SRes) (Q : SRes → Prop) : Prop := ∃ x, r = some x ∧ Q x
def wp {α : Type} (r : Option (Res α)) (Q : Res α → Prop) : Prop := ∃ x, r = some x ∧ Q x
theorem ws_some (x : SRes) (Q : SRes → Prop) : ws (some x) Q = Q x := by
  apply propext
  constructor
  · rintro ⟨y, h, q⟩; cases h; exact q
  · intro q; exact ⟨x, rfl, q⟩
theorem wp_some {α : Type} (x : Res α) (Q : Res α → Prop) : wp (some x) Q = Q x := by
  apply propext
  constructor
  · rintro ⟨y, h, q⟩; cases h; exact q
  · intro q; exact ⟨x, rfl, q⟩
theorem ws_mono {r : Option SRes} {Q Q' : SRes → Prop} (h : ws r Q) (m : ∀ x, Q x → Q' x) : ws r Q' := by
  obtain ⟨x, e, q⟩ := h
  exact ⟨x, e, m x q⟩
theorem ws_of {r : Option SRes} {x : SRes} {Q : SRes → Prop} (e : r = some x) (q : Q x) : ws r Q := ⟨x, e, q⟩
def KS (cl : Nat → FM) (r : Ss) (Q : SRes → Prop) : SRes → Prop
  | .next ρ h => ws (evSs cl r ρ h) Q
  | x => Q x
section
variable {cl : Nat → FM} {ρ : En} {h : List Cell} {Q : SRes → Prop}
theorem KS_next (r : Ss) : KS cl r Q (.next ρ h) = ws (evSs cl r ρ h) Q := rfl
theorem KS_ret (r : Ss) (d : D) : KS cl r Q (.ret d h) = Q (.ret d h) := rfl
theorem KS_exc (r : Ss) (c : Nat) : KS cl r Q (.exc c h) = Q (.exc c h) := rfl
theorem ws_seq {a : SM} (r : Ss) : ws (mSeq a (evSs cl r) ρ h) Q = ws (a ρ h) (KS cl r Q) := by
  apply propext
  unfold mSeq
  constructor
  · rintro ⟨y, e, q⟩
    cases z : a ρ h with
    | none => rw [z] at e; cases e
    | some x =>
      rw [z] at e
      refine ⟨x, rfl, ?_⟩
      cases x with
      | next ρ1 h1 => exact ⟨y, e, q⟩
      | ret d h1 => cases e; exact q
      | exc c h1 => cases e; exact q
  · rintro ⟨x, e, q⟩
    rw [e]
    cases x with
    | next ρ1 h1 => exact q
    | ret d h1 => exact ⟨_, rfl, q⟩
    | exc c h1 => exact ⟨_, rfl, q⟩
theorem ws_cons (s : S) (r : Ss) : ws (evSs cl (.cons s r) ρ h) Q = ws (evS cl s ρ h) (KS cl r Q) := by
  rw [← ws_seq]
  simp only [evSs]
theorem ws_frz (i : Nat) (r : Ss) : ws (evSs cl (.frz i r) ρ h) Q = ws (mFreeze i ρ h) (KS cl r Q) := by
  rw [← ws_seq]
  simp only [evSs]
theorem ws_nil : ws (evSs cl .nil ρ h) Q = Q (.next ρ h) := by
  simp only [evSs, mSkip, ws_some]
def wI (cl : Nat → FM) (a b : Ss) (ρ : En) (Q : SRes → Prop) : Res Bool → Prop
  | .ok true h => ws (evSs cl a ρ h) Q
  | .ok false h => ws (evSs cl b ρ h) Q
  | .exc c h => Q (.exc c h)
theorem wI_true (a b : Ss) : wI cl a b ρ Q (.ok true h) = ws (evSs cl a ρ h) Q := rfl
theorem wI_false (a b : Ss) : wI cl a b ρ Q (.ok false h) = ws (evSs cl b ρ h) Q := rfl
theorem wI_exc (a b : Ss) (c : Nat) : wI cl a b ρ Q (.exc c h) = Q (.exc c h) := rfl
theorem ws_ite (c : E) (a b : Ss) : ws (evS cl (.ite c a b) ρ h) Q = wp ((ev cl c).2 ρ h) (wI cl a b ρ Q) := by
  simp only [evS, mIte]
  cases (ev cl c).2 ρ h with
  | none => simp [bs, ws, wp]
  | some x =>
    rw [wp_some]
    cases x with
    | ok k h1 => cases k <;> simp [bs, wI]
    | exc c h1 => simp only [bs, wI, ws_some]
def wL (cl : Nat → FM) (t : Tg) (b : Ss) (ρ : En) (Q : SRes → Prop) : Res (List D) → Prop
  | .ok ds h => ws (forD t (evSs cl b) ds ρ h) Q
  | .exc c h => Q (.exc c h)
theorem wL_ok (t : Tg) (b : Ss) (ds : List D) : wL cl t b ρ Q (.ok ds h) = ws (forD t (evSs cl b) ds ρ h) Q := rfl
theorem ws_loop (t : Tg) (it : I) (b : Ss) : ws (evS cl (.loop t it b) ρ h) Q = wp (evi cl true it ρ h) (wL cl t b ρ Q) := by
  simp only [evS, mFor]
  cases evi cl true it ρ h with
  | none => simp [bs, ws, wp]
  | some x =>
    rw [wp_some]
    cases x with
    | ok k h1 => simp only [bs, wL]
    | exc c h1 => simp only [bs, wL, ws_some]
def KF (t : Tg) (cl : Nat → FM) (b : Ss) (ds : List D) (Q : SRes → Prop) : SRes → Prop
  | .next ρ h => ws (forD t (evSs cl b) ds ρ h) Q
  | x => Q x
theorem KF_next (t : Tg) (b : Ss) (ds : List D) : KF t cl b ds Q (.next ρ h) = ws (forD t (evSs cl b) ds ρ h) Q := rfl
theorem KF_ret (t : Tg) (b : Ss) (ds : List D) (d : D) : KF t cl b ds Q (.ret d h) = Q (.ret d h) := rfl
theorem KF_exc (t : Tg) (b : Ss) (ds : List D) (c : Nat) : KF t cl b ds Q (.exc c h) = Q (.exc c h) := rfl
def wO (r : Option En) (f : En → Prop) : Prop := ∃ ρ, r = some ρ ∧ f ρ
theorem wO_some (ρ : En) (f : En → Prop) : wO (some ρ) f = f ρ := by
  apply propext
  constructor
  · rintro ⟨y, h, q⟩; cases h; exact q
  · intro q; exact ⟨ρ, rfl, q⟩
theorem ws_for_cons (t : Tg) (b : Ss) (d : D) (ds : List D) : ws (forD t (evSs cl b) (d :: ds) ρ h) Q = wO (t.set d ρ) fun ρ1 => ws (evSs cl b ρ1 h) (KF t cl b ds Q) := by
  apply propext
  simp only [forD]
  cases t.set d ρ with
  | none => simp [ws, wO]
  | some ρ1 =>
    rw [wO_some]
    dsimp only
    constructor
    · rintro ⟨y, e, q⟩
      cases z : evSs cl b ρ1 h with
      | none => rw [z] at e; cases e
      | some x =>
        rw [z] at e
        refine ⟨x, rfl, ?_⟩
        cases x with
        | next ρ1 h1 => exact ⟨y, e, q⟩
        | ret d h1 => cases e; exact q
        | exc c h1 => cases e; exact q
    · rintro ⟨x, e, q⟩
      rw [e]
      cases x with
      | next ρ1 h1 => exact q
      | ret d h1 => exact ⟨_, rfl, q⟩
      | exc c h1 => exact ⟨_, rfl, q⟩
theorem ws_for_nil (t : Tg) (b : Ss) : ws (forD t (evSs cl b) [] ρ h) Q = Q (.next ρ h) := by
  simp only [forD, ws_some]
def KT (hs : List (Nat × Str)) (Q : SRes → Prop) : SRes → Prop
  | .exc c h => ∃ s, findH hs c = some s ∧ Q (.ret (.str s) h)
  | x => Q x
theorem KT_next (hs : List (Nat × Str)) : KT hs Q (.next ρ h) = Q (.next ρ h) := rfl
theorem KT_ret (hs : List (Nat × Str)) (d : D) : KT hs Q (.ret d h) = Q (.ret d h) := rfl
theorem KT_exc (hs : List (Nat × Str)) (c : Nat) : KT hs Q (.exc c h) = ∃ s, findH hs c = some s ∧ Q (.ret (.str s) h) := rfl
theorem ws_tr (b : Ss) (hs : List (Nat × Str)) : ws (evS cl (.tr b hs) ρ h) Q = ws (evSs cl b ρ h) (KT hs Q) := by
  apply propext
  simp only [evS, mTry]
  constructor
  · rintro ⟨y, e, q⟩
    cases z : evSs cl b ρ h with
    | none => rw [z] at e; cases e
    | some x =>
      rw [z] at e
      refine ⟨x, rfl, ?_⟩
      cases x with
      | next ρ1 h1 => cases e; exact q
      | ret d h1 => cases e; exact q
      | exc c h1 =>
        dsimp only at e
        cases f : findH hs c with
        | none => rw [f] at e; cases e
        | some s => rw [f] at e; cases e; exact ⟨s, f, q⟩
  · rintro ⟨x, e, q⟩
    rw [e]
    cases x with
    | next ρ1 h1 => exact ⟨_, rfl, q⟩
    | ret d h1 => exact ⟨_, rfl, q⟩
    | exc c h1 =>
      obtain ⟨s, f, q⟩ := q
      dsimp only
      rw [f]
      exact ⟨_, rfl, q⟩
theorem ws_set (i : Nat) (e : E) : ws (evS cl (.set i e) ρ h) Q = ws (mSet i (ev cl e).1 ρ h) Q := by simp only [evS]
theorem ws_own (i : Nat) (e : Es) : ws (evS cl (.own i e) ρ h) Q = ws (mOwn i (mArgs (evs cl e)) ρ h) Q := by simp only [evS]
theorem ws_cell (i : Nat) (e : Es) : ws (evS cl (.cell i e) ρ h) Q = ws (mCell i (mArgs (evs cl e)) ρ h) Q := by simp only [evS]
theorem ws_unp (t : Tg) (e : E) : ws (evS cl (.unp t e) ρ h) Q = ws (mUnp t (ev cl e).1 ρ h) Q := by simp only [evS]
theorem ws_par (i j : Nat) (e : Es) : ws (evS cl (.par i j e) ρ h) Q = ws (mPar [i, j] (mArgs (evs cl e)) ρ h) Q := by simp only [evS]
theorem ws_aug (i : Nat) (e : E) : ws (evS cl (.aug i e) ρ h) Q = ws (mAug i (ev cl e).1 ρ h) Q := by simp only [evS]
theorem ws_app (i : Nat) (e : E) : ws (evS cl (.app i e) ρ h) Q = ws (mApp i (ev cl e).1 ρ h) Q := by simp only [evS]
theorem ws_ext (i : Nat) (e : E) : ws (evS cl (.ext i e) ρ h) Q = ws (mExt i (ev cl e).1 ρ h) Q := by simp only [evS]
theorem ws_put (i : Nat) (j e : E) : ws (evS cl (.put i j e) ρ h) Q = ws (mPut i (ev cl j).1 (ev cl e).1 ρ h) Q := by simp only [evS]
theorem ws_expr (e : E) : ws (evS cl (.expr e) ρ h) Q = ws (mDo (ev cl e).1 ρ h) Q := by simp only [evS]
theorem ws_retE (e : E) : ws (evS cl (.ret e) ρ h) Q = ws (mRet (ev cl e).1 ρ h) Q := by simp only [evS]
theorem ws_retN : ws (evS cl .retN ρ h) Q = Q (.ret .non h) := by simp only [evS, mRetN, ws_some]
theorem ws_pass : ws (evS cl .pass ρ h) Q = Q (.next ρ h) := by simp only [evS, mSkip, ws_some]
theorem ws_raise (c : Nat) : ws (evS cl (.raise c) ρ h) Q = Q (.exc c h) := by simp only [evS, mRaise, ws_some]
end
theorem run_of {cl : Nat → FM} {n : Nat} {b : Ss} {rs : List RV} {h : List Cell} {r : Option (Res D)} (w : ws (evSs cl b (startE n rs) h) fun x => endOf (some x) = r) : runF cl n b rs h = r := by
  obtain ⟨x, e, q⟩ := w
  unfold runF
  rw [e]
  exact q
theorem run_wp {cl : Nat → FM} {n : Nat} {b : Ss} {rs : List RV} {h : List Cell} {Q : Res D → Prop} (w : ws (evSs cl b (startE n rs) h) fun x => ∃ r, endOf (some x) = some r ∧ Q r) : ∃ r, runF cl n b rs h = some r ∧ Q r := by
  obtain ⟨x, e, q⟩ := w
  unfold runF
  rw [e]
  exact q
/-! ### loops: what is written over -/
def patch (ρ : En) (ms : List Nat) (v : Nat → Option SV) : En := ms.foldl (fun ρ i => ρ.set i (v i)) ρ
theorem patch_nil (ρ : En) (v : Nat → Option SV) : patch ρ [] v = ρ := rfl
theorem patch_cons (ρ : En) (i : Nat) (ms : List Nat) (v : Nat → Option SV) : patch ρ (i :: ms) v = patch (ρ.set i (v i)) ms v := rfl
def getV (ρ : En) (i : Nat) : Option SV := (ρ[i]?).join
theorem patch_get : ∀ (ms : List Nat) (ρ : En), patch ρ ms (getV ρ) = ρ
  | [], _ => rfl
  | i :: ms, ρ => by
    have e : ρ.set i (getV ρ i) = ρ := by
      apply List.ext_getElem?
      intro j
      rw [List.getElem?_set]
      by_cases h : i = j
      · subst h
        simp only [if_true]
        by_cases hl : i < ρ.length
        · rw [if_pos hl]
          unfold getV
          rw [List.getElem?_eq_getElem hl]
          rfl
        · rw [if_neg hl, List.getElem?_eq_none (by omega)]
      · rw [if_neg h]
    rw [patch_cons, e, patch_get ms ρ]
/-- a loop with what it writes over, and a rule for it -/
theorem ws_for {cl : Nat → FM} {t : Tg} {b : Ss} {Q : SRes → Prop} (I : List D → En → List Cell → Prop)
    (step : ∀ d rest ρ h, I (d :: rest) ρ h → wO (t.set d ρ) fun ρ1 => ws (evSs cl b ρ1 h) fun x => match x with | .next ρ2 h2 => I rest ρ2 h2 | x => Q x) (fin : ∀ ρ h, I [] ρ h → Q (.next ρ h)) :
    ∀ (ds : List D) (ρ : En) (h : List Cell), I ds ρ h → ws (forD t (evSs cl b) ds ρ h) Q
  | [], ρ, h, i => by rw [ws_for_nil]; exact fin ρ h i
  | d :: ds, ρ, h, i => by
    rw [ws_for_cons]
    obtain ⟨ρ1, e, q⟩ := step d ds ρ h i
    refine ⟨ρ1, e, ws_mono q fun x k => ?_⟩
    cases x with
    | next ρ2 h2 => exact ws_for I step fin ds ρ2 h2 k
    | ret d h1 => exact k
    | exc c h1 => exact k
def KP (ρ0 : En) (ms : List Nat) (J : List D → (Nat → Option SV) → List Cell → Prop) (rest : List D) (Q : SRes → Prop) : SRes → Prop
  | .next ρ h => ∃ v, ρ = patch ρ0 ms v ∧ J rest v h
  | x => Q x
theorem KP_ret {ρ0 : En} {ms : List Nat} {J : List D → (Nat → Option SV) → List Cell → Prop} {rest : List D} {Q : SRes → Prop} {d : D} {h : List Cell} : KP ρ0 ms J rest Q (.ret d h) = Q (.ret d h) := rfl
theorem KP_exc {ρ0 : En} {ms : List Nat} {J : List D → (Nat → Option SV) → List Cell → Prop} {rest : List D} {Q : SRes → Prop} {d : Nat} {h : List Cell} : KP ρ0 ms J rest Q (.exc d h) = Q (.exc d h) := rfl
/-- the end of a turn -/
theorem KP_of {ρ0 ρ : En} {ms : List Nat} {J : List D → (Nat → Option SV) → List Cell → Prop} {rest : List D} {Q : SRes → Prop} {h : List Cell} (e : patch ρ ms (getV ρ) = patch ρ0 ms (getV ρ)) (j : J rest (getV ρ) h) : KP ρ0 ms J rest Q (.next ρ h) := ⟨getV ρ, by rw [← e, patch_get], j⟩
theorem ws_forP {cl : Nat → FM} {t : Tg} {b : Ss} {Q : SRes → Prop} {ρ : En} {h : List Cell} {ds : List D} (ms : List Nat) (J : List D → (Nat → Option SV) → List Cell → Prop) (h0 : J ds (getV ρ) h)
    (step : ∀ d rest v h, J (d :: rest) v h → wO (t.set d (patch ρ ms v)) fun ρ1 => ws (evSs cl b ρ1 h) (KP ρ ms J rest Q)) (fin : ∀ v h, J [] v h → Q (.next (patch ρ ms v) h)) : ws (forD t (evSs cl b) ds ρ h) Q := by
  refine ws_for (fun rest ρ' h' => ∃ v, ρ' = patch ρ ms v ∧ J rest v h') ?_ ?_ ds ρ h ⟨getV ρ, (patch_get ms ρ).symm, h0⟩
  · rintro d rest _ h ⟨v, rfl, j⟩
    obtain ⟨ρ1, e, q⟩ := step d rest v h j
    refine ⟨ρ1, e, ws_mono q fun x k => ?_⟩
    cases x <;> exact k
  · rintro _ h ⟨v, rfl, j⟩
    exact fin v h j
/-! ### comprehensions by rewriting -/
def stepD (t : Tg) (mt : TM) (me : EM) (ρ : En) (d : D) (h : List Cell) : Option (Res (Option D)) := match t.set d ρ with
  | none => none
  | some ρ1 => bx (mt ρ1 h) fun k h1 => if k = true then bx (me ρ1 h1) fun r h2 => match r with
      | .val e => ret (some e) h2
      | .bor _ => none
    else ret none h1
def compF {α : Type} (F : α → List Cell → Option (Res (Option D))) : List α → List Cell → Option (Res (List D))
  | [], h => ret [] h
  | a :: l, h => bx (F a h) fun o h1 => match o with
    | some e => bx (compF F l h1) fun es h2 => ret (e :: es) h2
    | none => compF F l h1
theorem compD_F (t : Tg) (mt : TM) (me : EM) (ρ : En) : ∀ (ds : List D) (h : List Cell), compD t mt me ρ ds h = compF (fun d h => stepD t mt me ρ d h) ds h
  | [], h => rfl
  | d :: ds, h => by
    unfold compD compF
    simp only [stepD]
    cases t.set d ρ with
    | none => rfl
    | some ρ1 =>
      dsimp only
      cases mt ρ1 h with
      | none => rfl
      | some x =>
        cases x with
        | exc c h1 => rfl
        | ok k h1 =>
          simp only [bx]
          cases k with
          | false =>
            simp only [Bool.false_eq_true, if_false, ret]
            rw [compD_F t mt me ρ ds h1]
            rfl
          | true =>
            simp only [if_true]
            cases me ρ1 h1 with
            | none => rfl
            | some x =>
              cases x with
              | exc c h1 => rfl
              | ok r h2 =>
                cases r with
                | bor _ => rfl
                | val e =>
                  simp only [ret]
                  rw [compD_F t mt me ρ ds h2]
                  rfl
theorem compF_map {α β : Type} (F : β → List Cell → Option (Res (Option D))) (f : α → β) : ∀ (l : List α) (h : List Cell), compF F (l.map f) h = compF (fun a h => F (f a) h) l h
  | [], h => rfl
  | a :: l, h => by
    rw [List.map_cons]
    unfold compF
    congr 1
    funext o h1
    rw [compF_map F f l h1]
theorem compF_congr {α : Type} {F G : α → List Cell → Option (Res (Option D))} {l : List α} {h : List Cell} (e : ∀ a, a ∈ l → ∀ h, F a h = G a h) : compF F l h = compF G l h := by
  induction l generalizing h with
  | nil => rfl
  | cons a l ih =>
    unfold compF
    rw [e a List.mem_cons_self]
    congr 1
    funext o h1
    rw [ih fun b hb => e b (List.mem_cons_of_mem _ hb)]
theorem compF_ret {α : Type} (g : α → Option D) : ∀ (l : List α) (h : List Cell), compF (fun a h => some (.ok (g a) h)) l h = some (.ok (l.filterMap g) h)
  | [], h => rfl
  | a :: l, h => by
    unfold compF
    simp only [bx]
    rw [compF_ret g l h]
    cases e : g a with
    | none => rw [List.filterMap_cons_none e]
    | some d => rw [List.filterMap_cons_some e]; rfl
theorem compF_ok {α : Type} (g : α → Option D) {F : α → List Cell → Option (Res (Option D))} {l : List α} {h : List Cell} (e : ∀ a, a ∈ l → ∀ h, F a h = some (.ok (g a) h)) : compF F l h = some (.ok (l.filterMap g) h) := by
  rw [compF_congr e, compF_ret]
theorem compF_rng (F : D → List Cell → Option (Res (Option D))) (a : Int) (n : Nat) (h : List Cell) : compF F (rngD a n) h = compF (fun (k : Nat) h => F (.int (a + (k : Int))) h) (List.range n) h := by
  unfold rngD
  rw [compF_map]
theorem compF_nil {α : Type} (F : α → List Cell → Option (Res (Option D))) (h : List Cell) : compF F [] h = some (.ok [] h) := rfl
theorem compF_cons {α : Type} (F : α → List Cell → Option (Res (Option D))) (a : α) (l : List α) (h : List Cell) : compF F (a :: l) h = bx (F a h) fun o h1 => match o with
    | some e => bx (compF F l h1) fun es h2 => ret (e :: es) h2
    | none => compF F l h1 := rfl
theorem ite_ok {α : Type} (c : Prop) [Decidable c] (a b : α) (h : List Cell) : (if c then some (Res.ok a h) else some (Res.ok b h)) = some (Res.ok (if c then a else b) h) := by
  split <;> rfl
theorem ite_val (c : Prop) [Decidable c] (a b : D) : (if c then RV.val a else RV.val b) = RV.val (if c then a else b) := by split <;> rfl
theorem ite_bl (c : Prop) [Decidable c] (a b : Bool) : (if c then D.bl a else D.bl b) = D.bl (if c then a else b) := by split <;> rfl
theorem ite_int (c : Prop) [Decidable c] (a b : Int) : (if c then D.int a else D.int b) = D.int (if c then a else b) := by split <;> rfl
theorem fm_ite {α β : Type} (p : α → Bool) (f : α → β) (l : List α) : (l.filterMap fun a => if p a = true then some (f a) else none) = (l.filter p).map f := by
  induction l with
  | nil => rfl
  | cons a l ih =>
    cases e : p a with
    | true => rw [List.filterMap_cons_some (by rw [if_pos e]), List.filter_cons_of_pos e, ih]; rfl
    | false => rw [List.filterMap_cons_none (by rw [if_neg (by rw [e]; exact Bool.false_ne_true)]), List.filter_cons_of_neg (by rw [e]; exact Bool.false_ne_true), ih]
theorem fm_dec {α β : Type} (p : α → Prop) [DecidablePred p] (f : α → β) (l : List α) : (l.filterMap fun a => if p a then some (f a) else none) = (l.filter fun a => decide (p a)).map f := by
  have := fm_ite (fun a => decide (p a)) f l
  simpa using this
/-! ### equality, depth, case by case -/
theorem eq_non_non   : D.eq .non .non = true := by simp only [D.eq]
theorem eq_non_bl  (b : Bool) : D.eq .non (.bl b) = false := by simp only [D.eq]
theorem eq_non_int  (b : Int) : D.eq .non (.int b) = false := by simp only [D.eq]
theorem eq_non_str  (b : Str) : D.eq .non (.str b) = false := by simp only [D.eq]
theorem eq_non_tup  (b : List D) : D.eq .non (.tup b) = false := by simp only [D.eq]
theorem eq_non_lst  (b : List D) : D.eq .non (.lst b) = false := by simp only [D.eq]
theorem eq_bl_non (a : Bool)  : D.eq (.bl a) .non = false := by simp only [D.eq]
theorem eq_bl_bl (a : Bool) (b : Bool) : D.eq (.bl a) (.bl b) = (a == b) := by simp only [D.eq]
theorem eq_bl_int (a : Bool) (b : Int) : D.eq (.bl a) (.int b) = ((if a = true then 1 else 0) == b) := by simp only [D.eq]
theorem eq_bl_str (a : Bool) (b : Str) : D.eq (.bl a) (.str b) = false := by simp only [D.eq]
theorem eq_bl_tup (a : Bool) (b : List D) : D.eq (.bl a) (.tup b) = false := by simp only [D.eq]
theorem eq_bl_lst (a : Bool) (b : List D) : D.eq (.bl a) (.lst b) = false := by simp only [D.eq]
theorem eq_int_non (a : Int)  : D.eq (.int a) .non = false := by simp only [D.eq]
theorem eq_int_bl (a : Int) (b : Bool) : D.eq (.int a) (.bl b) = (a == (if b = true then 1 else 0)) := by simp only [D.eq]
theorem eq_int_int (a : Int) (b : Int) : D.eq (.int a) (.int b) = (a == b) := by simp only [D.eq]
theorem eq_int_str (a : Int) (b : Str) : D.eq (.int a) (.str b) = false := by simp only [D.eq]
theorem eq_int_tup (a : Int) (b : List D) : D.eq (.int a) (.tup b) = false := by simp only [D.eq]
theorem eq_int_lst (a : Int) (b : List D) : D.eq (.int a) (.lst b) = false := by simp only [D.eq]
theorem eq_str_non (a : Str)  : D.eq (.str a) .non = false := by simp only [D.eq]
theorem eq_str_bl (a : Str) (b : Bool) : D.eq (.str a) (.bl b) = false := by simp only [D.eq]
theorem eq_str_int (a : Str) (b : Int) : D.eq (.str a) (.int b) = false := by simp only [D.eq]
theorem eq_str_str (a : Str) (b : Str) : D.eq (.str a) (.str b) = (a == b) := by simp only [D.eq]
theorem eq_str_tup (a : Str) (b : List D) : D.eq (.str a) (.tup b) = false := by simp only [D.eq]
theorem eq_str_lst (a : Str) (b : List D) : D.eq (.str a) (.lst b) = false := by simp only [D.eq]
theorem eq_tup_non (a : List D)  : D.eq (.tup a) .non = false := by simp only [D.eq]
theorem eq_tup_bl (a : List D) (b : Bool) : D.eq (.tup a) (.bl b) = false := by simp only [D.eq]
theorem eq_tup_int (a : List D) (b : Int) : D.eq (.tup a) (.int b) = false := by simp only [D.eq]
theorem eq_tup_str (a : List D) (b : Str) : D.eq (.tup a) (.str b) = false := by simp only [D.eq]
theorem eq_tup_tup (a : List D) (b : List D) : D.eq (.tup a) (.tup b) = D.eqs a b := by simp only [D.eq]
theorem eq_tup_lst (a : List D) (b : List D) : D.eq (.tup a) (.lst b) = false := by simp only [D.eq]
theorem eq_lst_non (a : List D)  : D.eq (.lst a) .non = false := by simp only [D.eq]
theorem eq_lst_bl (a : List D) (b : Bool) : D.eq (.lst a) (.bl b) = false := by simp only [D.eq]
theorem eq_lst_int (a : List D) (b : Int) : D.eq (.lst a) (.int b) = false := by simp only [D.eq]
theorem eq_lst_str (a : List D) (b : Str) : D.eq (.lst a) (.str b) = false := by simp only [D.eq]
theorem eq_lst_tup (a : List D) (b : List D) : D.eq (.lst a) (.tup b) = false := by simp only [D.eq]
theorem eq_lst_lst (a : List D) (b : List D) : D.eq (.lst a) (.lst b) = D.eqs a b := by simp only [D.eq]
theorem dep_non  : D.dep .non = 0 := by simp only [D.dep]
theorem dep_bl (a : Bool) : D.dep (.bl a) = 0 := by simp only [D.dep]
theorem dep_int (a : Int) : D.dep (.int a) = 0 := by simp only [D.dep]
theorem dep_str (a : Str) : D.dep (.str a) = 0 := by simp only [D.dep]
theorem dep_tup (a : List D) : D.dep (.tup a) = D.deps a + 1 := by simp only [D.dep]
theorem dep_lst (a : List D) : D.dep (.lst a) = D.deps a + 1 := by simp only [D.dep]
theorem deps_nil : D.deps [] = 0 := by simp only [D.deps]
theorem deps_cons (a : D) (l : List D) : D.deps (a :: l) = max a.dep (D.deps l) := by simp only [D.deps]
/-! ### sizes -/
theorem szle {n : Nat} (h : n ≤ 100000) : (n ≤ sizeLine) = True := eq_true (size_le h)
theorem szlt {n : Nat} (h : n ≤ 100000) : (n < sizeLine) = True := eq_true (Nat.lt_of_le_of_lt h size_big)
theorem dle_t {i j : Int} (h : i ≤ j) : decide (i ≤ j) = true := decide_eq_true h
theorem dle_f {i j : Int} (h : j < i) : decide (i ≤ j) = false := decide_eq_false (by omega)
theorem dlt_t {i j : Int} (h : i < j) : decide (i < j) = true := decide_eq_true h
theorem dlt_f {i j : Int} (h : j ≤ i) : decide (i < j) = false := decide_eq_false (by omega)
theorem ibeq_t {i j : Int} (h : i = j) : (i == j) = true := by simp [h]
theorem ibeq_f {i j : Int} (h : i ≠ j) : (i == j) = false := by simp [h]
theorem isInt_yes {i a b : Int} (h0 : a ≤ i) (h1 : i ≤ b) : isInt (.int i) a b = true := by simp [isInt, h0, h1]
theorem isInt_lo {i a b : Int} (h0 : i < a) : isInt (.int i) a b = false := by simp [isInt]; omega
theorem isInt_hi {i a b : Int} (h0 : b < i) : isInt (.int i) a b = false := by simp [isInt]; omega
theorem isInt_bl (b : Bool) (x y : Int) : isInt (.bl b) x y = false := rfl
theorem isInt_non (x y : Int) : isInt .non x y = false := rfl
theorem isInt_str (s : Str) (x y : Int) : isInt (.str s) x y = false := rfl
theorem isInt_tup (s : List D) (x y : Int) : isInt (.tup s) x y = false := rfl
theorem isInt_lst (s : List D) (x y : Int) : isInt (.lst s) x y = false := rfl
theorem nr_int (i : Int) : D.noRef (.int i) = true := rfl
theorem nr_bl (i : Bool) : D.noRef (.bl i) = true := rfl
theorem nr_str (i : Str) : D.noRef (.str i) = true := rfl
theorem nr_non : D.noRef .non = true := rfl
theorem nr_tup (i : List D) : D.noRef (.tup i) = true := rfl
theorem nr_lst (i : List D) : D.noRef (.lst i) = true := rfl
theorem rngD_len (a : Int) (n : Nat) : (rngD a n).length = n := by simp [rngD]
/-! ### streets and signs as they are looked at -/
theorem st0 (p : Int) (l : List Sg) : D.at_ (stD p l) (.int 0) = some (.int p) := by simp [D.at_, stD, at0]
theorem st1 (p : Int) (l : List Sg) : D.at_ (stD p l) (.int 1) = some (.tup (l.map Sg.d)) := by simp [D.at_, stD, at1]
theorem see_st (h : List Cell) (p : Int) (l : List Sg) : D.see h (stD p l) = stD p l := rfl
theorem sg0 (s : Sg) : D.at_ s.d (.int 0) = some (.int s.rank) := by simp [D.at_, Sg.d, at0]
theorem sg1 (s : Sg) : D.at_ s.d (.int 1) = some (.int s.start) := by simp [D.at_, Sg.d, at1]
theorem sg2 (s : Sg) : D.at_ s.d (.int 2) = some (.int s.stop) := by simp [D.at_, Sg.d, at2]
theorem sg3 (s : Sg) : D.at_ s.d (.int 3) = some (.tup (s.days.map D.int)) := by simp [D.at_, Sg.d, at3]
theorem sg4 (s : Sg) : D.at_ s.d (.int 4) = some (.int s.first) := by simp [D.at_, Sg.d, at4]
theorem sg5 (s : Sg) : D.at_ s.d (.int 5) = some (.int s.last) := by simp [D.at_, Sg.d, at5]
theorem sg6 (s : Sg) : D.at_ s.d (.int 6) = some (.str s.word) := by simp [D.at_, Sg.d, at6]
theorem sg7 (s : Sg) : D.at_ s.d (.int 7) = some (.int s.value) := by simp [D.at_, Sg.d, at7]
theorem at_tup (xs : List D) (i : Int) : D.at_ (.tup xs) (.int i) = atI xs i := rfl
theorem at_lst (xs : List D) (i : Int) : D.at_ (.lst xs) (.int i) = atI xs i := rfl
theorem cut_tup (xs : List D) (lo hi : Option Int) : D.cut (.tup xs) lo hi = some (.tup (cutD xs lo hi)) := rfl
theorem cut_lst (xs : List D) (lo hi : Option Int) : D.cut (.lst xs) lo hi = some (.lst (cutD xs lo hi)) := rfl
theorem set_name (i : Nat) (d : D) (ρ : En) : (Tg.name i).set d ρ = setAll [i] [d] ρ := rfl
theorem set_tup (is : List Nat) (ds : List D) (ρ : En) : (Tg.tup is).set (.tup ds) ρ = setAll is ds ρ := rfl
theorem it_lst (xs : List D) : D.items (.lst xs) = some xs := rfl
theorem it_tup (xs : List D) : D.items (.tup xs) = some xs := rfl
theorem natL_dep (l : List Nat) : D.dep (natL l) = 1 := by rw [natL_ints, dep_ints]
theorem see_natL (h : List Cell) (l : List Nat) : D.see h (natL l) = natL l := rfl
theorem natL_items (l : List Nat) : D.items (natL l) = some (l.map fun (i : Nat) => .int (i : Int)) := rfl
theorem sg_set (is : List Nat) (s : Sg) (ρ : En) : (Tg.tup is).set s.d ρ = setAll is [.int s.rank, .int s.start, .int s.stop, .tup (s.days.map D.int), .int s.first, .int s.last, .str s.word, .int s.value] ρ := rfl
def St (n : Nat) (h : List Cell) : Prop := ∃ xs : List Int, h = [.lst (xs.map D.int)] ∧ xs.length ≤ n
theorem St.mono {n m : Nat} {h : List Cell} (s : St n h) (l : n ≤ m) : St m h := by
  obtain ⟨xs, e, q⟩ := s
  exact ⟨xs, e, by omega⟩
theorem St.new : St 0 [.lst []] := ⟨[], rfl, by simp⟩
theorem dr {F : FM} (hF : SDraw F) {ns : List Int} {h : List Cell} {n : Nat} (m : Int) (hn : ns.length ≤ 63) (hm : 0 < m) (s : St n h) (hl : n ≤ 40000) : ∃ (r : Int) (h' : List Cell), F [.bor (ns.map D.int), .val (.ref 0), .val (.int m)] h = some (.ok (.int r) h') ∧ 0 ≤ r ∧ r < m ∧ St (n + 2) h' := by
  obtain ⟨xs, rfl, q⟩ := s
  obtain ⟨r, xs', e, h1, h2, h3⟩ := hF ns xs m hn hm (by omega)
  exact ⟨r, _, e, h1, h2, xs', rfl, by omega⟩
theorem pk {F : FM} (hF : SPick F) {ns : List Int} {h : List Cell} {n : Nat} (l : List D) (hn : ns.length ≤ 63) (hm : l ≠ []) (hl : l.length ≤ 1000) (s : St n h) (hl : n ≤ 40000) : ∃ (d : D) (h' : List Cell), F [.bor (ns.map D.int), .val (.ref 0), .val (.lst l)] h = some (.ok d h') ∧ d ∈ l ∧ St (n + 2) h' := by
  obtain ⟨xs, rfl, q⟩ := s
  obtain ⟨r, xs', e, h1, h2⟩ := hF ns xs l hn (by omega) hm (by omega)
  exact ⟨r, _, h1, e, xs', rfl, by omega⟩
theorem sgn {F : FM} (hF : SSign F) {ns : List Int} {h : List Cell} {n : Nat} (p : Int) (hn : ns.length ≤ 63) (h1 : 1 ≤ p) (h4 : p ≤ 4) (s : St n h) (hl : n ≤ 30000) : ∃ (g : Sg) (h' : List Cell), F [.bor (ns.map D.int), .val (.ref 0), .val (.int p)] h = some (.ok g.d h') ∧ sgOk p g = true ∧ g.rank ≤ 2 ∧ St (n + 60) h' := by
  obtain ⟨xs, rfl, q⟩ := s
  obtain ⟨r, xs', e, h1, h2, h3⟩ := hF ns xs p hn h1 h4 (by omega)
  exact ⟨r, _, e, h1, h2, xs', rfl, by omega⟩
theorem strt {F : FM} (hF : SStreet F) {ns : List Int} {h : List Cell} {n : Nat} (p : Int) (most : Nat) (hn : ns.length ≤ 63) (h1 : 1 ≤ p) (h4 : p ≤ 4) (hm : most ≤ 6) (s : St n h) (hl : n ≤ 30000) : ∃ (l : List Sg) (h' : List Cell), F [.bor (ns.map D.int), .val (.ref 0), .val (.int p), .val (.int most)] h = some (.ok (stD p l) h') ∧ Str8 p l ∧ l.length ≤ most ∧ (∀ s ∈ l, s.rank ≤ 2) ∧ St (n + 400) h' := by
  obtain ⟨xs, rfl, q⟩ := s
  obtain ⟨r, xs', e, h1, h2, h3, h4⟩ := hF ns xs p most hn h1 h4 hm (by omega)
  exact ⟨r, _, e, h1, h2, h3, xs', rfl, by omega⟩
end Kb
namespace Kb
open PySem L2
/-! ### any data as a street -/
mutual
def D.ok : D → Bool
  | .ref _ => false
  | .tup xs => decide (xs.length ≤ 1000) && D.okL xs
  | .lst xs => decide (xs.length ≤ 1000) && D.okL xs
  | _ => true
def D.okL : List D → Bool
  | [] => true
  | x :: xs => D.ok x && D.okL xs
end
theorem ok_noRef {d : D} (h : d.ok = true) : d.noRef = true := by
  cases d <;> first | rfl | (simp [D.ok] at h)
theorem okL_mem : ∀ {l : List D}, D.okL l = true → ∀ d ∈ l, d.ok = true
  | [], _, d, h => by cases h
  | x :: xs, h, d, hd => by
    simp only [D.okL, Bool.and_eq_true] at h
    rcases List.mem_cons.mp hd with rfl | hd
    · exact h.1
    · exact okL_mem h.2 d hd
theorem okL_map {α : Type} (f : α → D) : ∀ (l : List α), (∀ a ∈ l, (f a).ok = true) → D.okL (l.map f) = true
  | [], _ => rfl
  | a :: l, h => by
    simp only [List.map_cons, D.okL, Bool.and_eq_true]
    exact ⟨h a List.mem_cons_self, okL_map f l fun b hb => h b (List.mem_cons_of_mem _ hb)⟩
theorem okL_append : ∀ (a b : List D), D.okL (a ++ b) = (D.okL a && D.okL b)
  | [], b => rfl
  | x :: a, b => by simp only [List.cons_append, D.okL, okL_append a b, Bool.and_assoc]
def iv : D → Int
  | .int i => i
  | _ => 0
def isDaysD : D → Bool
  | .tup ds => decide (1 ≤ ds.length) && decide (ds.length ≤ 7) && ds.all (fun d => isInt d 0 6) && incr (ds.map iv)
  | _ => false
def isSignD (p : Int) : D → Bool
  | .tup [a, b, c, d, e, f, g, i] => isInt a 0 3 && isInt c 1 p && isInt b 0 (iv c - 1) && isDaysD d && isInt e 0 23 && isInt f 0 24 && wordD g i
  | _ => false
def keysOf (ss : List D) : List NestedKey := (D.keyL ss).getD []
def isStreetD : D → Bool
  | .tup [p, .tup ss] => isInt p 1 4 && decide (ss.length ≤ 6) && ss.all (isSignD (iv p)) && decide ((nubK (keysOf ss)).length = ss.length)
  | _ => false
theorem int_of {d : D} {a b : Int} (h : isInt d a b = true) : d = .int (iv d) ∧ a ≤ iv d ∧ iv d ≤ b := by
  cases d with
  | int i => simp [isInt] at h; exact ⟨rfl, h.1, h.2⟩
  | _ => simp [isInt] at h
theorem ints_of {a b : Int} : ∀ {l : List D}, (l.all fun d => isInt d a b) = true → l = (l.map iv).map D.int
  | [], _ => rfl
  | x :: l, h => by
    simp only [List.all_cons, Bool.and_eq_true] at h
    have e := (int_of h.1).1
    have r := ints_of h.2
    rw [List.map_cons, List.map_cons, ← e, ← r]
abbrev SAreDaysD (F : FM) : Prop := ∀ (d : D) h, d.ok = true → F [.val d] h = some (.ok (.bl (isDaysD d)) h)
theorem all_ints (is : List Int) (a b : Int) : ((is.map D.int).all fun d => isInt d a b) = is.all fun i => decide (a ≤ i) && decide (i ≤ b) := by
  rw [List.all_map]
  rfl
theorem map_iv (is : List Int) : (is.map D.int).map iv = is := by
  rw [List.map_map]
  exact List.map_id _
theorem are_daysD_ok {cl : Nat → FM} {n0 : Nat} (h0 : SIsInteger (cl n0)) : SAreDaysD (runF cl 3 (b_are_days n0)) := by
  intro d h hd
  cases d with
  | tup ds =>
    simp only [D.ok, Bool.and_eq_true, decide_eq_true_eq] at hd
    by_cases hl : ds.length ≤ 7
    · by_cases hi : (ds.all fun d => isInt d 0 6) = true
      · have e := ints_of hi
        have q := are_days_ok h0 (ds.map iv) h (by simpa using hl)
        rw [← e] at q
        rw [q]
        simp only [isDaysD, hi, daysOk]
        have hi2 : ((ds.map iv).all fun i => decide (0 ≤ i) && decide (i ≤ 6)) = true := by rw [← all_ints, ← e]; exact hi
        simp [hi2, hl]
      · apply run_of
        have nr : ∀ d ∈ ds, d.noRef = true := fun d hd' => ok_noRef (okL_mem hd.2 d hd')
        simp only [Bool.not_eq_true] at hi
        by_cases h1 : 1 ≤ ds.length
        · have k1 : (1 : Int) ≤ ds.length := by omega
          have k2 : (ds.length : Int) ≤ 7 := by omega
          simp (disch := first | assumption | omega | exact nr_int _ | exact nr_bl _ | exact nr_non | exact nr_str _ | exact nr_tup _ | exact nr_lst _ | solve_by_elim (maxDepth := 4)) [-getElem?_pos, -getElem?_neg, List.getElem?_cons_zero, List.getElem?_cons_succ, ↓ws_cons, ↓ws_frz, ↓ws_nil, KS_next, KS_ret, KS_exc, ↓ws_ite, wI_true, wI_false, wI_exc, ↓ws_loop, wL_ok, ↓ws_tr, KT_next, KT_ret, KT_exc, KF_next, KF_ret, KF_exc, KP_ret, KP_exc, ws_for_cons, ws_for_nil, wO_some, ws_some, wp_some, ↓ws_set, ↓ws_own, ↓ws_cell, ↓ws_unp, ↓ws_par, ↓ws_aug, ↓ws_app, ↓ws_ext, ↓ws_put, ↓ws_expr, ↓ws_retE, ↓ws_retN, ↓ws_pass, ↓ws_raise, szle, szlt, dle_t, dle_f, dlt_t, dlt_f, ibeq_t, ibeq_f, okR_of, isInt_yes, isInt_lo, isInt_hi, isInt_bl, isInt_non, isInt_str, isInt_tup, isInt_lst, nr_int, nr_bl, nr_str, nr_non, nr_tup, nr_lst, ↓compD_F, stepD, ↓compF_map, ↓compF_rng, compF_ret, compF_nil, compF_cons, ite_ok, ite_val, ite_bl, ite_int, fm_ite, fm_dec, rngD_len, st0, st1, see_st, see_sg, sg0, sg1, sg2, sg3, sg4, sg5, sg6, sg7, at_tup, at_lst, cut_tup, cut_lst, at0, at1, at2, at3, at4, at5, at6, at7, eq_non_non, eq_non_bl, eq_non_int, eq_non_str, eq_non_tup, eq_non_lst, eq_bl_non, eq_bl_bl, eq_bl_int, eq_bl_str, eq_bl_tup, eq_bl_lst, eq_int_non, eq_int_bl, eq_int_int, eq_int_str, eq_int_tup, eq_int_lst, eq_str_non, eq_str_bl, eq_str_int, eq_str_str, eq_str_tup, eq_str_lst, eq_tup_non, eq_tup_bl, eq_tup_int, eq_tup_str, eq_tup_tup, eq_tup_lst, eq_lst_non, eq_lst_bl, eq_lst_int, eq_lst_str, eq_lst_tup, eq_lst_lst, dep_non, dep_bl, dep_int, dep_str, dep_tup, dep_lst, deps_nil, deps_cons, it_lst, it_tup, natL_dep, see_natL, natL_items, sg_set, set_name, set_tup, see_noRef, patch_nil, patch_cons, ev, evs, evo, evc, evi, mSet, mRet, mDo, mUnp, mPar, mAug, mApp, mExt, mPut, mOwn, mCell, mFreeze, findH, bs, endOf, mArgs, mAnds, mOrs, mTAnds, mTOrs, mAnd, mOr, mNot, mTAnd, mTOr, mTNot, mTru, mIsB, mIf, mChain, mUn, mBin, mVar, mC, mCons, mNil, mTup, mLst, mCallB, mCall, mCut, mPart, mNoPart, mIter, mRng1_s, mRng2_s, mEnum, mZip, mComp, mYes, bx, notOwn, wipeO, startE, RV.sv, bd, ret, lift, RV.see, see_int, see_bl, see_str, see_non, see_tup, see_lst, see_ref, D.isi, BOp.g, COp.g, Bi.g, D.cmpI, D.add, D.sub, D.mul, D.fdiv, D.mod, D.neg, D.bLen, D.bAbs, D.bTuple, D.bList, D.bInt, allVal, setAll, D.truth, D.isNo, D.notNo, D.nonB, D.toInt, D.eqO, D.neO, D.inO, D.ninO, sz1, sz2, sz3, sz4, sz5, sz6, sz7, sz8, sz9, sz10, sz11, sz12, b_are_days, isDaysD, h1, hl, hi, k1, k2]
          rw [compF_ok fun d => some (.bl (isInt d 0 6))]
          · simp (disch := first | assumption | omega | exact nr_int _ | exact nr_bl _ | exact nr_non | exact nr_str _ | exact nr_tup _ | exact nr_lst _ | solve_by_elim (maxDepth := 4)) [-getElem?_pos, -getElem?_neg, List.getElem?_cons_zero, List.getElem?_cons_succ, ↓ws_cons, ↓ws_frz, ↓ws_nil, KS_next, KS_ret, KS_exc, ↓ws_ite, wI_true, wI_false, wI_exc, ↓ws_loop, wL_ok, ↓ws_tr, KT_next, KT_ret, KT_exc, KF_next, KF_ret, KF_exc, KP_ret, KP_exc, ws_for_cons, ws_for_nil, wO_some, ws_some, wp_some, ↓ws_set, ↓ws_own, ↓ws_cell, ↓ws_unp, ↓ws_par, ↓ws_aug, ↓ws_app, ↓ws_ext, ↓ws_put, ↓ws_expr, ↓ws_retE, ↓ws_retN, ↓ws_pass, ↓ws_raise, szle, szlt, dle_t, dle_f, dlt_t, dlt_f, ibeq_t, ibeq_f, okR_of, isInt_yes, isInt_lo, isInt_hi, isInt_bl, isInt_non, isInt_str, isInt_tup, isInt_lst, nr_int, nr_bl, nr_str, nr_non, nr_tup, nr_lst, ↓compD_F, stepD, ↓compF_map, ↓compF_rng, compF_ret, compF_nil, compF_cons, ite_ok, ite_val, ite_bl, ite_int, fm_ite, fm_dec, rngD_len, st0, st1, see_st, see_sg, sg0, sg1, sg2, sg3, sg4, sg5, sg6, sg7, at_tup, at_lst, cut_tup, cut_lst, at0, at1, at2, at3, at4, at5, at6, at7, eq_non_non, eq_non_bl, eq_non_int, eq_non_str, eq_non_tup, eq_non_lst, eq_bl_non, eq_bl_bl, eq_bl_int, eq_bl_str, eq_bl_tup, eq_bl_lst, eq_int_non, eq_int_bl, eq_int_int, eq_int_str, eq_int_tup, eq_int_lst, eq_str_non, eq_str_bl, eq_str_int, eq_str_str, eq_str_tup, eq_str_lst, eq_tup_non, eq_tup_bl, eq_tup_int, eq_tup_str, eq_tup_tup, eq_tup_lst, eq_lst_non, eq_lst_bl, eq_lst_int, eq_lst_str, eq_lst_tup, eq_lst_lst, dep_non, dep_bl, dep_int, dep_str, dep_tup, dep_lst, deps_nil, deps_cons, it_lst, it_tup, natL_dep, see_natL, natL_items, sg_set, set_name, set_tup, see_noRef, patch_nil, patch_cons, ev, evs, evo, evc, evi, mSet, mRet, mDo, mUnp, mPar, mAug, mApp, mExt, mPut, mOwn, mCell, mFreeze, findH, bs, endOf, mArgs, mAnds, mOrs, mTAnds, mTOrs, mAnd, mOr, mNot, mTAnd, mTOr, mTNot, mTru, mIsB, mIf, mChain, mUn, mBin, mVar, mC, mCons, mNil, mTup, mLst, mCallB, mCall, mCut, mPart, mNoPart, mIter, mRng1_s, mRng2_s, mEnum, mZip, mComp, mYes, bx, notOwn, wipeO, startE, RV.sv, bd, ret, lift, RV.see, see_int, see_bl, see_str, see_non, see_tup, see_lst, see_ref, D.isi, BOp.g, COp.g, Bi.g, D.cmpI, D.add, D.sub, D.mul, D.fdiv, D.mod, D.neg, D.bLen, D.bAbs, D.bTuple, D.bList, D.bInt, allVal, setAll, D.truth, D.isNo, D.notNo, D.nonB, D.toInt, D.eqO, D.neO, D.inO, D.ninO, sz1, sz2, sz3, sz4, sz5, sz6, sz7, sz8, sz9, sz10, sz11, sz12, all_of, hi]
          · intro d hd h
            simp [h0 d 0 6 h (nr d hd)]
        · have k1 : ¬ (1 : Int) ≤ ds.length := by omega
          simp (disch := first | assumption | omega | exact nr_int _ | exact nr_bl _ | exact nr_non | exact nr_str _ | exact nr_tup _ | exact nr_lst _ | solve_by_elim (maxDepth := 4)) [-getElem?_pos, -getElem?_neg, List.getElem?_cons_zero, List.getElem?_cons_succ, ↓ws_cons, ↓ws_frz, ↓ws_nil, KS_next, KS_ret, KS_exc, ↓ws_ite, wI_true, wI_false, wI_exc, ↓ws_loop, wL_ok, ↓ws_tr, KT_next, KT_ret, KT_exc, KF_next, KF_ret, KF_exc, KP_ret, KP_exc, ws_for_cons, ws_for_nil, wO_some, ws_some, wp_some, ↓ws_set, ↓ws_own, ↓ws_cell, ↓ws_unp, ↓ws_par, ↓ws_aug, ↓ws_app, ↓ws_ext, ↓ws_put, ↓ws_expr, ↓ws_retE, ↓ws_retN, ↓ws_pass, ↓ws_raise, szle, szlt, dle_t, dle_f, dlt_t, dlt_f, ibeq_t, ibeq_f, okR_of, isInt_yes, isInt_lo, isInt_hi, isInt_bl, isInt_non, isInt_str, isInt_tup, isInt_lst, nr_int, nr_bl, nr_str, nr_non, nr_tup, nr_lst, ↓compD_F, stepD, ↓compF_map, ↓compF_rng, compF_ret, compF_nil, compF_cons, ite_ok, ite_val, ite_bl, ite_int, fm_ite, fm_dec, rngD_len, st0, st1, see_st, see_sg, sg0, sg1, sg2, sg3, sg4, sg5, sg6, sg7, at_tup, at_lst, cut_tup, cut_lst, at0, at1, at2, at3, at4, at5, at6, at7, eq_non_non, eq_non_bl, eq_non_int, eq_non_str, eq_non_tup, eq_non_lst, eq_bl_non, eq_bl_bl, eq_bl_int, eq_bl_str, eq_bl_tup, eq_bl_lst, eq_int_non, eq_int_bl, eq_int_int, eq_int_str, eq_int_tup, eq_int_lst, eq_str_non, eq_str_bl, eq_str_int, eq_str_str, eq_str_tup, eq_str_lst, eq_tup_non, eq_tup_bl, eq_tup_int, eq_tup_str, eq_tup_tup, eq_tup_lst, eq_lst_non, eq_lst_bl, eq_lst_int, eq_lst_str, eq_lst_tup, eq_lst_lst, dep_non, dep_bl, dep_int, dep_str, dep_tup, dep_lst, deps_nil, deps_cons, it_lst, it_tup, natL_dep, see_natL, natL_items, sg_set, set_name, set_tup, see_noRef, patch_nil, patch_cons, ev, evs, evo, evc, evi, mSet, mRet, mDo, mUnp, mPar, mAug, mApp, mExt, mPut, mOwn, mCell, mFreeze, findH, bs, endOf, mArgs, mAnds, mOrs, mTAnds, mTOrs, mAnd, mOr, mNot, mTAnd, mTOr, mTNot, mTru, mIsB, mIf, mChain, mUn, mBin, mVar, mC, mCons, mNil, mTup, mLst, mCallB, mCall, mCut, mPart, mNoPart, mIter, mRng1_s, mRng2_s, mEnum, mZip, mComp, mYes, bx, notOwn, wipeO, startE, RV.sv, bd, ret, lift, RV.see, see_int, see_bl, see_str, see_non, see_tup, see_lst, see_ref, D.isi, BOp.g, COp.g, Bi.g, D.cmpI, D.add, D.sub, D.mul, D.fdiv, D.mod, D.neg, D.bLen, D.bAbs, D.bTuple, D.bList, D.bInt, allVal, setAll, D.truth, D.isNo, D.notNo, D.nonB, D.toInt, D.eqO, D.neO, D.inO, D.ninO, sz1, sz2, sz3, sz4, sz5, sz6, sz7, sz8, sz9, sz10, sz11, sz12, b_are_days, isDaysD, h1, k1]
    · have k1 : ¬ (ds.length : Int) ≤ 7 := by omega
      have k2 : (1 : Int) ≤ ds.length := by omega
      apply run_of
      simp (disch := first | assumption | omega | exact nr_int _ | exact nr_bl _ | exact nr_non | exact nr_str _ | exact nr_tup _ | exact nr_lst _ | solve_by_elim (maxDepth := 4)) [-getElem?_pos, -getElem?_neg, List.getElem?_cons_zero, List.getElem?_cons_succ, ↓ws_cons, ↓ws_frz, ↓ws_nil, KS_next, KS_ret, KS_exc, ↓ws_ite, wI_true, wI_false, wI_exc, ↓ws_loop, wL_ok, ↓ws_tr, KT_next, KT_ret, KT_exc, KF_next, KF_ret, KF_exc, KP_ret, KP_exc, ws_for_cons, ws_for_nil, wO_some, ws_some, wp_some, ↓ws_set, ↓ws_own, ↓ws_cell, ↓ws_unp, ↓ws_par, ↓ws_aug, ↓ws_app, ↓ws_ext, ↓ws_put, ↓ws_expr, ↓ws_retE, ↓ws_retN, ↓ws_pass, ↓ws_raise, szle, szlt, dle_t, dle_f, dlt_t, dlt_f, ibeq_t, ibeq_f, okR_of, isInt_yes, isInt_lo, isInt_hi, isInt_bl, isInt_non, isInt_str, isInt_tup, isInt_lst, nr_int, nr_bl, nr_str, nr_non, nr_tup, nr_lst, ↓compD_F, stepD, ↓compF_map, ↓compF_rng, compF_ret, compF_nil, compF_cons, ite_ok, ite_val, ite_bl, ite_int, fm_ite, fm_dec, rngD_len, st0, st1, see_st, see_sg, sg0, sg1, sg2, sg3, sg4, sg5, sg6, sg7, at_tup, at_lst, cut_tup, cut_lst, at0, at1, at2, at3, at4, at5, at6, at7, eq_non_non, eq_non_bl, eq_non_int, eq_non_str, eq_non_tup, eq_non_lst, eq_bl_non, eq_bl_bl, eq_bl_int, eq_bl_str, eq_bl_tup, eq_bl_lst, eq_int_non, eq_int_bl, eq_int_int, eq_int_str, eq_int_tup, eq_int_lst, eq_str_non, eq_str_bl, eq_str_int, eq_str_str, eq_str_tup, eq_str_lst, eq_tup_non, eq_tup_bl, eq_tup_int, eq_tup_str, eq_tup_tup, eq_tup_lst, eq_lst_non, eq_lst_bl, eq_lst_int, eq_lst_str, eq_lst_tup, eq_lst_lst, dep_non, dep_bl, dep_int, dep_str, dep_tup, dep_lst, deps_nil, deps_cons, it_lst, it_tup, natL_dep, see_natL, natL_items, sg_set, set_name, set_tup, see_noRef, patch_nil, patch_cons, ev, evs, evo, evc, evi, mSet, mRet, mDo, mUnp, mPar, mAug, mApp, mExt, mPut, mOwn, mCell, mFreeze, findH, bs, endOf, mArgs, mAnds, mOrs, mTAnds, mTOrs, mAnd, mOr, mNot, mTAnd, mTOr, mTNot, mTru, mIsB, mIf, mChain, mUn, mBin, mVar, mC, mCons, mNil, mTup, mLst, mCallB, mCall, mCut, mPart, mNoPart, mIter, mRng1_s, mRng2_s, mEnum, mZip, mComp, mYes, bx, notOwn, wipeO, startE, RV.sv, bd, ret, lift, RV.see, see_int, see_bl, see_str, see_non, see_tup, see_lst, see_ref, D.isi, BOp.g, COp.g, Bi.g, D.cmpI, D.add, D.sub, D.mul, D.fdiv, D.mod, D.neg, D.bLen, D.bAbs, D.bTuple, D.bList, D.bInt, allVal, setAll, D.truth, D.isNo, D.notNo, D.nonB, D.toInt, D.eqO, D.neO, D.inO, D.ninO, sz1, sz2, sz3, sz4, sz5, sz6, sz7, sz8, sz9, sz10, sz11, sz12, b_are_days, isDaysD, hl, k1, k2]
  | ref r => simp [D.ok] at hd
  | _ => apply run_of; simp (disch := first | assumption | omega | exact nr_int _ | exact nr_bl _ | exact nr_non | exact nr_str _ | exact nr_tup _ | exact nr_lst _ | solve_by_elim (maxDepth := 4)) [-getElem?_pos, -getElem?_neg, List.getElem?_cons_zero, List.getElem?_cons_succ, ↓ws_cons, ↓ws_frz, ↓ws_nil, KS_next, KS_ret, KS_exc, ↓ws_ite, wI_true, wI_false, wI_exc, ↓ws_loop, wL_ok, ↓ws_tr, KT_next, KT_ret, KT_exc, KF_next, KF_ret, KF_exc, KP_ret, KP_exc, ws_for_cons, ws_for_nil, wO_some, ws_some, wp_some, ↓ws_set, ↓ws_own, ↓ws_cell, ↓ws_unp, ↓ws_par, ↓ws_aug, ↓ws_app, ↓ws_ext, ↓ws_put, ↓ws_expr, ↓ws_retE, ↓ws_retN, ↓ws_pass, ↓ws_raise, szle, szlt, dle_t, dle_f, dlt_t, dlt_f, ibeq_t, ibeq_f, okR_of, isInt_yes, isInt_lo, isInt_hi, isInt_bl, isInt_non, isInt_str, isInt_tup, isInt_lst, nr_int, nr_bl, nr_str, nr_non, nr_tup, nr_lst, ↓compD_F, stepD, ↓compF_map, ↓compF_rng, compF_ret, compF_nil, compF_cons, ite_ok, ite_val, ite_bl, ite_int, fm_ite, fm_dec, rngD_len, st0, st1, see_st, see_sg, sg0, sg1, sg2, sg3, sg4, sg5, sg6, sg7, at_tup, at_lst, cut_tup, cut_lst, at0, at1, at2, at3, at4, at5, at6, at7, eq_non_non, eq_non_bl, eq_non_int, eq_non_str, eq_non_tup, eq_non_lst, eq_bl_non, eq_bl_bl, eq_bl_int, eq_bl_str, eq_bl_tup, eq_bl_lst, eq_int_non, eq_int_bl, eq_int_int, eq_int_str, eq_int_tup, eq_int_lst, eq_str_non, eq_str_bl, eq_str_int, eq_str_str, eq_str_tup, eq_str_lst, eq_tup_non, eq_tup_bl, eq_tup_int, eq_tup_str, eq_tup_tup, eq_tup_lst, eq_lst_non, eq_lst_bl, eq_lst_int, eq_lst_str, eq_lst_tup, eq_lst_lst, dep_non, dep_bl, dep_int, dep_str, dep_tup, dep_lst, deps_nil, deps_cons, it_lst, it_tup, natL_dep, see_natL, natL_items, sg_set, set_name, set_tup, see_noRef, patch_nil, patch_cons, ev, evs, evo, evc, evi, mSet, mRet, mDo, mUnp, mPar, mAug, mApp, mExt, mPut, mOwn, mCell, mFreeze, findH, bs, endOf, mArgs, mAnds, mOrs, mTAnds, mTOrs, mAnd, mOr, mNot, mTAnd, mTOr, mTNot, mTru, mIsB, mIf, mChain, mUn, mBin, mVar, mC, mCons, mNil, mTup, mLst, mCallB, mCall, mCut, mPart, mNoPart, mIter, mRng1_s, mRng2_s, mEnum, mZip, mComp, mYes, bx, notOwn, wipeO, startE, RV.sv, bd, ret, lift, RV.see, see_int, see_bl, see_str, see_non, see_tup, see_lst, see_ref, D.isi, BOp.g, COp.g, Bi.g, D.cmpI, D.add, D.sub, D.mul, D.fdiv, D.mod, D.neg, D.bLen, D.bAbs, D.bTuple, D.bList, D.bInt, allVal, setAll, D.truth, D.isNo, D.notNo, D.nonB, D.toInt, D.eqO, D.neO, D.inO, D.ninO, sz1, sz2, sz3, sz4, sz5, sz6, sz7, sz8, sz9, sz10, sz11, sz12, b_are_days, isDaysD]
abbrev SIsSignD (F : FM) : Prop := ∀ (p : Int) (d : D) h, d.ok = true → F [.val (.int p), .val d] h = some (.ok (.bl (isSignD p d)) h)
theorem is_signD_ok {cl : Nat → FM} {n0 n1 n2 : Nat} (h0 : SIsWord (cl n0)) (h1 : SIsInteger (cl n1)) (h2 : SAreDaysD (cl n2)) : SIsSignD (runF cl 10 (b_is_sign n0 n1 n2)) := by
  intro p d h hd
  apply run_of
  cases d with
  | tup ds =>
    simp only [D.ok, Bool.and_eq_true, decide_eq_true_eq] at hd
    by_cases hl : ds.length = 8
    · match ds, hl, hd with
      | [a, b, c, d, e, f, g, i], _, hd =>
        simp only [D.okL, Bool.and_eq_true, and_true] at hd
        obtain ⟨_, ka, kb, kc, kd, ke, kf, kg, ki⟩ := hd
        have na := ok_noRef ka
        have nb := ok_noRef kb
        have nc := ok_noRef kc
        have ne := ok_noRef ke
        have nf := ok_noRef kf
        have ng := ok_noRef kg
        have ni := ok_noRef ki
        cases a1 : isInt a 0 3 with
        | false => simp (disch := first | assumption | omega | exact nr_int _ | exact nr_bl _ | exact nr_non | exact nr_str _ | exact nr_tup _ | exact nr_lst _ | solve_by_elim (maxDepth := 4)) [-getElem?_pos, -getElem?_neg, List.getElem?_cons_zero, List.getElem?_cons_succ, ↓ws_cons, ↓ws_frz, ↓ws_nil, KS_next, KS_ret, KS_exc, ↓ws_ite, wI_true, wI_false, wI_exc, ↓ws_loop, wL_ok, ↓ws_tr, KT_next, KT_ret, KT_exc, KF_next, KF_ret, KF_exc, KP_ret, KP_exc, ws_for_cons, ws_for_nil, wO_some, ws_some, wp_some, ↓ws_set, ↓ws_own, ↓ws_cell, ↓ws_unp, ↓ws_par, ↓ws_aug, ↓ws_app, ↓ws_ext, ↓ws_put, ↓ws_expr, ↓ws_retE, ↓ws_retN, ↓ws_pass, ↓ws_raise, szle, szlt, dle_t, dle_f, dlt_t, dlt_f, ibeq_t, ibeq_f, okR_of, isInt_yes, isInt_lo, isInt_hi, isInt_bl, isInt_non, isInt_str, isInt_tup, isInt_lst, nr_int, nr_bl, nr_str, nr_non, nr_tup, nr_lst, ↓compD_F, stepD, ↓compF_map, ↓compF_rng, compF_ret, compF_nil, compF_cons, ite_ok, ite_val, ite_bl, ite_int, fm_ite, fm_dec, rngD_len, st0, st1, see_st, see_sg, sg0, sg1, sg2, sg3, sg4, sg5, sg6, sg7, at_tup, at_lst, cut_tup, cut_lst, at0, at1, at2, at3, at4, at5, at6, at7, eq_non_non, eq_non_bl, eq_non_int, eq_non_str, eq_non_tup, eq_non_lst, eq_bl_non, eq_bl_bl, eq_bl_int, eq_bl_str, eq_bl_tup, eq_bl_lst, eq_int_non, eq_int_bl, eq_int_int, eq_int_str, eq_int_tup, eq_int_lst, eq_str_non, eq_str_bl, eq_str_int, eq_str_str, eq_str_tup, eq_str_lst, eq_tup_non, eq_tup_bl, eq_tup_int, eq_tup_str, eq_tup_tup, eq_tup_lst, eq_lst_non, eq_lst_bl, eq_lst_int, eq_lst_str, eq_lst_tup, eq_lst_lst, dep_non, dep_bl, dep_int, dep_str, dep_tup, dep_lst, deps_nil, deps_cons, it_lst, it_tup, natL_dep, see_natL, natL_items, sg_set, set_name, set_tup, see_noRef, patch_nil, patch_cons, ev, evs, evo, evc, evi, mSet, mRet, mDo, mUnp, mPar, mAug, mApp, mExt, mPut, mOwn, mCell, mFreeze, findH, bs, endOf, mArgs, mAnds, mOrs, mTAnds, mTOrs, mAnd, mOr, mNot, mTAnd, mTOr, mTNot, mTru, mIsB, mIf, mChain, mUn, mBin, mVar, mC, mCons, mNil, mTup, mLst, mCallB, mCall, mCut, mPart, mNoPart, mIter, mRng1_s, mRng2_s, mEnum, mZip, mComp, mYes, bx, notOwn, wipeO, startE, RV.sv, bd, ret, lift, RV.see, see_int, see_bl, see_str, see_non, see_tup, see_lst, see_ref, D.isi, BOp.g, COp.g, Bi.g, D.cmpI, D.add, D.sub, D.mul, D.fdiv, D.mod, D.neg, D.bLen, D.bAbs, D.bTuple, D.bList, D.bInt, allVal, setAll, D.truth, D.isNo, D.notNo, D.nonB, D.toInt, D.eqO, D.neO, D.inO, D.ninO, sz1, sz2, sz3, sz4, sz5, sz6, sz7, sz8, sz9, sz10, sz11, sz12, b_is_sign, isSignD, h1, a1]
        | true =>
          cases a2 : isInt c 1 p with
          | false => simp (disch := first | assumption | omega | exact nr_int _ | exact nr_bl _ | exact nr_non | exact nr_str _ | exact nr_tup _ | exact nr_lst _ | solve_by_elim (maxDepth := 4)) [-getElem?_pos, -getElem?_neg, List.getElem?_cons_zero, List.getElem?_cons_succ, ↓ws_cons, ↓ws_frz, ↓ws_nil, KS_next, KS_ret, KS_exc, ↓ws_ite, wI_true, wI_false, wI_exc, ↓ws_loop, wL_ok, ↓ws_tr, KT_next, KT_ret, KT_exc, KF_next, KF_ret, KF_exc, KP_ret, KP_exc, ws_for_cons, ws_for_nil, wO_some, ws_some, wp_some, ↓ws_set, ↓ws_own, ↓ws_cell, ↓ws_unp, ↓ws_par, ↓ws_aug, ↓ws_app, ↓ws_ext, ↓ws_put, ↓ws_expr, ↓ws_retE, ↓ws_retN, ↓ws_pass, ↓ws_raise, szle, szlt, dle_t, dle_f, dlt_t, dlt_f, ibeq_t, ibeq_f, okR_of, isInt_yes, isInt_lo, isInt_hi, isInt_bl, isInt_non, isInt_str, isInt_tup, isInt_lst, nr_int, nr_bl, nr_str, nr_non, nr_tup, nr_lst, ↓compD_F, stepD, ↓compF_map, ↓compF_rng, compF_ret, compF_nil, compF_cons, ite_ok, ite_val, ite_bl, ite_int, fm_ite, fm_dec, rngD_len, st0, st1, see_st, see_sg, sg0, sg1, sg2, sg3, sg4, sg5, sg6, sg7, at_tup, at_lst, cut_tup, cut_lst, at0, at1, at2, at3, at4, at5, at6, at7, eq_non_non, eq_non_bl, eq_non_int, eq_non_str, eq_non_tup, eq_non_lst, eq_bl_non, eq_bl_bl, eq_bl_int, eq_bl_str, eq_bl_tup, eq_bl_lst, eq_int_non, eq_int_bl, eq_int_int, eq_int_str, eq_int_tup, eq_int_lst, eq_str_non, eq_str_bl, eq_str_int, eq_str_str, eq_str_tup, eq_str_lst, eq_tup_non, eq_tup_bl, eq_tup_int, eq_tup_str, eq_tup_tup, eq_tup_lst, eq_lst_non, eq_lst_bl, eq_lst_int, eq_lst_str, eq_lst_tup, eq_lst_lst, dep_non, dep_bl, dep_int, dep_str, dep_tup, dep_lst, deps_nil, deps_cons, it_lst, it_tup, natL_dep, see_natL, natL_items, sg_set, set_name, set_tup, see_noRef, patch_nil, patch_cons, ev, evs, evo, evc, evi, mSet, mRet, mDo, mUnp, mPar, mAug, mApp, mExt, mPut, mOwn, mCell, mFreeze, findH, bs, endOf, mArgs, mAnds, mOrs, mTAnds, mTOrs, mAnd, mOr, mNot, mTAnd, mTOr, mTNot, mTru, mIsB, mIf, mChain, mUn, mBin, mVar, mC, mCons, mNil, mTup, mLst, mCallB, mCall, mCut, mPart, mNoPart, mIter, mRng1_s, mRng2_s, mEnum, mZip, mComp, mYes, bx, notOwn, wipeO, startE, RV.sv, bd, ret, lift, RV.see, see_int, see_bl, see_str, see_non, see_tup, see_lst, see_ref, D.isi, BOp.g, COp.g, Bi.g, D.cmpI, D.add, D.sub, D.mul, D.fdiv, D.mod, D.neg, D.bLen, D.bAbs, D.bTuple, D.bList, D.bInt, allVal, setAll, D.truth, D.isNo, D.notNo, D.nonB, D.toInt, D.eqO, D.neO, D.inO, D.ninO, sz1, sz2, sz3, sz4, sz5, sz6, sz7, sz8, sz9, sz10, sz11, sz12, b_is_sign, isSignD, h1, a1, a2]
          | true =>
            have hc := (int_of a2).1
            generalize iv c = z at hc
            subst hc
            cases a3 : isInt b 0 (z - 1) with
            | false => simp (disch := first | assumption | omega | exact nr_int _ | exact nr_bl _ | exact nr_non | exact nr_str _ | exact nr_tup _ | exact nr_lst _ | solve_by_elim (maxDepth := 4)) [-getElem?_pos, -getElem?_neg, List.getElem?_cons_zero, List.getElem?_cons_succ, ↓ws_cons, ↓ws_frz, ↓ws_nil, KS_next, KS_ret, KS_exc, ↓ws_ite, wI_true, wI_false, wI_exc, ↓ws_loop, wL_ok, ↓ws_tr, KT_next, KT_ret, KT_exc, KF_next, KF_ret, KF_exc, KP_ret, KP_exc, ws_for_cons, ws_for_nil, wO_some, ws_some, wp_some, ↓ws_set, ↓ws_own, ↓ws_cell, ↓ws_unp, ↓ws_par, ↓ws_aug, ↓ws_app, ↓ws_ext, ↓ws_put, ↓ws_expr, ↓ws_retE, ↓ws_retN, ↓ws_pass, ↓ws_raise, szle, szlt, dle_t, dle_f, dlt_t, dlt_f, ibeq_t, ibeq_f, okR_of, isInt_yes, isInt_lo, isInt_hi, isInt_bl, isInt_non, isInt_str, isInt_tup, isInt_lst, nr_int, nr_bl, nr_str, nr_non, nr_tup, nr_lst, ↓compD_F, stepD, ↓compF_map, ↓compF_rng, compF_ret, compF_nil, compF_cons, ite_ok, ite_val, ite_bl, ite_int, fm_ite, fm_dec, rngD_len, st0, st1, see_st, see_sg, sg0, sg1, sg2, sg3, sg4, sg5, sg6, sg7, at_tup, at_lst, cut_tup, cut_lst, at0, at1, at2, at3, at4, at5, at6, at7, eq_non_non, eq_non_bl, eq_non_int, eq_non_str, eq_non_tup, eq_non_lst, eq_bl_non, eq_bl_bl, eq_bl_int, eq_bl_str, eq_bl_tup, eq_bl_lst, eq_int_non, eq_int_bl, eq_int_int, eq_int_str, eq_int_tup, eq_int_lst, eq_str_non, eq_str_bl, eq_str_int, eq_str_str, eq_str_tup, eq_str_lst, eq_tup_non, eq_tup_bl, eq_tup_int, eq_tup_str, eq_tup_tup, eq_tup_lst, eq_lst_non, eq_lst_bl, eq_lst_int, eq_lst_str, eq_lst_tup, eq_lst_lst, dep_non, dep_bl, dep_int, dep_str, dep_tup, dep_lst, deps_nil, deps_cons, it_lst, it_tup, natL_dep, see_natL, natL_items, sg_set, set_name, set_tup, see_noRef, patch_nil, patch_cons, ev, evs, evo, evc, evi, mSet, mRet, mDo, mUnp, mPar, mAug, mApp, mExt, mPut, mOwn, mCell, mFreeze, findH, bs, endOf, mArgs, mAnds, mOrs, mTAnds, mTOrs, mAnd, mOr, mNot, mTAnd, mTOr, mTNot, mTru, mIsB, mIf, mChain, mUn, mBin, mVar, mC, mCons, mNil, mTup, mLst, mCallB, mCall, mCut, mPart, mNoPart, mIter, mRng1_s, mRng2_s, mEnum, mZip, mComp, mYes, bx, notOwn, wipeO, startE, RV.sv, bd, ret, lift, RV.see, see_int, see_bl, see_str, see_non, see_tup, see_lst, see_ref, D.isi, BOp.g, COp.g, Bi.g, D.cmpI, D.add, D.sub, D.mul, D.fdiv, D.mod, D.neg, D.bLen, D.bAbs, D.bTuple, D.bList, D.bInt, allVal, setAll, D.truth, D.isNo, D.notNo, D.nonB, D.toInt, D.eqO, D.neO, D.inO, D.ninO, sz1, sz2, sz3, sz4, sz5, sz6, sz7, sz8, sz9, sz10, sz11, sz12, b_is_sign, isSignD, h1, a1, a2, a3, iv]
            | true =>
              cases a4 : isDaysD d with
              | false => simp (disch := first | assumption | omega | exact nr_int _ | exact nr_bl _ | exact nr_non | exact nr_str _ | exact nr_tup _ | exact nr_lst _ | solve_by_elim (maxDepth := 4)) [-getElem?_pos, -getElem?_neg, List.getElem?_cons_zero, List.getElem?_cons_succ, ↓ws_cons, ↓ws_frz, ↓ws_nil, KS_next, KS_ret, KS_exc, ↓ws_ite, wI_true, wI_false, wI_exc, ↓ws_loop, wL_ok, ↓ws_tr, KT_next, KT_ret, KT_exc, KF_next, KF_ret, KF_exc, KP_ret, KP_exc, ws_for_cons, ws_for_nil, wO_some, ws_some, wp_some, ↓ws_set, ↓ws_own, ↓ws_cell, ↓ws_unp, ↓ws_par, ↓ws_aug, ↓ws_app, ↓ws_ext, ↓ws_put, ↓ws_expr, ↓ws_retE, ↓ws_retN, ↓ws_pass, ↓ws_raise, szle, szlt, dle_t, dle_f, dlt_t, dlt_f, ibeq_t, ibeq_f, okR_of, isInt_yes, isInt_lo, isInt_hi, isInt_bl, isInt_non, isInt_str, isInt_tup, isInt_lst, nr_int, nr_bl, nr_str, nr_non, nr_tup, nr_lst, ↓compD_F, stepD, ↓compF_map, ↓compF_rng, compF_ret, compF_nil, compF_cons, ite_ok, ite_val, ite_bl, ite_int, fm_ite, fm_dec, rngD_len, st0, st1, see_st, see_sg, sg0, sg1, sg2, sg3, sg4, sg5, sg6, sg7, at_tup, at_lst, cut_tup, cut_lst, at0, at1, at2, at3, at4, at5, at6, at7, eq_non_non, eq_non_bl, eq_non_int, eq_non_str, eq_non_tup, eq_non_lst, eq_bl_non, eq_bl_bl, eq_bl_int, eq_bl_str, eq_bl_tup, eq_bl_lst, eq_int_non, eq_int_bl, eq_int_int, eq_int_str, eq_int_tup, eq_int_lst, eq_str_non, eq_str_bl, eq_str_int, eq_str_str, eq_str_tup, eq_str_lst, eq_tup_non, eq_tup_bl, eq_tup_int, eq_tup_str, eq_tup_tup, eq_tup_lst, eq_lst_non, eq_lst_bl, eq_lst_int, eq_lst_str, eq_lst_tup, eq_lst_lst, dep_non, dep_bl, dep_int, dep_str, dep_tup, dep_lst, deps_nil, deps_cons, it_lst, it_tup, natL_dep, see_natL, natL_items, sg_set, set_name, set_tup, see_noRef, patch_nil, patch_cons, ev, evs, evo, evc, evi, mSet, mRet, mDo, mUnp, mPar, mAug, mApp, mExt, mPut, mOwn, mCell, mFreeze, findH, bs, endOf, mArgs, mAnds, mOrs, mTAnds, mTOrs, mAnd, mOr, mNot, mTAnd, mTOr, mTNot, mTru, mIsB, mIf, mChain, mUn, mBin, mVar, mC, mCons, mNil, mTup, mLst, mCallB, mCall, mCut, mPart, mNoPart, mIter, mRng1_s, mRng2_s, mEnum, mZip, mComp, mYes, bx, notOwn, wipeO, startE, RV.sv, bd, ret, lift, RV.see, see_int, see_bl, see_str, see_non, see_tup, see_lst, see_ref, D.isi, BOp.g, COp.g, Bi.g, D.cmpI, D.add, D.sub, D.mul, D.fdiv, D.mod, D.neg, D.bLen, D.bAbs, D.bTuple, D.bList, D.bInt, allVal, setAll, D.truth, D.isNo, D.notNo, D.nonB, D.toInt, D.eqO, D.neO, D.inO, D.ninO, sz1, sz2, sz3, sz4, sz5, sz6, sz7, sz8, sz9, sz10, sz11, sz12, b_is_sign, isSignD, h1, h2, a1, a2, a3, a4, iv]
              | true =>
                cases a5 : isInt e 0 23 with
                | false => simp (disch := first | assumption | omega | exact nr_int _ | exact nr_bl _ | exact nr_non | exact nr_str _ | exact nr_tup _ | exact nr_lst _ | solve_by_elim (maxDepth := 4)) [-getElem?_pos, -getElem?_neg, List.getElem?_cons_zero, List.getElem?_cons_succ, ↓ws_cons, ↓ws_frz, ↓ws_nil, KS_next, KS_ret, KS_exc, ↓ws_ite, wI_true, wI_false, wI_exc, ↓ws_loop, wL_ok, ↓ws_tr, KT_next, KT_ret, KT_exc, KF_next, KF_ret, KF_exc, KP_ret, KP_exc, ws_for_cons, ws_for_nil, wO_some, ws_some, wp_some, ↓ws_set, ↓ws_own, ↓ws_cell, ↓ws_unp, ↓ws_par, ↓ws_aug, ↓ws_app, ↓ws_ext, ↓ws_put, ↓ws_expr, ↓ws_retE, ↓ws_retN, ↓ws_pass, ↓ws_raise, szle, szlt, dle_t, dle_f, dlt_t, dlt_f, ibeq_t, ibeq_f, okR_of, isInt_yes, isInt_lo, isInt_hi, isInt_bl, isInt_non, isInt_str, isInt_tup, isInt_lst, nr_int, nr_bl, nr_str, nr_non, nr_tup, nr_lst, ↓compD_F, stepD, ↓compF_map, ↓compF_rng, compF_ret, compF_nil, compF_cons, ite_ok, ite_val, ite_bl, ite_int, fm_ite, fm_dec, rngD_len, st0, st1, see_st, see_sg, sg0, sg1, sg2, sg3, sg4, sg5, sg6, sg7, at_tup, at_lst, cut_tup, cut_lst, at0, at1, at2, at3, at4, at5, at6, at7, eq_non_non, eq_non_bl, eq_non_int, eq_non_str, eq_non_tup, eq_non_lst, eq_bl_non, eq_bl_bl, eq_bl_int, eq_bl_str, eq_bl_tup, eq_bl_lst, eq_int_non, eq_int_bl, eq_int_int, eq_int_str, eq_int_tup, eq_int_lst, eq_str_non, eq_str_bl, eq_str_int, eq_str_str, eq_str_tup, eq_str_lst, eq_tup_non, eq_tup_bl, eq_tup_int, eq_tup_str, eq_tup_tup, eq_tup_lst, eq_lst_non, eq_lst_bl, eq_lst_int, eq_lst_str, eq_lst_tup, eq_lst_lst, dep_non, dep_bl, dep_int, dep_str, dep_tup, dep_lst, deps_nil, deps_cons, it_lst, it_tup, natL_dep, see_natL, natL_items, sg_set, set_name, set_tup, see_noRef, patch_nil, patch_cons, ev, evs, evo, evc, evi, mSet, mRet, mDo, mUnp, mPar, mAug, mApp, mExt, mPut, mOwn, mCell, mFreeze, findH, bs, endOf, mArgs, mAnds, mOrs, mTAnds, mTOrs, mAnd, mOr, mNot, mTAnd, mTOr, mTNot, mTru, mIsB, mIf, mChain, mUn, mBin, mVar, mC, mCons, mNil, mTup, mLst, mCallB, mCall, mCut, mPart, mNoPart, mIter, mRng1_s, mRng2_s, mEnum, mZip, mComp, mYes, bx, notOwn, wipeO, startE, RV.sv, bd, ret, lift, RV.see, see_int, see_bl, see_str, see_non, see_tup, see_lst, see_ref, D.isi, BOp.g, COp.g, Bi.g, D.cmpI, D.add, D.sub, D.mul, D.fdiv, D.mod, D.neg, D.bLen, D.bAbs, D.bTuple, D.bList, D.bInt, allVal, setAll, D.truth, D.isNo, D.notNo, D.nonB, D.toInt, D.eqO, D.neO, D.inO, D.ninO, sz1, sz2, sz3, sz4, sz5, sz6, sz7, sz8, sz9, sz10, sz11, sz12, b_is_sign, isSignD, h1, h2, a1, a2, a3, a4, a5, iv]
                | true =>
                  cases a6 : isInt f 0 24 with
                  | false => simp (disch := first | assumption | omega | exact nr_int _ | exact nr_bl _ | exact nr_non | exact nr_str _ | exact nr_tup _ | exact nr_lst _ | solve_by_elim (maxDepth := 4)) [-getElem?_pos, -getElem?_neg, List.getElem?_cons_zero, List.getElem?_cons_succ, ↓ws_cons, ↓ws_frz, ↓ws_nil, KS_next, KS_ret, KS_exc, ↓ws_ite, wI_true, wI_false, wI_exc, ↓ws_loop, wL_ok, ↓ws_tr, KT_next, KT_ret, KT_exc, KF_next, KF_ret, KF_exc, KP_ret, KP_exc, ws_for_cons, ws_for_nil, wO_some, ws_some, wp_some, ↓ws_set, ↓ws_own, ↓ws_cell, ↓ws_unp, ↓ws_par, ↓ws_aug, ↓ws_app, ↓ws_ext, ↓ws_put, ↓ws_expr, ↓ws_retE, ↓ws_retN, ↓ws_pass, ↓ws_raise, szle, szlt, dle_t, dle_f, dlt_t, dlt_f, ibeq_t, ibeq_f, okR_of, isInt_yes, isInt_lo, isInt_hi, isInt_bl, isInt_non, isInt_str, isInt_tup, isInt_lst, nr_int, nr_bl, nr_str, nr_non, nr_tup, nr_lst, ↓compD_F, stepD, ↓compF_map, ↓compF_rng, compF_ret, compF_nil, compF_cons, ite_ok, ite_val, ite_bl, ite_int, fm_ite, fm_dec, rngD_len, st0, st1, see_st, see_sg, sg0, sg1, sg2, sg3, sg4, sg5, sg6, sg7, at_tup, at_lst, cut_tup, cut_lst, at0, at1, at2, at3, at4, at5, at6, at7, eq_non_non, eq_non_bl, eq_non_int, eq_non_str, eq_non_tup, eq_non_lst, eq_bl_non, eq_bl_bl, eq_bl_int, eq_bl_str, eq_bl_tup, eq_bl_lst, eq_int_non, eq_int_bl, eq_int_int, eq_int_str, eq_int_tup, eq_int_lst, eq_str_non, eq_str_bl, eq_str_int, eq_str_str, eq_str_tup, eq_str_lst, eq_tup_non, eq_tup_bl, eq_tup_int, eq_tup_str, eq_tup_tup, eq_tup_lst, eq_lst_non, eq_lst_bl, eq_lst_int, eq_lst_str, eq_lst_tup, eq_lst_lst, dep_non, dep_bl, dep_int, dep_str, dep_tup, dep_lst, deps_nil, deps_cons, it_lst, it_tup, natL_dep, see_natL, natL_items, sg_set, set_name, set_tup, see_noRef, patch_nil, patch_cons, ev, evs, evo, evc, evi, mSet, mRet, mDo, mUnp, mPar, mAug, mApp, mExt, mPut, mOwn, mCell, mFreeze, findH, bs, endOf, mArgs, mAnds, mOrs, mTAnds, mTOrs, mAnd, mOr, mNot, mTAnd, mTOr, mTNot, mTru, mIsB, mIf, mChain, mUn, mBin, mVar, mC, mCons, mNil, mTup, mLst, mCallB, mCall, mCut, mPart, mNoPart, mIter, mRng1_s, mRng2_s, mEnum, mZip, mComp, mYes, bx, notOwn, wipeO, startE, RV.sv, bd, ret, lift, RV.see, see_int, see_bl, see_str, see_non, see_tup, see_lst, see_ref, D.isi, BOp.g, COp.g, Bi.g, D.cmpI, D.add, D.sub, D.mul, D.fdiv, D.mod, D.neg, D.bLen, D.bAbs, D.bTuple, D.bList, D.bInt, allVal, setAll, D.truth, D.isNo, D.notNo, D.nonB, D.toInt, D.eqO, D.neO, D.inO, D.ninO, sz1, sz2, sz3, sz4, sz5, sz6, sz7, sz8, sz9, sz10, sz11, sz12, b_is_sign, isSignD, h1, h2, a1, a2, a3, a4, a5, a6, iv]
                  | true => simp (disch := first | assumption | omega | exact nr_int _ | exact nr_bl _ | exact nr_non | exact nr_str _ | exact nr_tup _ | exact nr_lst _ | solve_by_elim (maxDepth := 4)) [-getElem?_pos, -getElem?_neg, List.getElem?_cons_zero, List.getElem?_cons_succ, ↓ws_cons, ↓ws_frz, ↓ws_nil, KS_next, KS_ret, KS_exc, ↓ws_ite, wI_true, wI_false, wI_exc, ↓ws_loop, wL_ok, ↓ws_tr, KT_next, KT_ret, KT_exc, KF_next, KF_ret, KF_exc, KP_ret, KP_exc, ws_for_cons, ws_for_nil, wO_some, ws_some, wp_some, ↓ws_set, ↓ws_own, ↓ws_cell, ↓ws_unp, ↓ws_par, ↓ws_aug, ↓ws_app, ↓ws_ext, ↓ws_put, ↓ws_expr, ↓ws_retE, ↓ws_retN, ↓ws_pass, ↓ws_raise, szle, szlt, dle_t, dle_f, dlt_t, dlt_f, ibeq_t, ibeq_f, okR_of, isInt_yes, isInt_lo, isInt_hi, isInt_bl, isInt_non, isInt_str, isInt_tup, isInt_lst, nr_int, nr_bl, nr_str, nr_non, nr_tup, nr_lst, ↓compD_F, stepD, ↓compF_map, ↓compF_rng, compF_ret, compF_nil, compF_cons, ite_ok, ite_val, ite_bl, ite_int, fm_ite, fm_dec, rngD_len, st0, st1, see_st, see_sg, sg0, sg1, sg2, sg3, sg4, sg5, sg6, sg7, at_tup, at_lst, cut_tup, cut_lst, at0, at1, at2, at3, at4, at5, at6, at7, eq_non_non, eq_non_bl, eq_non_int, eq_non_str, eq_non_tup, eq_non_lst, eq_bl_non, eq_bl_bl, eq_bl_int, eq_bl_str, eq_bl_tup, eq_bl_lst, eq_int_non, eq_int_bl, eq_int_int, eq_int_str, eq_int_tup, eq_int_lst, eq_str_non, eq_str_bl, eq_str_int, eq_str_str, eq_str_tup, eq_str_lst, eq_tup_non, eq_tup_bl, eq_tup_int, eq_tup_str, eq_tup_tup, eq_tup_lst, eq_lst_non, eq_lst_bl, eq_lst_int, eq_lst_str, eq_lst_tup, eq_lst_lst, dep_non, dep_bl, dep_int, dep_str, dep_tup, dep_lst, deps_nil, deps_cons, it_lst, it_tup, natL_dep, see_natL, natL_items, sg_set, set_name, set_tup, see_noRef, patch_nil, patch_cons, ev, evs, evo, evc, evi, mSet, mRet, mDo, mUnp, mPar, mAug, mApp, mExt, mPut, mOwn, mCell, mFreeze, findH, bs, endOf, mArgs, mAnds, mOrs, mTAnds, mTOrs, mAnd, mOr, mNot, mTAnd, mTOr, mTNot, mTru, mIsB, mIf, mChain, mUn, mBin, mVar, mC, mCons, mNil, mTup, mLst, mCallB, mCall, mCut, mPart, mNoPart, mIter, mRng1_s, mRng2_s, mEnum, mZip, mComp, mYes, bx, notOwn, wipeO, startE, RV.sv, bd, ret, lift, RV.see, see_int, see_bl, see_str, see_non, see_tup, see_lst, see_ref, D.isi, BOp.g, COp.g, Bi.g, D.cmpI, D.add, D.sub, D.mul, D.fdiv, D.mod, D.neg, D.bLen, D.bAbs, D.bTuple, D.bList, D.bInt, allVal, setAll, D.truth, D.isNo, D.notNo, D.nonB, D.toInt, D.eqO, D.neO, D.inO, D.ninO, sz1, sz2, sz3, sz4, sz5, sz6, sz7, sz8, sz9, sz10, sz11, sz12, b_is_sign, isSignD, h0, h1, h2, a1, a2, a3, a4, a5, a6, iv]
    · have e : isSignD p (.tup ds) = false := by
        unfold isSignD
        split
        · rename_i z
          cases z
          exact absurd rfl hl
        · rfl
      rw [e]
      have hl2 : ¬ (ds.length : Int) = 8 := by omega
      simp (disch := first | assumption | omega | exact nr_int _ | exact nr_bl _ | exact nr_non | exact nr_str _ | exact nr_tup _ | exact nr_lst _ | solve_by_elim (maxDepth := 4)) [-getElem?_pos, -getElem?_neg, List.getElem?_cons_zero, List.getElem?_cons_succ, ↓ws_cons, ↓ws_frz, ↓ws_nil, KS_next, KS_ret, KS_exc, ↓ws_ite, wI_true, wI_false, wI_exc, ↓ws_loop, wL_ok, ↓ws_tr, KT_next, KT_ret, KT_exc, KF_next, KF_ret, KF_exc, KP_ret, KP_exc, ws_for_cons, ws_for_nil, wO_some, ws_some, wp_some, ↓ws_set, ↓ws_own, ↓ws_cell, ↓ws_unp, ↓ws_par, ↓ws_aug, ↓ws_app, ↓ws_ext, ↓ws_put, ↓ws_expr, ↓ws_retE, ↓ws_retN, ↓ws_pass, ↓ws_raise, szle, szlt, dle_t, dle_f, dlt_t, dlt_f, ibeq_t, ibeq_f, okR_of, isInt_yes, isInt_lo, isInt_hi, isInt_bl, isInt_non, isInt_str, isInt_tup, isInt_lst, nr_int, nr_bl, nr_str, nr_non, nr_tup, nr_lst, ↓compD_F, stepD, ↓compF_map, ↓compF_rng, compF_ret, compF_nil, compF_cons, ite_ok, ite_val, ite_bl, ite_int, fm_ite, fm_dec, rngD_len, st0, st1, see_st, see_sg, sg0, sg1, sg2, sg3, sg4, sg5, sg6, sg7, at_tup, at_lst, cut_tup, cut_lst, at0, at1, at2, at3, at4, at5, at6, at7, eq_non_non, eq_non_bl, eq_non_int, eq_non_str, eq_non_tup, eq_non_lst, eq_bl_non, eq_bl_bl, eq_bl_int, eq_bl_str, eq_bl_tup, eq_bl_lst, eq_int_non, eq_int_bl, eq_int_int, eq_int_str, eq_int_tup, eq_int_lst, eq_str_non, eq_str_bl, eq_str_int, eq_str_str, eq_str_tup, eq_str_lst, eq_tup_non, eq_tup_bl, eq_tup_int, eq_tup_str, eq_tup_tup, eq_tup_lst, eq_lst_non, eq_lst_bl, eq_lst_int, eq_lst_str, eq_lst_tup, eq_lst_lst, dep_non, dep_bl, dep_int, dep_str, dep_tup, dep_lst, deps_nil, deps_cons, it_lst, it_tup, natL_dep, see_natL, natL_items, sg_set, set_name, set_tup, see_noRef, patch_nil, patch_cons, ev, evs, evo, evc, evi, mSet, mRet, mDo, mUnp, mPar, mAug, mApp, mExt, mPut, mOwn, mCell, mFreeze, findH, bs, endOf, mArgs, mAnds, mOrs, mTAnds, mTOrs, mAnd, mOr, mNot, mTAnd, mTOr, mTNot, mTru, mIsB, mIf, mChain, mUn, mBin, mVar, mC, mCons, mNil, mTup, mLst, mCallB, mCall, mCut, mPart, mNoPart, mIter, mRng1_s, mRng2_s, mEnum, mZip, mComp, mYes, bx, notOwn, wipeO, startE, RV.sv, bd, ret, lift, RV.see, see_int, see_bl, see_str, see_non, see_tup, see_lst, see_ref, D.isi, BOp.g, COp.g, Bi.g, D.cmpI, D.add, D.sub, D.mul, D.fdiv, D.mod, D.neg, D.bLen, D.bAbs, D.bTuple, D.bList, D.bInt, allVal, setAll, D.truth, D.isNo, D.notNo, D.nonB, D.toInt, D.eqO, D.neO, D.inO, D.ninO, sz1, sz2, sz3, sz4, sz5, sz6, sz7, sz8, sz9, sz10, sz11, sz12, b_is_sign, hl, hl2]
  | ref r => simp [D.ok] at hd
  | _ => simp (disch := first | assumption | omega | exact nr_int _ | exact nr_bl _ | exact nr_non | exact nr_str _ | exact nr_tup _ | exact nr_lst _ | solve_by_elim (maxDepth := 4)) [-getElem?_pos, -getElem?_neg, List.getElem?_cons_zero, List.getElem?_cons_succ, ↓ws_cons, ↓ws_frz, ↓ws_nil, KS_next, KS_ret, KS_exc, ↓ws_ite, wI_true, wI_false, wI_exc, ↓ws_loop, wL_ok, ↓ws_tr, KT_next, KT_ret, KT_exc, KF_next, KF_ret, KF_exc, KP_ret, KP_exc, ws_for_cons, ws_for_nil, wO_some, ws_some, wp_some, ↓ws_set, ↓ws_own, ↓ws_cell, ↓ws_unp, ↓ws_par, ↓ws_aug, ↓ws_app, ↓ws_ext, ↓ws_put, ↓ws_expr, ↓ws_retE, ↓ws_retN, ↓ws_pass, ↓ws_raise, szle, szlt, dle_t, dle_f, dlt_t, dlt_f, ibeq_t, ibeq_f, okR_of, isInt_yes, isInt_lo, isInt_hi, isInt_bl, isInt_non, isInt_str, isInt_tup, isInt_lst, nr_int, nr_bl, nr_str, nr_non, nr_tup, nr_lst, ↓compD_F, stepD, ↓compF_map, ↓compF_rng, compF_ret, compF_nil, compF_cons, ite_ok, ite_val, ite_bl, ite_int, fm_ite, fm_dec, rngD_len, st0, st1, see_st, see_sg, sg0, sg1, sg2, sg3, sg4, sg5, sg6, sg7, at_tup, at_lst, cut_tup, cut_lst, at0, at1, at2, at3, at4, at5, at6, at7, eq_non_non, eq_non_bl, eq_non_int, eq_non_str, eq_non_tup, eq_non_lst, eq_bl_non, eq_bl_bl, eq_bl_int, eq_bl_str, eq_bl_tup, eq_bl_lst, eq_int_non, eq_int_bl, eq_int_int, eq_int_str, eq_int_tup, eq_int_lst, eq_str_non, eq_str_bl, eq_str_int, eq_str_str, eq_str_tup, eq_str_lst, eq_tup_non, eq_tup_bl, eq_tup_int, eq_tup_str, eq_tup_tup, eq_tup_lst, eq_lst_non, eq_lst_bl, eq_lst_int, eq_lst_str, eq_lst_tup, eq_lst_lst, dep_non, dep_bl, dep_int, dep_str, dep_tup, dep_lst, deps_nil, deps_cons, it_lst, it_tup, natL_dep, see_natL, natL_items, sg_set, set_name, set_tup, see_noRef, patch_nil, patch_cons, ev, evs, evo, evc, evi, mSet, mRet, mDo, mUnp, mPar, mAug, mApp, mExt, mPut, mOwn, mCell, mFreeze, findH, bs, endOf, mArgs, mAnds, mOrs, mTAnds, mTOrs, mAnd, mOr, mNot, mTAnd, mTOr, mTNot, mTru, mIsB, mIf, mChain, mUn, mBin, mVar, mC, mCons, mNil, mTup, mLst, mCallB, mCall, mCut, mPart, mNoPart, mIter, mRng1_s, mRng2_s, mEnum, mZip, mComp, mYes, bx, notOwn, wipeO, startE, RV.sv, bd, ret, lift, RV.see, see_int, see_bl, see_str, see_non, see_tup, see_lst, see_ref, D.isi, BOp.g, COp.g, Bi.g, D.cmpI, D.add, D.sub, D.mul, D.fdiv, D.mod, D.neg, D.bLen, D.bAbs, D.bTuple, D.bList, D.bInt, allVal, setAll, D.truth, D.isNo, D.notNo, D.nonB, D.toInt, D.eqO, D.neO, D.inO, D.ninO, sz1, sz2, sz3, sz4, sz5, sz6, sz7, sz8, sz9, sz10, sz11, sz12, b_is_sign, isSignD]
theorem sign_of {p : Int} {d : D} (h : isSignD p d = true) : ∃ s : Sg, d = s.d ∧ sgOk p s = true := by
  unfold isSignD at h
  split at h
  · rename_i a b c d e f g i
    simp only [Bool.and_eq_true] at h
    obtain ⟨⟨⟨⟨⟨⟨ha, hc⟩, hb⟩, hd⟩, he⟩, hf⟩, hg⟩ := h
    have za := int_of ha
    have zb := int_of hb
    have zc := int_of hc
    have ze := int_of he
    have zf := int_of hf
    cases d with
    | tup ds =>
      simp only [isDaysD, Bool.and_eq_true, decide_eq_true_eq] at hd
      obtain ⟨⟨⟨d1, d2⟩, d3⟩, d4⟩ := hd
      have zd := ints_of d3
      cases g with
      | str w =>
        have zi : i = .int (iv i) := by
          cases i with
          | int i => rfl
          | _ => simp [wordD, isInt] at hg
        refine ⟨⟨iv a, iv b, iv c, ds.map iv, iv e, iv f, w, iv i⟩, ?_, ?_⟩
        · simp only [Sg.d]
          rw [← za.1, ← zb.1, ← zc.1, ← zd, ← ze.1, ← zf.1, ← zi]
        · rw [zi] at hg
          rw [zd, all_ints] at d3
          simp only [sgOk, daysOk, rngB, Bool.and_eq_true, decide_eq_true_eq, List.length_map]
          exact ⟨⟨⟨⟨⟨⟨za.2, zc.2⟩, zb.2⟩, ⟨⟨d1, d2⟩, d3⟩, d4⟩, ze.2⟩, zf.2⟩, hg⟩
      | _ => simp [wordD] at hg
    | _ => simp [isDaysD] at hd
  · cases h
theorem sign_is {p : Int} {s : Sg} (h : sgOk p s = true) : isSignD p s.d = true := by
  simp only [isSignD, Sg.d, isDaysD, isInt_rng, iv, all_ints, map_iv, List.length_map]
  exact h
theorem sg_ok {p : Int} {s : Sg} (h : sgOk p s = true) : s.d.ok = true := by
  have := sgOk_days h
  have e := okL_map D.int s.days fun _ _ => rfl
  simp [Sg.d, D.ok, D.okL, e]
  omega
theorem signs_of {p : Int} : ∀ {ss : List D}, ss.all (isSignD p) = true → ∃ l : List Sg, ss = l.map Sg.d ∧ ∀ s ∈ l, sgOk p s = true
  | [], _ => ⟨[], rfl, fun _ h => by cases h⟩
  | d :: ss, h => by
    simp only [List.all_cons, Bool.and_eq_true] at h
    obtain ⟨s, rfl, hs⟩ := sign_of h.1
    obtain ⟨l, rfl, hl⟩ := signs_of h.2
    refine ⟨s :: l, rfl, fun t ht => ?_⟩
    rcases List.mem_cons.mp ht with rfl | ht
    · exact hs
    · exact hl t ht
theorem nub_le : ∀ (l : List NestedKey), (nubK l).length ≤ l.length
  | [] => by simp [nubK]
  | k :: r => by
    have := nub_le r
    unfold nubK
    split
    · simp only [List.length_cons]; omega
    · simp only [List.length_cons]; omega
theorem nub_nd : ∀ {l : List NestedKey}, (nubK l).length = l.length → l.Nodup
  | [], _ => List.nodup_nil
  | k :: r, h => by
    have := nub_le r
    unfold nubK at h
    split at h
    · simp only [List.length_cons] at h; omega
    · rename_i hk
      simp only [List.length_cons, Nat.add_right_cancel_iff] at h
      exact List.nodup_cons.mpr ⟨hk, nub_nd h⟩
theorem keys_sgs (l : List Sg) : keysOf (l.map Sg.d) = l.map Sg.k := by simp [keysOf, keyL_sgs]
theorem street_of {d : D} (h : isStreetD d = true) : ∃ p l, Str8 p l ∧ d = stD p l := by
  unfold isStreetD at h
  split at h
  · rename_i p ss
    simp only [Bool.and_eq_true, decide_eq_true_eq] at h
    obtain ⟨⟨⟨h1, h2⟩, h3⟩, h4⟩ := h
    have z := int_of h1
    obtain ⟨l, rfl, hl⟩ := signs_of h3
    rw [keys_sgs, List.length_map] at h4
    have nd := nub_nd (l := l.map Sg.k) (by rw [h4, List.length_map])
    refine ⟨iv p, l, ⟨z.2.1, z.2.2, by simpa using h2, hl, ?_⟩, by unfold stD; rw [← z.1]⟩
    exact (List.pairwise_map.mp nd).imp fun h e => h (by rw [e])
  · cases h
theorem street_is {p : Int} {l : List Sg} (S : Str8 p l) : isStreetD (stD p l) = true := by
  have nd : (l.map Sg.k).Nodup := List.Pairwise.map _ (fun a b ne e => ne (sgk_inj e)) S.nd
  unfold isStreetD stD
  simp only [Bool.and_eq_true, decide_eq_true_eq, iv, isInt, List.length_map, keys_sgs]
  rw [nub_same nd, List.length_map]
  refine ⟨⟨⟨⟨S.p1, S.p4⟩, S.len⟩, ?_⟩, rfl⟩
  rw [List.all_map, List.all_eq_true]
  exact fun s hs => sign_is (S.ok s hs)
theorem st_ok {p : Int} {l : List Sg} (S : Str8 p l) : (stD p l).ok = true := by
  have e := okL_map Sg.d l fun s hs => sg_ok (S.ok s hs)
  have := S.len
  simp [stD, D.ok, D.okL, e]
  omega
abbrev SIsStreetD (F : FM) : Prop := ∀ (d : D) h, d.ok = true → F [.val d] h = some (.ok (.bl (isStreetD d)) h)
theorem is_streetD_ok {cl : Nat → FM} {n0 n1 : Nat} (h0 : SIsSignD (cl n0)) (h1 : SIsInteger (cl n1)) : SIsStreetD (runF cl 4 (b_is_street n0 n1)) := by
  intro d h hd
  apply run_of
  cases d with
  | tup ds =>
    simp only [D.ok, Bool.and_eq_true, decide_eq_true_eq] at hd
    by_cases hl : ds.length = 2
    · match ds, hl, hd with
      | [p, t], _, hd =>
        simp only [D.okL, Bool.and_eq_true, and_true] at hd
        obtain ⟨_, kp, kt⟩ := hd
        have np := ok_noRef kp
        have nt := ok_noRef kt
        cases a1 : isInt p 1 4 with
        | false =>
          have e : isStreetD (.tup [p, t]) = false := by
            unfold isStreetD
            split
            · rename_i z; cases z; simp [a1]
            · rfl
          rw [e]
          simp (disch := first | assumption | omega | exact nr_int _ | exact nr_bl _ | exact nr_non | exact nr_str _ | exact nr_tup _ | exact nr_lst _ | solve_by_elim (maxDepth := 4)) [-getElem?_pos, -getElem?_neg, List.getElem?_cons_zero, List.getElem?_cons_succ, ↓ws_cons, ↓ws_frz, ↓ws_nil, KS_next, KS_ret, KS_exc, ↓ws_ite, wI_true, wI_false, wI_exc, ↓ws_loop, wL_ok, ↓ws_tr, KT_next, KT_ret, KT_exc, KF_next, KF_ret, KF_exc, KP_ret, KP_exc, ws_for_cons, ws_for_nil, wO_some, ws_some, wp_some, ↓ws_set, ↓ws_own, ↓ws_cell, ↓ws_unp, ↓ws_par, ↓ws_aug, ↓ws_app, ↓ws_ext, ↓ws_put, ↓ws_expr, ↓ws_retE, ↓ws_retN, ↓ws_pass, ↓ws_raise, szle, szlt, dle_t, dle_f, dlt_t, dlt_f, ibeq_t, ibeq_f, okR_of, isInt_yes, isInt_lo, isInt_hi, isInt_bl, isInt_non, isInt_str, isInt_tup, isInt_lst, nr_int, nr_bl, nr_str, nr_non, nr_tup, nr_lst, ↓compD_F, stepD, ↓compF_map, ↓compF_rng, compF_ret, compF_nil, compF_cons, ite_ok, ite_val, ite_bl, ite_int, fm_ite, fm_dec, rngD_len, st0, st1, see_st, see_sg, sg0, sg1, sg2, sg3, sg4, sg5, sg6, sg7, at_tup, at_lst, cut_tup, cut_lst, at0, at1, at2, at3, at4, at5, at6, at7, eq_non_non, eq_non_bl, eq_non_int, eq_non_str, eq_non_tup, eq_non_lst, eq_bl_non, eq_bl_bl, eq_bl_int, eq_bl_str, eq_bl_tup, eq_bl_lst, eq_int_non, eq_int_bl, eq_int_int, eq_int_str, eq_int_tup, eq_int_lst, eq_str_non, eq_str_bl, eq_str_int, eq_str_str, eq_str_tup, eq_str_lst, eq_tup_non, eq_tup_bl, eq_tup_int, eq_tup_str, eq_tup_tup, eq_tup_lst, eq_lst_non, eq_lst_bl, eq_lst_int, eq_lst_str, eq_lst_tup, eq_lst_lst, dep_non, dep_bl, dep_int, dep_str, dep_tup, dep_lst, deps_nil, deps_cons, it_lst, it_tup, natL_dep, see_natL, natL_items, sg_set, set_name, set_tup, see_noRef, patch_nil, patch_cons, ev, evs, evo, evc, evi, mSet, mRet, mDo, mUnp, mPar, mAug, mApp, mExt, mPut, mOwn, mCell, mFreeze, findH, bs, endOf, mArgs, mAnds, mOrs, mTAnds, mTOrs, mAnd, mOr, mNot, mTAnd, mTOr, mTNot, mTru, mIsB, mIf, mChain, mUn, mBin, mVar, mC, mCons, mNil, mTup, mLst, mCallB, mCall, mCut, mPart, mNoPart, mIter, mRng1_s, mRng2_s, mEnum, mZip, mComp, mYes, bx, notOwn, wipeO, startE, RV.sv, bd, ret, lift, RV.see, see_int, see_bl, see_str, see_non, see_tup, see_lst, see_ref, D.isi, BOp.g, COp.g, Bi.g, D.cmpI, D.add, D.sub, D.mul, D.fdiv, D.mod, D.neg, D.bLen, D.bAbs, D.bTuple, D.bList, D.bInt, allVal, setAll, D.truth, D.isNo, D.notNo, D.nonB, D.toInt, D.eqO, D.neO, D.inO, D.ninO, sz1, sz2, sz3, sz4, sz5, sz6, sz7, sz8, sz9, sz10, sz11, sz12, b_is_street, h1, a1]
        | true =>
          have hp := int_of a1
          generalize iv p = q at hp
          obtain ⟨rfl, q1, q4⟩ := hp
          cases t with
          | tup ss =>
            simp only [D.ok, Bool.and_eq_true, decide_eq_true_eq] at kt
            by_cases h6 : ss.length ≤ 6
            · have k6 : ¬ (6 : Int) < ss.length := by omega
              have kk := okL_mem kt.2
              cases a2 : ss.all (isSignD q) with
              | false =>
                have a3 : (ss.all fun d => isSignD q d) = false := a2
                simp (disch := first | assumption | omega | exact nr_int _ | exact nr_bl _ | exact nr_non | exact nr_str _ | exact nr_tup _ | exact nr_lst _ | solve_by_elim (maxDepth := 4)) [-getElem?_pos, -getElem?_neg, List.getElem?_cons_zero, List.getElem?_cons_succ, ↓ws_cons, ↓ws_frz, ↓ws_nil, KS_next, KS_ret, KS_exc, ↓ws_ite, wI_true, wI_false, wI_exc, ↓ws_loop, wL_ok, ↓ws_tr, KT_next, KT_ret, KT_exc, KF_next, KF_ret, KF_exc, KP_ret, KP_exc, ws_for_cons, ws_for_nil, wO_some, ws_some, wp_some, ↓ws_set, ↓ws_own, ↓ws_cell, ↓ws_unp, ↓ws_par, ↓ws_aug, ↓ws_app, ↓ws_ext, ↓ws_put, ↓ws_expr, ↓ws_retE, ↓ws_retN, ↓ws_pass, ↓ws_raise, szle, szlt, dle_t, dle_f, dlt_t, dlt_f, ibeq_t, ibeq_f, okR_of, isInt_yes, isInt_lo, isInt_hi, isInt_bl, isInt_non, isInt_str, isInt_tup, isInt_lst, nr_int, nr_bl, nr_str, nr_non, nr_tup, nr_lst, ↓compD_F, stepD, ↓compF_map, ↓compF_rng, compF_ret, compF_nil, compF_cons, ite_ok, ite_val, ite_bl, ite_int, fm_ite, fm_dec, rngD_len, st0, st1, see_st, see_sg, sg0, sg1, sg2, sg3, sg4, sg5, sg6, sg7, at_tup, at_lst, cut_tup, cut_lst, at0, at1, at2, at3, at4, at5, at6, at7, eq_non_non, eq_non_bl, eq_non_int, eq_non_str, eq_non_tup, eq_non_lst, eq_bl_non, eq_bl_bl, eq_bl_int, eq_bl_str, eq_bl_tup, eq_bl_lst, eq_int_non, eq_int_bl, eq_int_int, eq_int_str, eq_int_tup, eq_int_lst, eq_str_non, eq_str_bl, eq_str_int, eq_str_str, eq_str_tup, eq_str_lst, eq_tup_non, eq_tup_bl, eq_tup_int, eq_tup_str, eq_tup_tup, eq_tup_lst, eq_lst_non, eq_lst_bl, eq_lst_int, eq_lst_str, eq_lst_tup, eq_lst_lst, dep_non, dep_bl, dep_int, dep_str, dep_tup, dep_lst, deps_nil, deps_cons, it_lst, it_tup, natL_dep, see_natL, natL_items, sg_set, set_name, set_tup, see_noRef, patch_nil, patch_cons, ev, evs, evo, evc, evi, mSet, mRet, mDo, mUnp, mPar, mAug, mApp, mExt, mPut, mOwn, mCell, mFreeze, findH, bs, endOf, mArgs, mAnds, mOrs, mTAnds, mTOrs, mAnd, mOr, mNot, mTAnd, mTOr, mTNot, mTru, mIsB, mIf, mChain, mUn, mBin, mVar, mC, mCons, mNil, mTup, mLst, mCallB, mCall, mCut, mPart, mNoPart, mIter, mRng1_s, mRng2_s, mEnum, mZip, mComp, mYes, bx, notOwn, wipeO, startE, RV.sv, bd, ret, lift, RV.see, see_int, see_bl, see_str, see_non, see_tup, see_lst, see_ref, D.isi, BOp.g, COp.g, Bi.g, D.cmpI, D.add, D.sub, D.mul, D.fdiv, D.mod, D.neg, D.bLen, D.bAbs, D.bTuple, D.bList, D.bInt, allVal, setAll, D.truth, D.isNo, D.notNo, D.nonB, D.toInt, D.eqO, D.neO, D.inO, D.ninO, sz1, sz2, sz3, sz4, sz5, sz6, sz7, sz8, sz9, sz10, sz11, sz12, b_is_street, h1, a1, isStreetD, iv, h6, k6, a2]
                rw [compF_ok fun d => some (.bl (isSignD q d))]
                · simp (disch := first | assumption | omega | exact nr_int _ | exact nr_bl _ | exact nr_non | exact nr_str _ | exact nr_tup _ | exact nr_lst _ | solve_by_elim (maxDepth := 4)) [-getElem?_pos, -getElem?_neg, List.getElem?_cons_zero, List.getElem?_cons_succ, ↓ws_cons, ↓ws_frz, ↓ws_nil, KS_next, KS_ret, KS_exc, ↓ws_ite, wI_true, wI_false, wI_exc, ↓ws_loop, wL_ok, ↓ws_tr, KT_next, KT_ret, KT_exc, KF_next, KF_ret, KF_exc, KP_ret, KP_exc, ws_for_cons, ws_for_nil, wO_some, ws_some, wp_some, ↓ws_set, ↓ws_own, ↓ws_cell, ↓ws_unp, ↓ws_par, ↓ws_aug, ↓ws_app, ↓ws_ext, ↓ws_put, ↓ws_expr, ↓ws_retE, ↓ws_retN, ↓ws_pass, ↓ws_raise, szle, szlt, dle_t, dle_f, dlt_t, dlt_f, ibeq_t, ibeq_f, okR_of, isInt_yes, isInt_lo, isInt_hi, isInt_bl, isInt_non, isInt_str, isInt_tup, isInt_lst, nr_int, nr_bl, nr_str, nr_non, nr_tup, nr_lst, ↓compD_F, stepD, ↓compF_map, ↓compF_rng, compF_ret, compF_nil, compF_cons, ite_ok, ite_val, ite_bl, ite_int, fm_ite, fm_dec, rngD_len, st0, st1, see_st, see_sg, sg0, sg1, sg2, sg3, sg4, sg5, sg6, sg7, at_tup, at_lst, cut_tup, cut_lst, at0, at1, at2, at3, at4, at5, at6, at7, eq_non_non, eq_non_bl, eq_non_int, eq_non_str, eq_non_tup, eq_non_lst, eq_bl_non, eq_bl_bl, eq_bl_int, eq_bl_str, eq_bl_tup, eq_bl_lst, eq_int_non, eq_int_bl, eq_int_int, eq_int_str, eq_int_tup, eq_int_lst, eq_str_non, eq_str_bl, eq_str_int, eq_str_str, eq_str_tup, eq_str_lst, eq_tup_non, eq_tup_bl, eq_tup_int, eq_tup_str, eq_tup_tup, eq_tup_lst, eq_lst_non, eq_lst_bl, eq_lst_int, eq_lst_str, eq_lst_tup, eq_lst_lst, dep_non, dep_bl, dep_int, dep_str, dep_tup, dep_lst, deps_nil, deps_cons, it_lst, it_tup, natL_dep, see_natL, natL_items, sg_set, set_name, set_tup, see_noRef, patch_nil, patch_cons, ev, evs, evo, evc, evi, mSet, mRet, mDo, mUnp, mPar, mAug, mApp, mExt, mPut, mOwn, mCell, mFreeze, findH, bs, endOf, mArgs, mAnds, mOrs, mTAnds, mTOrs, mAnd, mOr, mNot, mTAnd, mTOr, mTNot, mTru, mIsB, mIf, mChain, mUn, mBin, mVar, mC, mCons, mNil, mTup, mLst, mCallB, mCall, mCut, mPart, mNoPart, mIter, mRng1_s, mRng2_s, mEnum, mZip, mComp, mYes, bx, notOwn, wipeO, startE, RV.sv, bd, ret, lift, RV.see, see_int, see_bl, see_str, see_non, see_tup, see_lst, see_ref, D.isi, BOp.g, COp.g, Bi.g, D.cmpI, D.add, D.sub, D.mul, D.fdiv, D.mod, D.neg, D.bLen, D.bAbs, D.bTuple, D.bList, D.bInt, allVal, setAll, D.truth, D.isNo, D.notNo, D.nonB, D.toInt, D.eqO, D.neO, D.inO, D.ninO, sz1, sz2, sz3, sz4, sz5, sz6, sz7, sz8, sz9, sz10, sz11, sz12, all_of, a3]
                · intro d hd h
                  simp [h0 q d h (kk d hd)]
              | true =>
                have a3 : (ss.all fun d => isSignD q d) = true := a2
                obtain ⟨l, rfl, hl⟩ := signs_of a2
                have e : D.lenSet (.tup (l.map Sg.d)) = some (.int (nubK (l.map Sg.k)).length) := by
                  have dp := depth_sgs l
                  have ht : (l.map Sg.d).all D.isT = true := by
                    rw [List.all_eq_true]
                    intro d hd
                    obtain ⟨s, _, rfl⟩ := List.mem_map.mp hd
                    rfl
                  rw [List.length_map] at h6
                  simp only [D.lenSet, keyL_sgs]
                  rw [if_pos ⟨by rw [List.length_map]; omega, by omega, ht⟩]
                have ee : ((nubK (l.map Sg.k)).length = l.length) = (((nubK (l.map Sg.k)).length : Int) = (l.length : Int)) := by
                  apply propext; omega
                rw [List.length_map] at h6 k6
                have kk2 : ∀ s ∈ l, s.d.ok = true := fun s hs => sg_ok (hl s hs)
                rw [List.all_map] at a3
                have a4 : (l.all fun s => isSignD q s.d) = true := a3
                simp (disch := first | assumption | omega | exact nr_int _ | exact nr_bl _ | exact nr_non | exact nr_str _ | exact nr_tup _ | exact nr_lst _ | solve_by_elim (maxDepth := 4)) [-getElem?_pos, -getElem?_neg, List.getElem?_cons_zero, List.getElem?_cons_succ, ↓ws_cons, ↓ws_frz, ↓ws_nil, KS_next, KS_ret, KS_exc, ↓ws_ite, wI_true, wI_false, wI_exc, ↓ws_loop, wL_ok, ↓ws_tr, KT_next, KT_ret, KT_exc, KF_next, KF_ret, KF_exc, KP_ret, KP_exc, ws_for_cons, ws_for_nil, wO_some, ws_some, wp_some, ↓ws_set, ↓ws_own, ↓ws_cell, ↓ws_unp, ↓ws_par, ↓ws_aug, ↓ws_app, ↓ws_ext, ↓ws_put, ↓ws_expr, ↓ws_retE, ↓ws_retN, ↓ws_pass, ↓ws_raise, szle, szlt, dle_t, dle_f, dlt_t, dlt_f, ibeq_t, ibeq_f, okR_of, isInt_yes, isInt_lo, isInt_hi, isInt_bl, isInt_non, isInt_str, isInt_tup, isInt_lst, nr_int, nr_bl, nr_str, nr_non, nr_tup, nr_lst, ↓compD_F, stepD, ↓compF_map, ↓compF_rng, compF_ret, compF_nil, compF_cons, ite_ok, ite_val, ite_bl, ite_int, fm_ite, fm_dec, rngD_len, st0, st1, see_st, see_sg, sg0, sg1, sg2, sg3, sg4, sg5, sg6, sg7, at_tup, at_lst, cut_tup, cut_lst, at0, at1, at2, at3, at4, at5, at6, at7, eq_non_non, eq_non_bl, eq_non_int, eq_non_str, eq_non_tup, eq_non_lst, eq_bl_non, eq_bl_bl, eq_bl_int, eq_bl_str, eq_bl_tup, eq_bl_lst, eq_int_non, eq_int_bl, eq_int_int, eq_int_str, eq_int_tup, eq_int_lst, eq_str_non, eq_str_bl, eq_str_int, eq_str_str, eq_str_tup, eq_str_lst, eq_tup_non, eq_tup_bl, eq_tup_int, eq_tup_str, eq_tup_tup, eq_tup_lst, eq_lst_non, eq_lst_bl, eq_lst_int, eq_lst_str, eq_lst_tup, eq_lst_lst, dep_non, dep_bl, dep_int, dep_str, dep_tup, dep_lst, deps_nil, deps_cons, it_lst, it_tup, natL_dep, see_natL, natL_items, sg_set, set_name, set_tup, see_noRef, patch_nil, patch_cons, ev, evs, evo, evc, evi, mSet, mRet, mDo, mUnp, mPar, mAug, mApp, mExt, mPut, mOwn, mCell, mFreeze, findH, bs, endOf, mArgs, mAnds, mOrs, mTAnds, mTOrs, mAnd, mOr, mNot, mTAnd, mTOr, mTNot, mTru, mIsB, mIf, mChain, mUn, mBin, mVar, mC, mCons, mNil, mTup, mLst, mCallB, mCall, mCut, mPart, mNoPart, mIter, mRng1_s, mRng2_s, mEnum, mZip, mComp, mYes, bx, notOwn, wipeO, startE, RV.sv, bd, ret, lift, RV.see, see_int, see_bl, see_str, see_non, see_tup, see_lst, see_ref, D.isi, BOp.g, COp.g, Bi.g, D.cmpI, D.add, D.sub, D.mul, D.fdiv, D.mod, D.neg, D.bLen, D.bAbs, D.bTuple, D.bList, D.bInt, allVal, setAll, D.truth, D.isNo, D.notNo, D.nonB, D.toInt, D.eqO, D.neO, D.inO, D.ninO, sz1, sz2, sz3, sz4, sz5, sz6, sz7, sz8, sz9, sz10, sz11, sz12, b_is_street, h1, a1, isStreetD, iv, h6, k6, keys_sgs, a2]
                rw [compF_ok fun s => some (.bl (isSignD q (Sg.d s)))]
                · simp (disch := first | assumption | omega | exact nr_int _ | exact nr_bl _ | exact nr_non | exact nr_str _ | exact nr_tup _ | exact nr_lst _ | solve_by_elim (maxDepth := 4)) [-getElem?_pos, -getElem?_neg, List.getElem?_cons_zero, List.getElem?_cons_succ, ↓ws_cons, ↓ws_frz, ↓ws_nil, KS_next, KS_ret, KS_exc, ↓ws_ite, wI_true, wI_false, wI_exc, ↓ws_loop, wL_ok, ↓ws_tr, KT_next, KT_ret, KT_exc, KF_next, KF_ret, KF_exc, KP_ret, KP_exc, ws_for_cons, ws_for_nil, wO_some, ws_some, wp_some, ↓ws_set, ↓ws_own, ↓ws_cell, ↓ws_unp, ↓ws_par, ↓ws_aug, ↓ws_app, ↓ws_ext, ↓ws_put, ↓ws_expr, ↓ws_retE, ↓ws_retN, ↓ws_pass, ↓ws_raise, szle, szlt, dle_t, dle_f, dlt_t, dlt_f, ibeq_t, ibeq_f, okR_of, isInt_yes, isInt_lo, isInt_hi, isInt_bl, isInt_non, isInt_str, isInt_tup, isInt_lst, nr_int, nr_bl, nr_str, nr_non, nr_tup, nr_lst, ↓compD_F, stepD, ↓compF_map, ↓compF_rng, compF_ret, compF_nil, compF_cons, ite_ok, ite_val, ite_bl, ite_int, fm_ite, fm_dec, rngD_len, st0, st1, see_st, see_sg, sg0, sg1, sg2, sg3, sg4, sg5, sg6, sg7, at_tup, at_lst, cut_tup, cut_lst, at0, at1, at2, at3, at4, at5, at6, at7, eq_non_non, eq_non_bl, eq_non_int, eq_non_str, eq_non_tup, eq_non_lst, eq_bl_non, eq_bl_bl, eq_bl_int, eq_bl_str, eq_bl_tup, eq_bl_lst, eq_int_non, eq_int_bl, eq_int_int, eq_int_str, eq_int_tup, eq_int_lst, eq_str_non, eq_str_bl, eq_str_int, eq_str_str, eq_str_tup, eq_str_lst, eq_tup_non, eq_tup_bl, eq_tup_int, eq_tup_str, eq_tup_tup, eq_tup_lst, eq_lst_non, eq_lst_bl, eq_lst_int, eq_lst_str, eq_lst_tup, eq_lst_lst, dep_non, dep_bl, dep_int, dep_str, dep_tup, dep_lst, deps_nil, deps_cons, it_lst, it_tup, natL_dep, see_natL, natL_items, sg_set, set_name, set_tup, see_noRef, patch_nil, patch_cons, ev, evs, evo, evc, evi, mSet, mRet, mDo, mUnp, mPar, mAug, mApp, mExt, mPut, mOwn, mCell, mFreeze, findH, bs, endOf, mArgs, mAnds, mOrs, mTAnds, mTOrs, mAnd, mOr, mNot, mTAnd, mTOr, mTNot, mTru, mIsB, mIf, mChain, mUn, mBin, mVar, mC, mCons, mNil, mTup, mLst, mCallB, mCall, mCut, mPart, mNoPart, mIter, mRng1_s, mRng2_s, mEnum, mZip, mComp, mYes, bx, notOwn, wipeO, startE, RV.sv, bd, ret, lift, RV.see, see_int, see_bl, see_str, see_non, see_tup, see_lst, see_ref, D.isi, BOp.g, COp.g, Bi.g, D.cmpI, D.add, D.sub, D.mul, D.fdiv, D.mod, D.neg, D.bLen, D.bAbs, D.bTuple, D.bList, D.bInt, allVal, setAll, D.truth, D.isNo, D.notNo, D.nonB, D.toInt, D.eqO, D.neO, D.inO, D.ninO, sz1, sz2, sz3, sz4, sz5, sz6, sz7, sz8, sz9, sz10, sz11, sz12, all_of, a4, e, ee]
                  rw [Bool.eq_iff_iff]
                  simp
                · intro s hs h
                  simp [h0 q s.d h (kk2 s hs)]
            · have k6 : (6 : Int) < ss.length := by omega
              simp (disch := first | assumption | omega | exact nr_int _ | exact nr_bl _ | exact nr_non | exact nr_str _ | exact nr_tup _ | exact nr_lst _ | solve_by_elim (maxDepth := 4)) [-getElem?_pos, -getElem?_neg, List.getElem?_cons_zero, List.getElem?_cons_succ, ↓ws_cons, ↓ws_frz, ↓ws_nil, KS_next, KS_ret, KS_exc, ↓ws_ite, wI_true, wI_false, wI_exc, ↓ws_loop, wL_ok, ↓ws_tr, KT_next, KT_ret, KT_exc, KF_next, KF_ret, KF_exc, KP_ret, KP_exc, ws_for_cons, ws_for_nil, wO_some, ws_some, wp_some, ↓ws_set, ↓ws_own, ↓ws_cell, ↓ws_unp, ↓ws_par, ↓ws_aug, ↓ws_app, ↓ws_ext, ↓ws_put, ↓ws_expr, ↓ws_retE, ↓ws_retN, ↓ws_pass, ↓ws_raise, szle, szlt, dle_t, dle_f, dlt_t, dlt_f, ibeq_t, ibeq_f, okR_of, isInt_yes, isInt_lo, isInt_hi, isInt_bl, isInt_non, isInt_str, isInt_tup, isInt_lst, nr_int, nr_bl, nr_str, nr_non, nr_tup, nr_lst, ↓compD_F, stepD, ↓compF_map, ↓compF_rng, compF_ret, compF_nil, compF_cons, ite_ok, ite_val, ite_bl, ite_int, fm_ite, fm_dec, rngD_len, st0, st1, see_st, see_sg, sg0, sg1, sg2, sg3, sg4, sg5, sg6, sg7, at_tup, at_lst, cut_tup, cut_lst, at0, at1, at2, at3, at4, at5, at6, at7, eq_non_non, eq_non_bl, eq_non_int, eq_non_str, eq_non_tup, eq_non_lst, eq_bl_non, eq_bl_bl, eq_bl_int, eq_bl_str, eq_bl_tup, eq_bl_lst, eq_int_non, eq_int_bl, eq_int_int, eq_int_str, eq_int_tup, eq_int_lst, eq_str_non, eq_str_bl, eq_str_int, eq_str_str, eq_str_tup, eq_str_lst, eq_tup_non, eq_tup_bl, eq_tup_int, eq_tup_str, eq_tup_tup, eq_tup_lst, eq_lst_non, eq_lst_bl, eq_lst_int, eq_lst_str, eq_lst_tup, eq_lst_lst, dep_non, dep_bl, dep_int, dep_str, dep_tup, dep_lst, deps_nil, deps_cons, it_lst, it_tup, natL_dep, see_natL, natL_items, sg_set, set_name, set_tup, see_noRef, patch_nil, patch_cons, ev, evs, evo, evc, evi, mSet, mRet, mDo, mUnp, mPar, mAug, mApp, mExt, mPut, mOwn, mCell, mFreeze, findH, bs, endOf, mArgs, mAnds, mOrs, mTAnds, mTOrs, mAnd, mOr, mNot, mTAnd, mTOr, mTNot, mTru, mIsB, mIf, mChain, mUn, mBin, mVar, mC, mCons, mNil, mTup, mLst, mCallB, mCall, mCut, mPart, mNoPart, mIter, mRng1_s, mRng2_s, mEnum, mZip, mComp, mYes, bx, notOwn, wipeO, startE, RV.sv, bd, ret, lift, RV.see, see_int, see_bl, see_str, see_non, see_tup, see_lst, see_ref, D.isi, BOp.g, COp.g, Bi.g, D.cmpI, D.add, D.sub, D.mul, D.fdiv, D.mod, D.neg, D.bLen, D.bAbs, D.bTuple, D.bList, D.bInt, allVal, setAll, D.truth, D.isNo, D.notNo, D.nonB, D.toInt, D.eqO, D.neO, D.inO, D.ninO, sz1, sz2, sz3, sz4, sz5, sz6, sz7, sz8, sz9, sz10, sz11, sz12, b_is_street, h0, h1, a1, isStreetD, iv, h6, k6]
          | ref r => simp [D.ok] at kt
          | _ => simp (disch := first | assumption | omega | exact nr_int _ | exact nr_bl _ | exact nr_non | exact nr_str _ | exact nr_tup _ | exact nr_lst _ | solve_by_elim (maxDepth := 4)) [-getElem?_pos, -getElem?_neg, List.getElem?_cons_zero, List.getElem?_cons_succ, ↓ws_cons, ↓ws_frz, ↓ws_nil, KS_next, KS_ret, KS_exc, ↓ws_ite, wI_true, wI_false, wI_exc, ↓ws_loop, wL_ok, ↓ws_tr, KT_next, KT_ret, KT_exc, KF_next, KF_ret, KF_exc, KP_ret, KP_exc, ws_for_cons, ws_for_nil, wO_some, ws_some, wp_some, ↓ws_set, ↓ws_own, ↓ws_cell, ↓ws_unp, ↓ws_par, ↓ws_aug, ↓ws_app, ↓ws_ext, ↓ws_put, ↓ws_expr, ↓ws_retE, ↓ws_retN, ↓ws_pass, ↓ws_raise, szle, szlt, dle_t, dle_f, dlt_t, dlt_f, ibeq_t, ibeq_f, okR_of, isInt_yes, isInt_lo, isInt_hi, isInt_bl, isInt_non, isInt_str, isInt_tup, isInt_lst, nr_int, nr_bl, nr_str, nr_non, nr_tup, nr_lst, ↓compD_F, stepD, ↓compF_map, ↓compF_rng, compF_ret, compF_nil, compF_cons, ite_ok, ite_val, ite_bl, ite_int, fm_ite, fm_dec, rngD_len, st0, st1, see_st, see_sg, sg0, sg1, sg2, sg3, sg4, sg5, sg6, sg7, at_tup, at_lst, cut_tup, cut_lst, at0, at1, at2, at3, at4, at5, at6, at7, eq_non_non, eq_non_bl, eq_non_int, eq_non_str, eq_non_tup, eq_non_lst, eq_bl_non, eq_bl_bl, eq_bl_int, eq_bl_str, eq_bl_tup, eq_bl_lst, eq_int_non, eq_int_bl, eq_int_int, eq_int_str, eq_int_tup, eq_int_lst, eq_str_non, eq_str_bl, eq_str_int, eq_str_str, eq_str_tup, eq_str_lst, eq_tup_non, eq_tup_bl, eq_tup_int, eq_tup_str, eq_tup_tup, eq_tup_lst, eq_lst_non, eq_lst_bl, eq_lst_int, eq_lst_str, eq_lst_tup, eq_lst_lst, dep_non, dep_bl, dep_int, dep_str, dep_tup, dep_lst, deps_nil, deps_cons, it_lst, it_tup, natL_dep, see_natL, natL_items, sg_set, set_name, set_tup, see_noRef, patch_nil, patch_cons, ev, evs, evo, evc, evi, mSet, mRet, mDo, mUnp, mPar, mAug, mApp, mExt, mPut, mOwn, mCell, mFreeze, findH, bs, endOf, mArgs, mAnds, mOrs, mTAnds, mTOrs, mAnd, mOr, mNot, mTAnd, mTOr, mTNot, mTru, mIsB, mIf, mChain, mUn, mBin, mVar, mC, mCons, mNil, mTup, mLst, mCallB, mCall, mCut, mPart, mNoPart, mIter, mRng1_s, mRng2_s, mEnum, mZip, mComp, mYes, bx, notOwn, wipeO, startE, RV.sv, bd, ret, lift, RV.see, see_int, see_bl, see_str, see_non, see_tup, see_lst, see_ref, D.isi, BOp.g, COp.g, Bi.g, D.cmpI, D.add, D.sub, D.mul, D.fdiv, D.mod, D.neg, D.bLen, D.bAbs, D.bTuple, D.bList, D.bInt, allVal, setAll, D.truth, D.isNo, D.notNo, D.nonB, D.toInt, D.eqO, D.neO, D.inO, D.ninO, sz1, sz2, sz3, sz4, sz5, sz6, sz7, sz8, sz9, sz10, sz11, sz12, b_is_street, h1, a1, isStreetD]
    · have e : isStreetD (.tup ds) = false := by
        unfold isStreetD
        split
        · rename_i z
          cases z
          exact absurd rfl hl
        · rfl
      rw [e]
      have hl2 : ¬ (ds.length : Int) = 2 := by omega
      simp (disch := first | assumption | omega | exact nr_int _ | exact nr_bl _ | exact nr_non | exact nr_str _ | exact nr_tup _ | exact nr_lst _ | solve_by_elim (maxDepth := 4)) [-getElem?_pos, -getElem?_neg, List.getElem?_cons_zero, List.getElem?_cons_succ, ↓ws_cons, ↓ws_frz, ↓ws_nil, KS_next, KS_ret, KS_exc, ↓ws_ite, wI_true, wI_false, wI_exc, ↓ws_loop, wL_ok, ↓ws_tr, KT_next, KT_ret, KT_exc, KF_next, KF_ret, KF_exc, KP_ret, KP_exc, ws_for_cons, ws_for_nil, wO_some, ws_some, wp_some, ↓ws_set, ↓ws_own, ↓ws_cell, ↓ws_unp, ↓ws_par, ↓ws_aug, ↓ws_app, ↓ws_ext, ↓ws_put, ↓ws_expr, ↓ws_retE, ↓ws_retN, ↓ws_pass, ↓ws_raise, szle, szlt, dle_t, dle_f, dlt_t, dlt_f, ibeq_t, ibeq_f, okR_of, isInt_yes, isInt_lo, isInt_hi, isInt_bl, isInt_non, isInt_str, isInt_tup, isInt_lst, nr_int, nr_bl, nr_str, nr_non, nr_tup, nr_lst, ↓compD_F, stepD, ↓compF_map, ↓compF_rng, compF_ret, compF_nil, compF_cons, ite_ok, ite_val, ite_bl, ite_int, fm_ite, fm_dec, rngD_len, st0, st1, see_st, see_sg, sg0, sg1, sg2, sg3, sg4, sg5, sg6, sg7, at_tup, at_lst, cut_tup, cut_lst, at0, at1, at2, at3, at4, at5, at6, at7, eq_non_non, eq_non_bl, eq_non_int, eq_non_str, eq_non_tup, eq_non_lst, eq_bl_non, eq_bl_bl, eq_bl_int, eq_bl_str, eq_bl_tup, eq_bl_lst, eq_int_non, eq_int_bl, eq_int_int, eq_int_str, eq_int_tup, eq_int_lst, eq_str_non, eq_str_bl, eq_str_int, eq_str_str, eq_str_tup, eq_str_lst, eq_tup_non, eq_tup_bl, eq_tup_int, eq_tup_str, eq_tup_tup, eq_tup_lst, eq_lst_non, eq_lst_bl, eq_lst_int, eq_lst_str, eq_lst_tup, eq_lst_lst, dep_non, dep_bl, dep_int, dep_str, dep_tup, dep_lst, deps_nil, deps_cons, it_lst, it_tup, natL_dep, see_natL, natL_items, sg_set, set_name, set_tup, see_noRef, patch_nil, patch_cons, ev, evs, evo, evc, evi, mSet, mRet, mDo, mUnp, mPar, mAug, mApp, mExt, mPut, mOwn, mCell, mFreeze, findH, bs, endOf, mArgs, mAnds, mOrs, mTAnds, mTOrs, mAnd, mOr, mNot, mTAnd, mTOr, mTNot, mTru, mIsB, mIf, mChain, mUn, mBin, mVar, mC, mCons, mNil, mTup, mLst, mCallB, mCall, mCut, mPart, mNoPart, mIter, mRng1_s, mRng2_s, mEnum, mZip, mComp, mYes, bx, notOwn, wipeO, startE, RV.sv, bd, ret, lift, RV.see, see_int, see_bl, see_str, see_non, see_tup, see_lst, see_ref, D.isi, BOp.g, COp.g, Bi.g, D.cmpI, D.add, D.sub, D.mul, D.fdiv, D.mod, D.neg, D.bLen, D.bAbs, D.bTuple, D.bList, D.bInt, allVal, setAll, D.truth, D.isNo, D.notNo, D.nonB, D.toInt, D.eqO, D.neO, D.inO, D.ninO, sz1, sz2, sz3, sz4, sz5, sz6, sz7, sz8, sz9, sz10, sz11, sz12, b_is_street, hl, hl2]
  | ref r => simp [D.ok] at hd
  | _ => simp (disch := first | assumption | omega | exact nr_int _ | exact nr_bl _ | exact nr_non | exact nr_str _ | exact nr_tup _ | exact nr_lst _ | solve_by_elim (maxDepth := 4)) [-getElem?_pos, -getElem?_neg, List.getElem?_cons_zero, List.getElem?_cons_succ, ↓ws_cons, ↓ws_frz, ↓ws_nil, KS_next, KS_ret, KS_exc, ↓ws_ite, wI_true, wI_false, wI_exc, ↓ws_loop, wL_ok, ↓ws_tr, KT_next, KT_ret, KT_exc, KF_next, KF_ret, KF_exc, KP_ret, KP_exc, ws_for_cons, ws_for_nil, wO_some, ws_some, wp_some, ↓ws_set, ↓ws_own, ↓ws_cell, ↓ws_unp, ↓ws_par, ↓ws_aug, ↓ws_app, ↓ws_ext, ↓ws_put, ↓ws_expr, ↓ws_retE, ↓ws_retN, ↓ws_pass, ↓ws_raise, szle, szlt, dle_t, dle_f, dlt_t, dlt_f, ibeq_t, ibeq_f, okR_of, isInt_yes, isInt_lo, isInt_hi, isInt_bl, isInt_non, isInt_str, isInt_tup, isInt_lst, nr_int, nr_bl, nr_str, nr_non, nr_tup, nr_lst, ↓compD_F, stepD, ↓compF_map, ↓compF_rng, compF_ret, compF_nil, compF_cons, ite_ok, ite_val, ite_bl, ite_int, fm_ite, fm_dec, rngD_len, st0, st1, see_st, see_sg, sg0, sg1, sg2, sg3, sg4, sg5, sg6, sg7, at_tup, at_lst, cut_tup, cut_lst, at0, at1, at2, at3, at4, at5, at6, at7, eq_non_non, eq_non_bl, eq_non_int, eq_non_str, eq_non_tup, eq_non_lst, eq_bl_non, eq_bl_bl, eq_bl_int, eq_bl_str, eq_bl_tup, eq_bl_lst, eq_int_non, eq_int_bl, eq_int_int, eq_int_str, eq_int_tup, eq_int_lst, eq_str_non, eq_str_bl, eq_str_int, eq_str_str, eq_str_tup, eq_str_lst, eq_tup_non, eq_tup_bl, eq_tup_int, eq_tup_str, eq_tup_tup, eq_tup_lst, eq_lst_non, eq_lst_bl, eq_lst_int, eq_lst_str, eq_lst_tup, eq_lst_lst, dep_non, dep_bl, dep_int, dep_str, dep_tup, dep_lst, deps_nil, deps_cons, it_lst, it_tup, natL_dep, see_natL, natL_items, sg_set, set_name, set_tup, see_noRef, patch_nil, patch_cons, ev, evs, evo, evc, evi, mSet, mRet, mDo, mUnp, mPar, mAug, mApp, mExt, mPut, mOwn, mCell, mFreeze, findH, bs, endOf, mArgs, mAnds, mOrs, mTAnds, mTOrs, mAnd, mOr, mNot, mTAnd, mTOr, mTNot, mTru, mIsB, mIf, mChain, mUn, mBin, mVar, mC, mCons, mNil, mTup, mLst, mCallB, mCall, mCut, mPart, mNoPart, mIter, mRng1_s, mRng2_s, mEnum, mZip, mComp, mYes, bx, notOwn, wipeO, startE, RV.sv, bd, ret, lift, RV.see, see_int, see_bl, see_str, see_non, see_tup, see_lst, see_ref, D.isi, BOp.g, COp.g, Bi.g, D.cmpI, D.add, D.sub, D.mul, D.fdiv, D.mod, D.neg, D.bLen, D.bAbs, D.bTuple, D.bList, D.bInt, allVal, setAll, D.truth, D.isNo, D.notNo, D.nonB, D.toInt, D.eqO, D.neO, D.inO, D.ninO, sz1, sz2, sz3, sz4, sz5, sz6, sz7, sz8, sz9, sz10, sz11, sz12, b_is_street, isStreetD]
end Kb
namespace Kb
open PySem L2
/-! ### what is required -/
abbrev SReqStreetD (x : Nat) (F : FM) : Prop := ∀ (d : D) h, d.ok = true → F [.val d] h = if isStreetD d = true then some (.ok .non h) else some (.exc x h)
theorem require_streetD_ok {cl : Nat → FM} {n0 x : Nat} (h0 : SIsStreetD (cl n0)) : SReqStreetD x (runF cl 1 (b_require_street n0 x)) := by
  intro d h hd
  apply run_of
  cases e : isStreetD d <;> simp (disch := first | assumption | omega | exact nr_int _ | exact nr_bl _ | exact nr_non | exact nr_str _ | exact nr_tup _ | exact nr_lst _ | solve_by_elim (maxDepth := 4)) [-getElem?_pos, -getElem?_neg, List.getElem?_cons_zero, List.getElem?_cons_succ, ↓ws_cons, ↓ws_frz, ↓ws_nil, KS_next, KS_ret, KS_exc, ↓ws_ite, wI_true, wI_false, wI_exc, ↓ws_loop, wL_ok, ↓ws_tr, KT_next, KT_ret, KT_exc, KF_next, KF_ret, KF_exc, KP_ret, KP_exc, ws_for_cons, ws_for_nil, wO_some, ws_some, wp_some, ↓ws_set, ↓ws_own, ↓ws_cell, ↓ws_unp, ↓ws_par, ↓ws_aug, ↓ws_app, ↓ws_ext, ↓ws_put, ↓ws_expr, ↓ws_retE, ↓ws_retN, ↓ws_pass, ↓ws_raise, szle, szlt, dle_t, dle_f, dlt_t, dlt_f, ibeq_t, ibeq_f, okR_of, isInt_yes, isInt_lo, isInt_hi, isInt_bl, isInt_non, isInt_str, isInt_tup, isInt_lst, nr_int, nr_bl, nr_str, nr_non, nr_tup, nr_lst, ↓compD_F, stepD, ↓compF_map, ↓compF_rng, compF_ret, compF_nil, compF_cons, ite_ok, ite_val, ite_bl, ite_int, fm_ite, fm_dec, rngD_len, st0, st1, see_st, see_sg, sg0, sg1, sg2, sg3, sg4, sg5, sg6, sg7, at_tup, at_lst, cut_tup, cut_lst, at0, at1, at2, at3, at4, at5, at6, at7, eq_non_non, eq_non_bl, eq_non_int, eq_non_str, eq_non_tup, eq_non_lst, eq_bl_non, eq_bl_bl, eq_bl_int, eq_bl_str, eq_bl_tup, eq_bl_lst, eq_int_non, eq_int_bl, eq_int_int, eq_int_str, eq_int_tup, eq_int_lst, eq_str_non, eq_str_bl, eq_str_int, eq_str_str, eq_str_tup, eq_str_lst, eq_tup_non, eq_tup_bl, eq_tup_int, eq_tup_str, eq_tup_tup, eq_tup_lst, eq_lst_non, eq_lst_bl, eq_lst_int, eq_lst_str, eq_lst_tup, eq_lst_lst, dep_non, dep_bl, dep_int, dep_str, dep_tup, dep_lst, deps_nil, deps_cons, it_lst, it_tup, natL_dep, see_natL, natL_items, sg_set, set_name, set_tup, see_noRef, patch_nil, patch_cons, ev, evs, evo, evc, evi, mSet, mRet, mDo, mUnp, mPar, mAug, mApp, mExt, mPut, mOwn, mCell, mFreeze, findH, bs, endOf, mArgs, mAnds, mOrs, mTAnds, mTOrs, mAnd, mOr, mNot, mTAnd, mTOr, mTNot, mTru, mIsB, mIf, mChain, mUn, mBin, mVar, mC, mCons, mNil, mTup, mLst, mCallB, mCall, mCut, mPart, mNoPart, mIter, mRng1_s, mRng2_s, mEnum, mZip, mComp, mYes, bx, notOwn, wipeO, startE, RV.sv, bd, ret, lift, RV.see, see_int, see_bl, see_str, see_non, see_tup, see_lst, see_ref, D.isi, BOp.g, COp.g, Bi.g, D.cmpI, D.add, D.sub, D.mul, D.fdiv, D.mod, D.neg, D.bLen, D.bAbs, D.bTuple, D.bList, D.bInt, allVal, setAll, D.truth, D.isNo, D.notNo, D.nonB, D.toInt, D.eqO, D.neO, D.inO, D.ninO, sz1, sz2, sz3, sz4, sz5, sz6, sz7, sz8, sz9, sz10, sz11, sz12, b_require_street, h0, e, ok_noRef hd]
abbrev SReqInt (a b : Int) (x : Nat) (F : FM) : Prop := ∀ (d : D) h, d.noRef = true → F [.val d] h = if isInt d a b = true then some (.ok .non h) else some (.exc x h)
theorem require_hourD_ok {cl : Nat → FM} {n0 x : Nat} (h0 : SIsInteger (cl n0)) : SReqInt 0 167 x (runF cl 1 (b_require_hour n0 x)) := by
  intro d h hd
  apply run_of
  cases e : isInt d 0 167 <;> simp (disch := first | assumption | omega | exact nr_int _ | exact nr_bl _ | exact nr_non | exact nr_str _ | exact nr_tup _ | exact nr_lst _ | solve_by_elim (maxDepth := 4)) [-getElem?_pos, -getElem?_neg, List.getElem?_cons_zero, List.getElem?_cons_succ, ↓ws_cons, ↓ws_frz, ↓ws_nil, KS_next, KS_ret, KS_exc, ↓ws_ite, wI_true, wI_false, wI_exc, ↓ws_loop, wL_ok, ↓ws_tr, KT_next, KT_ret, KT_exc, KF_next, KF_ret, KF_exc, KP_ret, KP_exc, ws_for_cons, ws_for_nil, wO_some, ws_some, wp_some, ↓ws_set, ↓ws_own, ↓ws_cell, ↓ws_unp, ↓ws_par, ↓ws_aug, ↓ws_app, ↓ws_ext, ↓ws_put, ↓ws_expr, ↓ws_retE, ↓ws_retN, ↓ws_pass, ↓ws_raise, szle, szlt, dle_t, dle_f, dlt_t, dlt_f, ibeq_t, ibeq_f, okR_of, isInt_yes, isInt_lo, isInt_hi, isInt_bl, isInt_non, isInt_str, isInt_tup, isInt_lst, nr_int, nr_bl, nr_str, nr_non, nr_tup, nr_lst, ↓compD_F, stepD, ↓compF_map, ↓compF_rng, compF_ret, compF_nil, compF_cons, ite_ok, ite_val, ite_bl, ite_int, fm_ite, fm_dec, rngD_len, st0, st1, see_st, see_sg, sg0, sg1, sg2, sg3, sg4, sg5, sg6, sg7, at_tup, at_lst, cut_tup, cut_lst, at0, at1, at2, at3, at4, at5, at6, at7, eq_non_non, eq_non_bl, eq_non_int, eq_non_str, eq_non_tup, eq_non_lst, eq_bl_non, eq_bl_bl, eq_bl_int, eq_bl_str, eq_bl_tup, eq_bl_lst, eq_int_non, eq_int_bl, eq_int_int, eq_int_str, eq_int_tup, eq_int_lst, eq_str_non, eq_str_bl, eq_str_int, eq_str_str, eq_str_tup, eq_str_lst, eq_tup_non, eq_tup_bl, eq_tup_int, eq_tup_str, eq_tup_tup, eq_tup_lst, eq_lst_non, eq_lst_bl, eq_lst_int, eq_lst_str, eq_lst_tup, eq_lst_lst, dep_non, dep_bl, dep_int, dep_str, dep_tup, dep_lst, deps_nil, deps_cons, it_lst, it_tup, natL_dep, see_natL, natL_items, sg_set, set_name, set_tup, see_noRef, patch_nil, patch_cons, ev, evs, evo, evc, evi, mSet, mRet, mDo, mUnp, mPar, mAug, mApp, mExt, mPut, mOwn, mCell, mFreeze, findH, bs, endOf, mArgs, mAnds, mOrs, mTAnds, mTOrs, mAnd, mOr, mNot, mTAnd, mTOr, mTNot, mTru, mIsB, mIf, mChain, mUn, mBin, mVar, mC, mCons, mNil, mTup, mLst, mCallB, mCall, mCut, mPart, mNoPart, mIter, mRng1_s, mRng2_s, mEnum, mZip, mComp, mYes, bx, notOwn, wipeO, startE, RV.sv, bd, ret, lift, RV.see, see_int, see_bl, see_str, see_non, see_tup, see_lst, see_ref, D.isi, BOp.g, COp.g, Bi.g, D.cmpI, D.add, D.sub, D.mul, D.fdiv, D.mod, D.neg, D.bLen, D.bAbs, D.bTuple, D.bList, D.bInt, allVal, setAll, D.truth, D.isNo, D.notNo, D.nonB, D.toInt, D.eqO, D.neO, D.inO, D.ninO, sz1, sz2, sz3, sz4, sz5, sz6, sz7, sz8, sz9, sz10, sz11, sz12, b_require_hour, h0, e]
theorem require_kind_ok {cl : Nat → FM} {n0 x : Nat} (h0 : SIsInteger (cl n0)) : SReqInt 0 2 x (runF cl 1 (b_require_kind n0 x)) := by
  intro d h hd
  apply run_of
  cases e : isInt d 0 2 <;> simp (disch := first | assumption | omega | exact nr_int _ | exact nr_bl _ | exact nr_non | exact nr_str _ | exact nr_tup _ | exact nr_lst _ | solve_by_elim (maxDepth := 4)) [-getElem?_pos, -getElem?_neg, List.getElem?_cons_zero, List.getElem?_cons_succ, ↓ws_cons, ↓ws_frz, ↓ws_nil, KS_next, KS_ret, KS_exc, ↓ws_ite, wI_true, wI_false, wI_exc, ↓ws_loop, wL_ok, ↓ws_tr, KT_next, KT_ret, KT_exc, KF_next, KF_ret, KF_exc, KP_ret, KP_exc, ws_for_cons, ws_for_nil, wO_some, ws_some, wp_some, ↓ws_set, ↓ws_own, ↓ws_cell, ↓ws_unp, ↓ws_par, ↓ws_aug, ↓ws_app, ↓ws_ext, ↓ws_put, ↓ws_expr, ↓ws_retE, ↓ws_retN, ↓ws_pass, ↓ws_raise, szle, szlt, dle_t, dle_f, dlt_t, dlt_f, ibeq_t, ibeq_f, okR_of, isInt_yes, isInt_lo, isInt_hi, isInt_bl, isInt_non, isInt_str, isInt_tup, isInt_lst, nr_int, nr_bl, nr_str, nr_non, nr_tup, nr_lst, ↓compD_F, stepD, ↓compF_map, ↓compF_rng, compF_ret, compF_nil, compF_cons, ite_ok, ite_val, ite_bl, ite_int, fm_ite, fm_dec, rngD_len, st0, st1, see_st, see_sg, sg0, sg1, sg2, sg3, sg4, sg5, sg6, sg7, at_tup, at_lst, cut_tup, cut_lst, at0, at1, at2, at3, at4, at5, at6, at7, eq_non_non, eq_non_bl, eq_non_int, eq_non_str, eq_non_tup, eq_non_lst, eq_bl_non, eq_bl_bl, eq_bl_int, eq_bl_str, eq_bl_tup, eq_bl_lst, eq_int_non, eq_int_bl, eq_int_int, eq_int_str, eq_int_tup, eq_int_lst, eq_str_non, eq_str_bl, eq_str_int, eq_str_str, eq_str_tup, eq_str_lst, eq_tup_non, eq_tup_bl, eq_tup_int, eq_tup_str, eq_tup_tup, eq_tup_lst, eq_lst_non, eq_lst_bl, eq_lst_int, eq_lst_str, eq_lst_tup, eq_lst_lst, dep_non, dep_bl, dep_int, dep_str, dep_tup, dep_lst, deps_nil, deps_cons, it_lst, it_tup, natL_dep, see_natL, natL_items, sg_set, set_name, set_tup, see_noRef, patch_nil, patch_cons, ev, evs, evo, evc, evi, mSet, mRet, mDo, mUnp, mPar, mAug, mApp, mExt, mPut, mOwn, mCell, mFreeze, findH, bs, endOf, mArgs, mAnds, mOrs, mTAnds, mTOrs, mAnd, mOr, mNot, mTAnd, mTOr, mTNot, mTru, mIsB, mIf, mChain, mUn, mBin, mVar, mC, mCons, mNil, mTup, mLst, mCallB, mCall, mCut, mPart, mNoPart, mIter, mRng1_s, mRng2_s, mEnum, mZip, mComp, mYes, bx, notOwn, wipeO, startE, RV.sv, bd, ret, lift, RV.see, see_int, see_bl, see_str, see_non, see_tup, see_lst, see_ref, D.isi, BOp.g, COp.g, Bi.g, D.cmpI, D.add, D.sub, D.mul, D.fdiv, D.mod, D.neg, D.bLen, D.bAbs, D.bTuple, D.bList, D.bInt, allVal, setAll, D.truth, D.isNo, D.notNo, D.nonB, D.toInt, D.eqO, D.neO, D.inO, D.ninO, sz1, sz2, sz3, sz4, sz5, sz6, sz7, sz8, sz9, sz10, sz11, sz12, b_require_kind, h0, e]
theorem require_hours_ok {cl : Nat → FM} {n0 x : Nat} (h0 : SIsInteger (cl n0)) : SReqInt 1 168 x (runF cl 1 (b_require_hours n0 x)) := by
  intro d h hd
  apply run_of
  cases e : isInt d 1 168 <;> simp (disch := first | assumption | omega | exact nr_int _ | exact nr_bl _ | exact nr_non | exact nr_str _ | exact nr_tup _ | exact nr_lst _ | solve_by_elim (maxDepth := 4)) [-getElem?_pos, -getElem?_neg, List.getElem?_cons_zero, List.getElem?_cons_succ, ↓ws_cons, ↓ws_frz, ↓ws_nil, KS_next, KS_ret, KS_exc, ↓ws_ite, wI_true, wI_false, wI_exc, ↓ws_loop, wL_ok, ↓ws_tr, KT_next, KT_ret, KT_exc, KF_next, KF_ret, KF_exc, KP_ret, KP_exc, ws_for_cons, ws_for_nil, wO_some, ws_some, wp_some, ↓ws_set, ↓ws_own, ↓ws_cell, ↓ws_unp, ↓ws_par, ↓ws_aug, ↓ws_app, ↓ws_ext, ↓ws_put, ↓ws_expr, ↓ws_retE, ↓ws_retN, ↓ws_pass, ↓ws_raise, szle, szlt, dle_t, dle_f, dlt_t, dlt_f, ibeq_t, ibeq_f, okR_of, isInt_yes, isInt_lo, isInt_hi, isInt_bl, isInt_non, isInt_str, isInt_tup, isInt_lst, nr_int, nr_bl, nr_str, nr_non, nr_tup, nr_lst, ↓compD_F, stepD, ↓compF_map, ↓compF_rng, compF_ret, compF_nil, compF_cons, ite_ok, ite_val, ite_bl, ite_int, fm_ite, fm_dec, rngD_len, st0, st1, see_st, see_sg, sg0, sg1, sg2, sg3, sg4, sg5, sg6, sg7, at_tup, at_lst, cut_tup, cut_lst, at0, at1, at2, at3, at4, at5, at6, at7, eq_non_non, eq_non_bl, eq_non_int, eq_non_str, eq_non_tup, eq_non_lst, eq_bl_non, eq_bl_bl, eq_bl_int, eq_bl_str, eq_bl_tup, eq_bl_lst, eq_int_non, eq_int_bl, eq_int_int, eq_int_str, eq_int_tup, eq_int_lst, eq_str_non, eq_str_bl, eq_str_int, eq_str_str, eq_str_tup, eq_str_lst, eq_tup_non, eq_tup_bl, eq_tup_int, eq_tup_str, eq_tup_tup, eq_tup_lst, eq_lst_non, eq_lst_bl, eq_lst_int, eq_lst_str, eq_lst_tup, eq_lst_lst, dep_non, dep_bl, dep_int, dep_str, dep_tup, dep_lst, deps_nil, deps_cons, it_lst, it_tup, natL_dep, see_natL, natL_items, sg_set, set_name, set_tup, see_noRef, patch_nil, patch_cons, ev, evs, evo, evc, evi, mSet, mRet, mDo, mUnp, mPar, mAug, mApp, mExt, mPut, mOwn, mCell, mFreeze, findH, bs, endOf, mArgs, mAnds, mOrs, mTAnds, mTOrs, mAnd, mOr, mNot, mTAnd, mTOr, mTNot, mTru, mIsB, mIf, mChain, mUn, mBin, mVar, mC, mCons, mNil, mTup, mLst, mCallB, mCall, mCut, mPart, mNoPart, mIter, mRng1_s, mRng2_s, mEnum, mZip, mComp, mYes, bx, notOwn, wipeO, startE, RV.sv, bd, ret, lift, RV.see, see_int, see_bl, see_str, see_non, see_tup, see_lst, see_ref, D.isi, BOp.g, COp.g, Bi.g, D.cmpI, D.add, D.sub, D.mul, D.fdiv, D.mod, D.neg, D.bLen, D.bAbs, D.bTuple, D.bList, D.bInt, allVal, setAll, D.truth, D.isNo, D.notNo, D.nonB, D.toInt, D.eqO, D.neO, D.inO, D.ninO, sz1, sz2, sz3, sz4, sz5, sz6, sz7, sz8, sz9, sz10, sz11, sz12, b_require_hours, h0, e]
theorem if_exc {c : Bool} {x : Nat} {h : List Cell} {k : Option (Res D)} (e : c = false) : (if c = true then k else some (.exc x h)) = some (.exc x h) := by rw [e]; rfl
/-- a street, a place, an hour -/
abbrev SReqSpotD (xs xp xh : Nat) (F : FM) : Prop := (∀ p l v w h, Str8 p l → v.noRef = true → w.noRef = true → F [.val (stD p l), .val v, .val w] h = if isInt v 0 (p - 1) = true then if isInt w 0 167 = true then some (.ok .non h) else some (.exc xh h) else some (.exc xp h)) ∧
  ∀ (b v w : D) h, b.ok = true → isStreetD b = false → F [.val b, .val v, .val w] h = some (.exc xs h)
theorem require_spotD_ok {cl : Nat → FM} {n0 n1 n2 xs xp xh : Nat} (h0 : SReqInt 0 167 xh (cl n0)) (h1 : SReqPlace xp (cl n1)) (h2 : SReqStreetD xs (cl n2)) : SReqSpotD xs xp xh (runF cl 3 (b_require_spot n0 n1 n2)) := by
  refine ⟨fun p l v w h S hv hw => ?_, fun b v w h hb hs => ?_⟩
  · have k1 := st_ok S
    have k2 := street_is S
    apply run_of
    cases e1 : isInt v 0 (p - 1) with
    | false => simp (disch := first | assumption | omega | exact nr_int _ | exact nr_bl _ | exact nr_non | exact nr_str _ | exact nr_tup _ | exact nr_lst _ | solve_by_elim (maxDepth := 4)) [-getElem?_pos, -getElem?_neg, List.getElem?_cons_zero, List.getElem?_cons_succ, ↓ws_cons, ↓ws_frz, ↓ws_nil, KS_next, KS_ret, KS_exc, ↓ws_ite, wI_true, wI_false, wI_exc, ↓ws_loop, wL_ok, ↓ws_tr, KT_next, KT_ret, KT_exc, KF_next, KF_ret, KF_exc, KP_ret, KP_exc, ws_for_cons, ws_for_nil, wO_some, ws_some, wp_some, ↓ws_set, ↓ws_own, ↓ws_cell, ↓ws_unp, ↓ws_par, ↓ws_aug, ↓ws_app, ↓ws_ext, ↓ws_put, ↓ws_expr, ↓ws_retE, ↓ws_retN, ↓ws_pass, ↓ws_raise, szle, szlt, dle_t, dle_f, dlt_t, dlt_f, ibeq_t, ibeq_f, okR_of, isInt_yes, isInt_lo, isInt_hi, isInt_bl, isInt_non, isInt_str, isInt_tup, isInt_lst, nr_int, nr_bl, nr_str, nr_non, nr_tup, nr_lst, ↓compD_F, stepD, ↓compF_map, ↓compF_rng, compF_ret, compF_nil, compF_cons, ite_ok, ite_val, ite_bl, ite_int, fm_ite, fm_dec, rngD_len, st0, st1, see_st, see_sg, sg0, sg1, sg2, sg3, sg4, sg5, sg6, sg7, at_tup, at_lst, cut_tup, cut_lst, at0, at1, at2, at3, at4, at5, at6, at7, eq_non_non, eq_non_bl, eq_non_int, eq_non_str, eq_non_tup, eq_non_lst, eq_bl_non, eq_bl_bl, eq_bl_int, eq_bl_str, eq_bl_tup, eq_bl_lst, eq_int_non, eq_int_bl, eq_int_int, eq_int_str, eq_int_tup, eq_int_lst, eq_str_non, eq_str_bl, eq_str_int, eq_str_str, eq_str_tup, eq_str_lst, eq_tup_non, eq_tup_bl, eq_tup_int, eq_tup_str, eq_tup_tup, eq_tup_lst, eq_lst_non, eq_lst_bl, eq_lst_int, eq_lst_str, eq_lst_tup, eq_lst_lst, dep_non, dep_bl, dep_int, dep_str, dep_tup, dep_lst, deps_nil, deps_cons, it_lst, it_tup, natL_dep, see_natL, natL_items, sg_set, set_name, set_tup, see_noRef, patch_nil, patch_cons, ev, evs, evo, evc, evi, mSet, mRet, mDo, mUnp, mPar, mAug, mApp, mExt, mPut, mOwn, mCell, mFreeze, findH, bs, endOf, mArgs, mAnds, mOrs, mTAnds, mTOrs, mAnd, mOr, mNot, mTAnd, mTOr, mTNot, mTru, mIsB, mIf, mChain, mUn, mBin, mVar, mC, mCons, mNil, mTup, mLst, mCallB, mCall, mCut, mPart, mNoPart, mIter, mRng1_s, mRng2_s, mEnum, mZip, mComp, mYes, bx, notOwn, wipeO, startE, RV.sv, bd, ret, lift, RV.see, see_int, see_bl, see_str, see_non, see_tup, see_lst, see_ref, D.isi, BOp.g, COp.g, Bi.g, D.cmpI, D.add, D.sub, D.mul, D.fdiv, D.mod, D.neg, D.bLen, D.bAbs, D.bTuple, D.bList, D.bInt, allVal, setAll, D.truth, D.isNo, D.notNo, D.nonB, D.toInt, D.eqO, D.neO, D.inO, D.ninO, sz1, sz2, sz3, sz4, sz5, sz6, sz7, sz8, sz9, sz10, sz11, sz12, b_require_spot, h2, h1, k2, e1]
    | true => cases e2 : isInt w 0 167 <;> simp (disch := first | assumption | omega | exact nr_int _ | exact nr_bl _ | exact nr_non | exact nr_str _ | exact nr_tup _ | exact nr_lst _ | solve_by_elim (maxDepth := 4)) [-getElem?_pos, -getElem?_neg, List.getElem?_cons_zero, List.getElem?_cons_succ, ↓ws_cons, ↓ws_frz, ↓ws_nil, KS_next, KS_ret, KS_exc, ↓ws_ite, wI_true, wI_false, wI_exc, ↓ws_loop, wL_ok, ↓ws_tr, KT_next, KT_ret, KT_exc, KF_next, KF_ret, KF_exc, KP_ret, KP_exc, ws_for_cons, ws_for_nil, wO_some, ws_some, wp_some, ↓ws_set, ↓ws_own, ↓ws_cell, ↓ws_unp, ↓ws_par, ↓ws_aug, ↓ws_app, ↓ws_ext, ↓ws_put, ↓ws_expr, ↓ws_retE, ↓ws_retN, ↓ws_pass, ↓ws_raise, szle, szlt, dle_t, dle_f, dlt_t, dlt_f, ibeq_t, ibeq_f, okR_of, isInt_yes, isInt_lo, isInt_hi, isInt_bl, isInt_non, isInt_str, isInt_tup, isInt_lst, nr_int, nr_bl, nr_str, nr_non, nr_tup, nr_lst, ↓compD_F, stepD, ↓compF_map, ↓compF_rng, compF_ret, compF_nil, compF_cons, ite_ok, ite_val, ite_bl, ite_int, fm_ite, fm_dec, rngD_len, st0, st1, see_st, see_sg, sg0, sg1, sg2, sg3, sg4, sg5, sg6, sg7, at_tup, at_lst, cut_tup, cut_lst, at0, at1, at2, at3, at4, at5, at6, at7, eq_non_non, eq_non_bl, eq_non_int, eq_non_str, eq_non_tup, eq_non_lst, eq_bl_non, eq_bl_bl, eq_bl_int, eq_bl_str, eq_bl_tup, eq_bl_lst, eq_int_non, eq_int_bl, eq_int_int, eq_int_str, eq_int_tup, eq_int_lst, eq_str_non, eq_str_bl, eq_str_int, eq_str_str, eq_str_tup, eq_str_lst, eq_tup_non, eq_tup_bl, eq_tup_int, eq_tup_str, eq_tup_tup, eq_tup_lst, eq_lst_non, eq_lst_bl, eq_lst_int, eq_lst_str, eq_lst_tup, eq_lst_lst, dep_non, dep_bl, dep_int, dep_str, dep_tup, dep_lst, deps_nil, deps_cons, it_lst, it_tup, natL_dep, see_natL, natL_items, sg_set, set_name, set_tup, see_noRef, patch_nil, patch_cons, ev, evs, evo, evc, evi, mSet, mRet, mDo, mUnp, mPar, mAug, mApp, mExt, mPut, mOwn, mCell, mFreeze, findH, bs, endOf, mArgs, mAnds, mOrs, mTAnds, mTOrs, mAnd, mOr, mNot, mTAnd, mTOr, mTNot, mTru, mIsB, mIf, mChain, mUn, mBin, mVar, mC, mCons, mNil, mTup, mLst, mCallB, mCall, mCut, mPart, mNoPart, mIter, mRng1_s, mRng2_s, mEnum, mZip, mComp, mYes, bx, notOwn, wipeO, startE, RV.sv, bd, ret, lift, RV.see, see_int, see_bl, see_str, see_non, see_tup, see_lst, see_ref, D.isi, BOp.g, COp.g, Bi.g, D.cmpI, D.add, D.sub, D.mul, D.fdiv, D.mod, D.neg, D.bLen, D.bAbs, D.bTuple, D.bList, D.bInt, allVal, setAll, D.truth, D.isNo, D.notNo, D.nonB, D.toInt, D.eqO, D.neO, D.inO, D.ninO, sz1, sz2, sz3, sz4, sz5, sz6, sz7, sz8, sz9, sz10, sz11, sz12, b_require_spot, h2, k2, h1, e1, h0, e2]
  · apply run_of
    simp (disch := first | assumption | omega | exact nr_int _ | exact nr_bl _ | exact nr_non | exact nr_str _ | exact nr_tup _ | exact nr_lst _ | solve_by_elim (maxDepth := 4)) [-getElem?_pos, -getElem?_neg, List.getElem?_cons_zero, List.getElem?_cons_succ, ↓ws_cons, ↓ws_frz, ↓ws_nil, KS_next, KS_ret, KS_exc, ↓ws_ite, wI_true, wI_false, wI_exc, ↓ws_loop, wL_ok, ↓ws_tr, KT_next, KT_ret, KT_exc, KF_next, KF_ret, KF_exc, KP_ret, KP_exc, ws_for_cons, ws_for_nil, wO_some, ws_some, wp_some, ↓ws_set, ↓ws_own, ↓ws_cell, ↓ws_unp, ↓ws_par, ↓ws_aug, ↓ws_app, ↓ws_ext, ↓ws_put, ↓ws_expr, ↓ws_retE, ↓ws_retN, ↓ws_pass, ↓ws_raise, szle, szlt, dle_t, dle_f, dlt_t, dlt_f, ibeq_t, ibeq_f, okR_of, isInt_yes, isInt_lo, isInt_hi, isInt_bl, isInt_non, isInt_str, isInt_tup, isInt_lst, nr_int, nr_bl, nr_str, nr_non, nr_tup, nr_lst, ↓compD_F, stepD, ↓compF_map, ↓compF_rng, compF_ret, compF_nil, compF_cons, ite_ok, ite_val, ite_bl, ite_int, fm_ite, fm_dec, rngD_len, st0, st1, see_st, see_sg, sg0, sg1, sg2, sg3, sg4, sg5, sg6, sg7, at_tup, at_lst, cut_tup, cut_lst, at0, at1, at2, at3, at4, at5, at6, at7, eq_non_non, eq_non_bl, eq_non_int, eq_non_str, eq_non_tup, eq_non_lst, eq_bl_non, eq_bl_bl, eq_bl_int, eq_bl_str, eq_bl_tup, eq_bl_lst, eq_int_non, eq_int_bl, eq_int_int, eq_int_str, eq_int_tup, eq_int_lst, eq_str_non, eq_str_bl, eq_str_int, eq_str_str, eq_str_tup, eq_str_lst, eq_tup_non, eq_tup_bl, eq_tup_int, eq_tup_str, eq_tup_tup, eq_tup_lst, eq_lst_non, eq_lst_bl, eq_lst_int, eq_lst_str, eq_lst_tup, eq_lst_lst, dep_non, dep_bl, dep_int, dep_str, dep_tup, dep_lst, deps_nil, deps_cons, it_lst, it_tup, natL_dep, see_natL, natL_items, sg_set, set_name, set_tup, see_noRef, patch_nil, patch_cons, ev, evs, evo, evc, evi, mSet, mRet, mDo, mUnp, mPar, mAug, mApp, mExt, mPut, mOwn, mCell, mFreeze, findH, bs, endOf, mArgs, mAnds, mOrs, mTAnds, mTOrs, mAnd, mOr, mNot, mTAnd, mTOr, mTNot, mTru, mIsB, mIf, mChain, mUn, mBin, mVar, mC, mCons, mNil, mTup, mLst, mCallB, mCall, mCut, mPart, mNoPart, mIter, mRng1_s, mRng2_s, mEnum, mZip, mComp, mYes, bx, notOwn, wipeO, startE, RV.sv, bd, ret, lift, RV.see, see_int, see_bl, see_str, see_non, see_tup, see_lst, see_ref, D.isi, BOp.g, COp.g, Bi.g, D.cmpI, D.add, D.sub, D.mul, D.fdiv, D.mod, D.neg, D.bLen, D.bAbs, D.bTuple, D.bList, D.bInt, allVal, setAll, D.truth, D.isNo, D.notNo, D.nonB, D.toInt, D.eqO, D.neO, D.inO, D.ninO, sz1, sz2, sz3, sz4, sz5, sz6, sz7, sz8, sz9, sz10, sz11, sz12, b_require_spot, h2, hs]
/-! ### the signs that count -/
def topR (l : List Sg) (place hour : Int) : Int := topOf ((l.filter fun s => holdsB s place hour).map Sg.rank)
def cntB (l : List Sg) (place hour : Int) (s : Sg) : Bool := holdsB s place hour && (s.rank == topR l place hour)
def cntS (l : List Sg) (place hour : Int) : List Sg := l.filter (cntB l place hour)
theorem zi_at {α : Type} {l : List α} {q : α × Nat} (h : q ∈ l.zipIdx) : l[q.2]? = some q.1 := by
  obtain ⟨h1, h2, h3⟩ := List.mem_zipIdx h
  rw [List.getElem?_eq_getElem (by omega), h3]
  simp
theorem zi_map {α : Type} (l : List α) (k : Nat) : (l.zipIdx k).map (·.1) = l := by
  induction l generalizing k with
  | nil => rfl
  | cons a l ih => simp [List.zipIdx_cons, ih]
theorem zi_fil {α : Type} (l : List α) (P : α → Bool) (k : Nat) : ((l.zipIdx k).filter fun q => P q.1).map (·.1) = l.filter P := by
  induction l generalizing k with
  | nil => rfl
  | cons a l ih =>
    rw [List.zipIdx_cons, List.filter_cons, List.filter_cons]
    cases P a <;> simp [ih]
theorem rank_map (l : List Sg) (P : Sg → Bool) : (((l.zipIdx.filter fun q => P q.1).map (·.2)).map (rankAt l)) = (l.filter P).map Sg.rank := by
  rw [← zi_fil l P 0, List.map_map, List.map_map]
  apply List.map_congr_left
  intro q hq
  have := zi_at (List.mem_filter.mp hq).1
  simp [rankAt, this]
theorem countL_eq (l : List Sg) (place hour : Int) : countL l place hour = (l.zipIdx.filter fun q => cntB l place hour q.1).map (·.2) := by
  unfold countL countOf holdL
  rw [rank_map l (fun s => holdsB s place hour), List.filter_map, List.filter_filter]
  congr 1
  apply List.filter_congr
  intro q hq
  have := zi_at hq
  simp only [Function.comp, rankAt, this, Option.map_some, Option.getD_some, cntB, topR]
  rw [Bool.and_comm]
def wv (s : Sg) : D := .tup [.str s.word, .int s.value]
theorem sg_cut6 (s : Sg) : D.cut s.d (some 6) none = some (wv s) := by
  simp [D.cut, Sg.d, wv, cutD, HT.sIx]
theorem atQ {l : List Sg} {q : Sg × Nat} (h : q ∈ l.zipIdx) : atI (l.map Sg.d) (q.2 : Int) = some q.1.d := by
  obtain ⟨h1, h2⟩ := List.getElem?_eq_some_iff.mp (zi_at h)
  rw [atI_nat (by rw [List.length_map]; exact h1), List.getElem_map, h2]
theorem countL_len (l : List Sg) (place hour : Int) : (countL l place hour).length ≤ l.length := by
  have := List.length_filter_le (fun i => rankAt l i == topOf ((holdL l place hour).map (rankAt l))) (holdL l place hour)
  have := holdL_len l place hour
  unfold countL countOf
  omega
theorem cntS_len (l : List Sg) (place hour : Int) : (cntS l place hour).length ≤ l.length := List.length_filter_le _ _
abbrev SWords (F : FM) : Prop := ∀ p l (place hour : Int) h, Str8 p l → F [.val (stD p l), .val (.int place), .val (.int hour)] h = some (.ok (.lst ((cntS l place hour).map wv)) h)
theorem words_at_ok {cl : Nat → FM} {n0 : Nat} (h0 : SFind countL (cl n0)) : SWords (runF cl 4 (b_words_at n0)) := by
  intro p l place hour h S
  apply run_of
  have s1 := countL_len l place hour
  have s2 := S.len
  have e0 := h0 p l place hour h S
  unfold natL at e0
  rw [countL_eq] at s1 e0
  rw [List.length_map] at s1
  have hq : ∀ q ∈ (l.zipIdx.filter fun q => cntB l place hour q.1), atI (l.map Sg.d) (q.2 : Int) = some q.1.d := fun q hq => atQ (List.mem_filter.mp hq).1
  have ez := zi_fil l (cntB l place hour) 0
  unfold cntS
  rw [← ez, List.map_map]
  simp (disch := first | assumption | omega | exact nr_int _ | exact nr_bl _ | exact nr_non | exact nr_str _ | exact nr_tup _ | exact nr_lst _ | solve_by_elim (maxDepth := 4)) [-getElem?_pos, -getElem?_neg, List.getElem?_cons_zero, List.getElem?_cons_succ, ↓ws_cons, ↓ws_frz, ↓ws_nil, KS_next, KS_ret, KS_exc, ↓ws_ite, wI_true, wI_false, wI_exc, ↓ws_loop, wL_ok, ↓ws_tr, KT_next, KT_ret, KT_exc, KF_next, KF_ret, KF_exc, KP_ret, KP_exc, ws_for_cons, ws_for_nil, wO_some, ws_some, wp_some, ↓ws_set, ↓ws_own, ↓ws_cell, ↓ws_unp, ↓ws_par, ↓ws_aug, ↓ws_app, ↓ws_ext, ↓ws_put, ↓ws_expr, ↓ws_retE, ↓ws_retN, ↓ws_pass, ↓ws_raise, szle, szlt, dle_t, dle_f, dlt_t, dlt_f, ibeq_t, ibeq_f, okR_of, isInt_yes, isInt_lo, isInt_hi, isInt_bl, isInt_non, isInt_str, isInt_tup, isInt_lst, nr_int, nr_bl, nr_str, nr_non, nr_tup, nr_lst, ↓compD_F, stepD, ↓compF_map, ↓compF_rng, compF_ret, compF_nil, compF_cons, ite_ok, ite_val, ite_bl, ite_int, fm_ite, fm_dec, rngD_len, st0, st1, see_st, see_sg, sg0, sg1, sg2, sg3, sg4, sg5, sg6, sg7, at_tup, at_lst, cut_tup, cut_lst, at0, at1, at2, at3, at4, at5, at6, at7, eq_non_non, eq_non_bl, eq_non_int, eq_non_str, eq_non_tup, eq_non_lst, eq_bl_non, eq_bl_bl, eq_bl_int, eq_bl_str, eq_bl_tup, eq_bl_lst, eq_int_non, eq_int_bl, eq_int_int, eq_int_str, eq_int_tup, eq_int_lst, eq_str_non, eq_str_bl, eq_str_int, eq_str_str, eq_str_tup, eq_str_lst, eq_tup_non, eq_tup_bl, eq_tup_int, eq_tup_str, eq_tup_tup, eq_tup_lst, eq_lst_non, eq_lst_bl, eq_lst_int, eq_lst_str, eq_lst_tup, eq_lst_lst, dep_non, dep_bl, dep_int, dep_str, dep_tup, dep_lst, deps_nil, deps_cons, it_lst, it_tup, natL_dep, see_natL, natL_items, sg_set, set_name, set_tup, see_noRef, patch_nil, patch_cons, ev, evs, evo, evc, evi, mSet, mRet, mDo, mUnp, mPar, mAug, mApp, mExt, mPut, mOwn, mCell, mFreeze, findH, bs, endOf, mArgs, mAnds, mOrs, mTAnds, mTOrs, mAnd, mOr, mNot, mTAnd, mTOr, mTNot, mTru, mIsB, mIf, mChain, mUn, mBin, mVar, mC, mCons, mNil, mTup, mLst, mCallB, mCall, mCut, mPart, mNoPart, mIter, mRng1_s, mRng2_s, mEnum, mZip, mComp, mYes, bx, notOwn, wipeO, startE, RV.sv, bd, ret, lift, RV.see, see_int, see_bl, see_str, see_non, see_tup, see_lst, see_ref, D.isi, BOp.g, COp.g, Bi.g, D.cmpI, D.add, D.sub, D.mul, D.fdiv, D.mod, D.neg, D.bLen, D.bAbs, D.bTuple, D.bList, D.bInt, allVal, setAll, D.truth, D.isNo, D.notNo, D.nonB, D.toInt, D.eqO, D.neO, D.inO, D.ninO, sz1, sz2, sz3, sz4, sz5, sz6, sz7, sz8, sz9, sz10, sz11, sz12, b_words_at, e0]
  rw [compF_ok fun q => some (wv q.1)]
  · simp (disch := first | assumption | omega | exact nr_int _ | exact nr_bl _ | exact nr_non | exact nr_str _ | exact nr_tup _ | exact nr_lst _ | solve_by_elim (maxDepth := 4)) [-getElem?_pos, -getElem?_neg, List.getElem?_cons_zero, List.getElem?_cons_succ, ↓ws_cons, ↓ws_frz, ↓ws_nil, KS_next, KS_ret, KS_exc, ↓ws_ite, wI_true, wI_false, wI_exc, ↓ws_loop, wL_ok, ↓ws_tr, KT_next, KT_ret, KT_exc, KF_next, KF_ret, KF_exc, KP_ret, KP_exc, ws_for_cons, ws_for_nil, wO_some, ws_some, wp_some, ↓ws_set, ↓ws_own, ↓ws_cell, ↓ws_unp, ↓ws_par, ↓ws_aug, ↓ws_app, ↓ws_ext, ↓ws_put, ↓ws_expr, ↓ws_retE, ↓ws_retN, ↓ws_pass, ↓ws_raise, szle, szlt, dle_t, dle_f, dlt_t, dlt_f, ibeq_t, ibeq_f, okR_of, isInt_yes, isInt_lo, isInt_hi, isInt_bl, isInt_non, isInt_str, isInt_tup, isInt_lst, nr_int, nr_bl, nr_str, nr_non, nr_tup, nr_lst, ↓compD_F, stepD, ↓compF_map, ↓compF_rng, compF_ret, compF_nil, compF_cons, ite_ok, ite_val, ite_bl, ite_int, fm_ite, fm_dec, rngD_len, st0, st1, see_st, see_sg, sg0, sg1, sg2, sg3, sg4, sg5, sg6, sg7, at_tup, at_lst, cut_tup, cut_lst, at0, at1, at2, at3, at4, at5, at6, at7, eq_non_non, eq_non_bl, eq_non_int, eq_non_str, eq_non_tup, eq_non_lst, eq_bl_non, eq_bl_bl, eq_bl_int, eq_bl_str, eq_bl_tup, eq_bl_lst, eq_int_non, eq_int_bl, eq_int_int, eq_int_str, eq_int_tup, eq_int_lst, eq_str_non, eq_str_bl, eq_str_int, eq_str_str, eq_str_tup, eq_str_lst, eq_tup_non, eq_tup_bl, eq_tup_int, eq_tup_str, eq_tup_tup, eq_tup_lst, eq_lst_non, eq_lst_bl, eq_lst_int, eq_lst_str, eq_lst_tup, eq_lst_lst, dep_non, dep_bl, dep_int, dep_str, dep_tup, dep_lst, deps_nil, deps_cons, it_lst, it_tup, natL_dep, see_natL, natL_items, sg_set, set_name, set_tup, see_noRef, patch_nil, patch_cons, ev, evs, evo, evc, evi, mSet, mRet, mDo, mUnp, mPar, mAug, mApp, mExt, mPut, mOwn, mCell, mFreeze, findH, bs, endOf, mArgs, mAnds, mOrs, mTAnds, mTOrs, mAnd, mOr, mNot, mTAnd, mTOr, mTNot, mTru, mIsB, mIf, mChain, mUn, mBin, mVar, mC, mCons, mNil, mTup, mLst, mCallB, mCall, mCut, mPart, mNoPart, mIter, mRng1_s, mRng2_s, mEnum, mZip, mComp, mYes, bx, notOwn, wipeO, startE, RV.sv, bd, ret, lift, RV.see, see_int, see_bl, see_str, see_non, see_tup, see_lst, see_ref, D.isi, BOp.g, COp.g, Bi.g, D.cmpI, D.add, D.sub, D.mul, D.fdiv, D.mod, D.neg, D.bLen, D.bAbs, D.bTuple, D.bList, D.bInt, allVal, setAll, D.truth, D.isNo, D.notNo, D.nonB, D.toInt, D.eqO, D.neO, D.inO, D.ninO, sz1, sz2, sz3, sz4, sz5, sz6, sz7, sz8, sz9, sz10, sz11, sz12]
  · intro q hm h
    simp (disch := first | assumption | omega | exact nr_int _ | exact nr_bl _ | exact nr_non | exact nr_str _ | exact nr_tup _ | exact nr_lst _ | solve_by_elim (maxDepth := 4)) [-getElem?_pos, -getElem?_neg, List.getElem?_cons_zero, List.getElem?_cons_succ, ↓ws_cons, ↓ws_frz, ↓ws_nil, KS_next, KS_ret, KS_exc, ↓ws_ite, wI_true, wI_false, wI_exc, ↓ws_loop, wL_ok, ↓ws_tr, KT_next, KT_ret, KT_exc, KF_next, KF_ret, KF_exc, KP_ret, KP_exc, ws_for_cons, ws_for_nil, wO_some, ws_some, wp_some, ↓ws_set, ↓ws_own, ↓ws_cell, ↓ws_unp, ↓ws_par, ↓ws_aug, ↓ws_app, ↓ws_ext, ↓ws_put, ↓ws_expr, ↓ws_retE, ↓ws_retN, ↓ws_pass, ↓ws_raise, szle, szlt, dle_t, dle_f, dlt_t, dlt_f, ibeq_t, ibeq_f, okR_of, isInt_yes, isInt_lo, isInt_hi, isInt_bl, isInt_non, isInt_str, isInt_tup, isInt_lst, nr_int, nr_bl, nr_str, nr_non, nr_tup, nr_lst, ↓compD_F, stepD, ↓compF_map, ↓compF_rng, compF_ret, compF_nil, compF_cons, ite_ok, ite_val, ite_bl, ite_int, fm_ite, fm_dec, rngD_len, st0, st1, see_st, see_sg, sg0, sg1, sg2, sg3, sg4, sg5, sg6, sg7, at_tup, at_lst, cut_tup, cut_lst, at0, at1, at2, at3, at4, at5, at6, at7, eq_non_non, eq_non_bl, eq_non_int, eq_non_str, eq_non_tup, eq_non_lst, eq_bl_non, eq_bl_bl, eq_bl_int, eq_bl_str, eq_bl_tup, eq_bl_lst, eq_int_non, eq_int_bl, eq_int_int, eq_int_str, eq_int_tup, eq_int_lst, eq_str_non, eq_str_bl, eq_str_int, eq_str_str, eq_str_tup, eq_str_lst, eq_tup_non, eq_tup_bl, eq_tup_int, eq_tup_str, eq_tup_tup, eq_tup_lst, eq_lst_non, eq_lst_bl, eq_lst_int, eq_lst_str, eq_lst_tup, eq_lst_lst, dep_non, dep_bl, dep_int, dep_str, dep_tup, dep_lst, deps_nil, deps_cons, it_lst, it_tup, natL_dep, see_natL, natL_items, sg_set, set_name, set_tup, see_noRef, patch_nil, patch_cons, ev, evs, evo, evc, evi, mSet, mRet, mDo, mUnp, mPar, mAug, mApp, mExt, mPut, mOwn, mCell, mFreeze, findH, bs, endOf, mArgs, mAnds, mOrs, mTAnds, mTOrs, mAnd, mOr, mNot, mTAnd, mTOr, mTNot, mTru, mIsB, mIf, mChain, mUn, mBin, mVar, mC, mCons, mNil, mTup, mLst, mCallB, mCall, mCut, mPart, mNoPart, mIter, mRng1_s, mRng2_s, mEnum, mZip, mComp, mYes, bx, notOwn, wipeO, startE, RV.sv, bd, ret, lift, RV.see, see_int, see_bl, see_str, see_non, see_tup, see_lst, see_ref, D.isi, BOp.g, COp.g, Bi.g, D.cmpI, D.add, D.sub, D.mul, D.fdiv, D.mod, D.neg, D.bLen, D.bAbs, D.bTuple, D.bList, D.bInt, allVal, setAll, D.truth, D.isNo, D.notNo, D.nonB, D.toInt, D.eqO, D.neO, D.inO, D.ninO, sz1, sz2, sz3, sz4, sz5, sz6, sz7, sz8, sz9, sz10, sz11, sz12, hq q hm, sg_cut6]
end Kb
namespace Kb
open PySem L2
/-! ### who may stand -/
def noneS (s : Sg) : Bool := (s.word == "none") && (s.value == 0)
def onlyS (k : Int) (s : Sg) : Bool := !(s.word == "only") || (s.value == k)
def kindsS (ss : List Sg) : List Nat := if ss.any noneS = true then [] else (List.range 3).filter fun k => ss.all (onlyS (k : Int))
def limS (ss : List Sg) : Option Int := ((ss.filter fun s => s.word == ("limit" : Str)).map Sg.value).min?
def optD : Option Int → D
  | none => .non
  | some i => .int i
abbrev SFindG (V : List Sg → Int → Int → D) (F : FM) : Prop := ∀ p l (place hour : Int) h, Str8 p l → F [.val (stD p l), .val (.int place), .val (.int hour)] h = some (.ok (V l place hour) h)
abbrev SFindD (R : List Sg → D) (F : FM) : Prop := SFindG (fun l place hour => R (cntS l place hour)) F
theorem wv_eq (s : Sg) (w : Str) (v : Int) : D.eq (wv s) (.tup [.str w, .int v]) = ((s.word == w) && (s.value == v)) := by simp [wv, D.eq, D.eqs]
theorem wv_dep (s : Sg) : D.dep (wv s) = 1 := by simp [wv, D.dep, D.deps]
theorem wv_deps (ss : List Sg) : D.deps (ss.map wv) ≤ 1 := by
  induction ss with
  | nil => simp [D.deps]
  | cons s r ih => simp [D.deps, wv_dep]; omega
theorem wv_set (is : List Nat) (s : Sg) (ρ : En) : (Tg.tup is).set (wv s) ρ = setAll is [.str s.word, .int s.value] ρ := rfl
theorem all_of2 {α : Type} (l : List α) (p : α → Bool) : D.bAll [.lst (l.map fun x => D.bl (p x))] = some (.bl (l.all p)) := all_of l p
theorem find_kinds_ok {cl : Nat → FM} {n0 : Nat} (h0 : SWords (cl n0)) : SFindD (fun ss => natL (kindsS ss)) (runF cl 7 (b_find_kinds n0)) := by
  intro p l place hour h S
  apply run_of
  have e0 := h0 p l place hour h S
  have sl := S.len
  have s2 := cntS_len l place hour
  dsimp only
  generalize cntS l place hour = ss at e0 s2
  have dp := wv_deps ss
  have dp2 : D.deps (ss.map wv) + 1 ≤ 64 := by omega
  have ea : (ss.any fun x => (x.word == "none") && (x.value == 0)) = ss.any noneS := rfl
  have eb : ∀ k : Nat, (ss.all fun x => !(x.word == "only") || (x.value == (k : Int))) = ss.all (onlyS (k : Int)) := fun _ => rfl
  cases hn : ss.any noneS with
  | true =>
    rw [hn] at ea
    simp (disch := first | assumption | omega | exact nr_int _ | exact nr_bl _ | exact nr_non | exact nr_str _ | exact nr_tup _ | exact nr_lst _ | solve_by_elim (maxDepth := 4)) [-getElem?_pos, -getElem?_neg, List.getElem?_cons_zero, List.getElem?_cons_succ, ↓ws_cons, ↓ws_frz, ↓ws_nil, KS_next, KS_ret, KS_exc, ↓ws_ite, wI_true, wI_false, wI_exc, ↓ws_loop, wL_ok, ↓ws_tr, KT_next, KT_ret, KT_exc, KF_next, KF_ret, KF_exc, KP_ret, KP_exc, ws_for_cons, ws_for_nil, wO_some, ws_some, wp_some, ↓ws_set, ↓ws_own, ↓ws_cell, ↓ws_unp, ↓ws_par, ↓ws_aug, ↓ws_app, ↓ws_ext, ↓ws_put, ↓ws_expr, ↓ws_retE, ↓ws_retN, ↓ws_pass, ↓ws_raise, szle, szlt, dle_t, dle_f, dlt_t, dlt_f, ibeq_t, ibeq_f, okR_of, isInt_yes, isInt_lo, isInt_hi, isInt_bl, isInt_non, isInt_str, isInt_tup, isInt_lst, nr_int, nr_bl, nr_str, nr_non, nr_tup, nr_lst, ↓compD_F, stepD, ↓compF_map, ↓compF_rng, compF_ret, compF_nil, compF_cons, ite_ok, ite_val, ite_bl, ite_int, fm_ite, fm_dec, rngD_len, st0, st1, see_st, see_sg, sg0, sg1, sg2, sg3, sg4, sg5, sg6, sg7, at_tup, at_lst, cut_tup, cut_lst, at0, at1, at2, at3, at4, at5, at6, at7, eq_non_non, eq_non_bl, eq_non_int, eq_non_str, eq_non_tup, eq_non_lst, eq_bl_non, eq_bl_bl, eq_bl_int, eq_bl_str, eq_bl_tup, eq_bl_lst, eq_int_non, eq_int_bl, eq_int_int, eq_int_str, eq_int_tup, eq_int_lst, eq_str_non, eq_str_bl, eq_str_int, eq_str_str, eq_str_tup, eq_str_lst, eq_tup_non, eq_tup_bl, eq_tup_int, eq_tup_str, eq_tup_tup, eq_tup_lst, eq_lst_non, eq_lst_bl, eq_lst_int, eq_lst_str, eq_lst_tup, eq_lst_lst, dep_non, dep_bl, dep_int, dep_str, dep_tup, dep_lst, deps_nil, deps_cons, it_lst, it_tup, natL_dep, see_natL, natL_items, sg_set, set_name, set_tup, see_noRef, patch_nil, patch_cons, ev, evs, evo, evc, evi, mSet, mRet, mDo, mUnp, mPar, mAug, mApp, mExt, mPut, mOwn, mCell, mFreeze, findH, bs, endOf, mArgs, mAnds, mOrs, mTAnds, mTOrs, mAnd, mOr, mNot, mTAnd, mTOr, mTNot, mTru, mIsB, mIf, mChain, mUn, mBin, mVar, mC, mCons, mNil, mTup, mLst, mCallB, mCall, mCut, mPart, mNoPart, mIter, mRng1_s, mRng2_s, mEnum, mZip, mComp, mYes, bx, notOwn, wipeO, startE, RV.sv, bd, ret, lift, RV.see, see_int, see_bl, see_str, see_non, see_tup, see_lst, see_ref, D.isi, BOp.g, COp.g, Bi.g, D.cmpI, D.add, D.sub, D.mul, D.fdiv, D.mod, D.neg, D.bLen, D.bAbs, D.bTuple, D.bList, D.bInt, allVal, setAll, D.truth, D.isNo, D.notNo, D.nonB, D.toInt, D.eqO, D.neO, D.inO, D.ninO, sz1, sz2, sz3, sz4, sz5, sz6, sz7, sz8, sz9, sz10, sz11, sz12, b_find_kinds, e0, dp2, wv_eq, D.deps, ea, kindsS, hn, natL, D.eqs, Function.comp_def]
  | false =>
    rw [hn] at ea
    simp (disch := first | assumption | omega | exact nr_int _ | exact nr_bl _ | exact nr_non | exact nr_str _ | exact nr_tup _ | exact nr_lst _ | solve_by_elim (maxDepth := 4)) [-getElem?_pos, -getElem?_neg, List.getElem?_cons_zero, List.getElem?_cons_succ, ↓ws_cons, ↓ws_frz, ↓ws_nil, KS_next, KS_ret, KS_exc, ↓ws_ite, wI_true, wI_false, wI_exc, ↓ws_loop, wL_ok, ↓ws_tr, KT_next, KT_ret, KT_exc, KF_next, KF_ret, KF_exc, KP_ret, KP_exc, ws_for_cons, ws_for_nil, wO_some, ws_some, wp_some, ↓ws_set, ↓ws_own, ↓ws_cell, ↓ws_unp, ↓ws_par, ↓ws_aug, ↓ws_app, ↓ws_ext, ↓ws_put, ↓ws_expr, ↓ws_retE, ↓ws_retN, ↓ws_pass, ↓ws_raise, szle, szlt, dle_t, dle_f, dlt_t, dlt_f, ibeq_t, ibeq_f, okR_of, isInt_yes, isInt_lo, isInt_hi, isInt_bl, isInt_non, isInt_str, isInt_tup, isInt_lst, nr_int, nr_bl, nr_str, nr_non, nr_tup, nr_lst, ↓compD_F, stepD, ↓compF_map, ↓compF_rng, compF_ret, compF_nil, compF_cons, ite_ok, ite_val, ite_bl, ite_int, fm_ite, fm_dec, rngD_len, st0, st1, see_st, see_sg, sg0, sg1, sg2, sg3, sg4, sg5, sg6, sg7, at_tup, at_lst, cut_tup, cut_lst, at0, at1, at2, at3, at4, at5, at6, at7, eq_non_non, eq_non_bl, eq_non_int, eq_non_str, eq_non_tup, eq_non_lst, eq_bl_non, eq_bl_bl, eq_bl_int, eq_bl_str, eq_bl_tup, eq_bl_lst, eq_int_non, eq_int_bl, eq_int_int, eq_int_str, eq_int_tup, eq_int_lst, eq_str_non, eq_str_bl, eq_str_int, eq_str_str, eq_str_tup, eq_str_lst, eq_tup_non, eq_tup_bl, eq_tup_int, eq_tup_str, eq_tup_tup, eq_tup_lst, eq_lst_non, eq_lst_bl, eq_lst_int, eq_lst_str, eq_lst_tup, eq_lst_lst, dep_non, dep_bl, dep_int, dep_str, dep_tup, dep_lst, deps_nil, deps_cons, it_lst, it_tup, natL_dep, see_natL, natL_items, sg_set, set_name, set_tup, see_noRef, patch_nil, patch_cons, ev, evs, evo, evc, evi, mSet, mRet, mDo, mUnp, mPar, mAug, mApp, mExt, mPut, mOwn, mCell, mFreeze, findH, bs, endOf, mArgs, mAnds, mOrs, mTAnds, mTOrs, mAnd, mOr, mNot, mTAnd, mTOr, mTNot, mTru, mIsB, mIf, mChain, mUn, mBin, mVar, mC, mCons, mNil, mTup, mLst, mCallB, mCall, mCut, mPart, mNoPart, mIter, mRng1_s, mRng2_s, mEnum, mZip, mComp, mYes, bx, notOwn, wipeO, startE, RV.sv, bd, ret, lift, RV.see, see_int, see_bl, see_str, see_non, see_tup, see_lst, see_ref, D.isi, BOp.g, COp.g, Bi.g, D.cmpI, D.add, D.sub, D.mul, D.fdiv, D.mod, D.neg, D.bLen, D.bAbs, D.bTuple, D.bList, D.bInt, allVal, setAll, D.truth, D.isNo, D.notNo, D.nonB, D.toInt, D.eqO, D.neO, D.inO, D.ninO, sz1, sz2, sz3, sz4, sz5, sz6, sz7, sz8, sz9, sz10, sz11, sz12, b_find_kinds, e0, dp2, wv_eq, D.deps, ea, kindsS, hn, natL, D.eqs, Function.comp_def, wv_set, all_of, eb]
    congr 1
    apply List.filter_congr
    intro a _
    rw [Bool.eq_iff_iff]
    simp [onlyS]
theorem min_of (ns : List Int) (h : ns ≠ []) : ∃ z, ns.min? = some z ∧ D.bMin [.lst (ns.map D.int)] = some (.int z) := by
  cases q : ns.min? with
  | none => rw [List.min?_eq_none_iff] at q; exact absurd q h
  | some z =>
    refine ⟨z, rfl, ?_⟩
    have e2 : D.bMin [.lst (ns.map D.int)] = (D.ints (ns.map D.int)).bind fun ns => ns.min?.map D.int := rfl
    rw [e2, ints_map]
    simp [q]
theorem find_limit_ok {cl : Nat → FM} {n0 : Nat} (h0 : SWords (cl n0)) : SFindD (fun ss => optD (limS ss)) (runF cl 6 (b_find_limit n0)) := by
  intro p l place hour h S
  apply run_of
  have e0 := h0 p l place hour h S
  have sl := S.len
  have s2 := cntS_len l place hour
  dsimp only
  generalize cntS l place hour = ss at e0 s2
  have ef : ∀ ss : List Sg, (ss.filter fun a => decide (a.word = Str.ofString "limit")) = ss.filter fun a => a.word == ("limit" : Str) := fun ss => by
    apply List.filter_congr
    intro a _
    rw [Bool.eq_iff_iff]
    simp
  have el : limS ss = ((ss.filter fun a => a.word == ("limit" : Str)).map Sg.value).min? := rfl
  rw [el]
  generalize hf : (ss.filter fun a => a.word == ("limit" : Str)) = ff
  have ef2 := ef ss
  rw [hf] at ef2
  have em : ff.map (fun a => D.int a.value) = (ff.map Sg.value).map D.int := by rw [List.map_map]; rfl
  by_cases hE : ff = []
  · subst hE
    simp (disch := first | assumption | omega | exact nr_int _ | exact nr_bl _ | exact nr_non | exact nr_str _ | exact nr_tup _ | exact nr_lst _ | solve_by_elim (maxDepth := 4)) [-getElem?_pos, -getElem?_neg, List.getElem?_cons_zero, List.getElem?_cons_succ, ↓ws_cons, ↓ws_frz, ↓ws_nil, KS_next, KS_ret, KS_exc, ↓ws_ite, wI_true, wI_false, wI_exc, ↓ws_loop, wL_ok, ↓ws_tr, KT_next, KT_ret, KT_exc, KF_next, KF_ret, KF_exc, KP_ret, KP_exc, ws_for_cons, ws_for_nil, wO_some, ws_some, wp_some, ↓ws_set, ↓ws_own, ↓ws_cell, ↓ws_unp, ↓ws_par, ↓ws_aug, ↓ws_app, ↓ws_ext, ↓ws_put, ↓ws_expr, ↓ws_retE, ↓ws_retN, ↓ws_pass, ↓ws_raise, szle, szlt, dle_t, dle_f, dlt_t, dlt_f, ibeq_t, ibeq_f, okR_of, isInt_yes, isInt_lo, isInt_hi, isInt_bl, isInt_non, isInt_str, isInt_tup, isInt_lst, nr_int, nr_bl, nr_str, nr_non, nr_tup, nr_lst, ↓compD_F, stepD, ↓compF_map, ↓compF_rng, compF_ret, compF_nil, compF_cons, ite_ok, ite_val, ite_bl, ite_int, fm_ite, fm_dec, rngD_len, st0, st1, see_st, see_sg, sg0, sg1, sg2, sg3, sg4, sg5, sg6, sg7, at_tup, at_lst, cut_tup, cut_lst, at0, at1, at2, at3, at4, at5, at6, at7, eq_non_non, eq_non_bl, eq_non_int, eq_non_str, eq_non_tup, eq_non_lst, eq_bl_non, eq_bl_bl, eq_bl_int, eq_bl_str, eq_bl_tup, eq_bl_lst, eq_int_non, eq_int_bl, eq_int_int, eq_int_str, eq_int_tup, eq_int_lst, eq_str_non, eq_str_bl, eq_str_int, eq_str_str, eq_str_tup, eq_str_lst, eq_tup_non, eq_tup_bl, eq_tup_int, eq_tup_str, eq_tup_tup, eq_tup_lst, eq_lst_non, eq_lst_bl, eq_lst_int, eq_lst_str, eq_lst_tup, eq_lst_lst, dep_non, dep_bl, dep_int, dep_str, dep_tup, dep_lst, deps_nil, deps_cons, it_lst, it_tup, natL_dep, see_natL, natL_items, sg_set, set_name, set_tup, see_noRef, patch_nil, patch_cons, ev, evs, evo, evc, evi, mSet, mRet, mDo, mUnp, mPar, mAug, mApp, mExt, mPut, mOwn, mCell, mFreeze, findH, bs, endOf, mArgs, mAnds, mOrs, mTAnds, mTOrs, mAnd, mOr, mNot, mTAnd, mTOr, mTNot, mTru, mIsB, mIf, mChain, mUn, mBin, mVar, mC, mCons, mNil, mTup, mLst, mCallB, mCall, mCut, mPart, mNoPart, mIter, mRng1_s, mRng2_s, mEnum, mZip, mComp, mYes, bx, notOwn, wipeO, startE, RV.sv, bd, ret, lift, RV.see, see_int, see_bl, see_str, see_non, see_tup, see_lst, see_ref, D.isi, BOp.g, COp.g, Bi.g, D.cmpI, D.add, D.sub, D.mul, D.fdiv, D.mod, D.neg, D.bLen, D.bAbs, D.bTuple, D.bList, D.bInt, allVal, setAll, D.truth, D.isNo, D.notNo, D.nonB, D.toInt, D.eqO, D.neO, D.inO, D.ninO, sz1, sz2, sz3, sz4, sz5, sz6, sz7, sz8, sz9, sz10, sz11, sz12, b_find_limit, e0, wv_set, ef2, optD]
  · obtain ⟨z, m1, m2⟩ := min_of (ff.map Sg.value) (by simpa using hE)
    rw [← em] at m2
    have hE2 : ff.isEmpty = false := by simpa using hE
    simp (disch := first | assumption | omega | exact nr_int _ | exact nr_bl _ | exact nr_non | exact nr_str _ | exact nr_tup _ | exact nr_lst _ | solve_by_elim (maxDepth := 4)) [-getElem?_pos, -getElem?_neg, List.getElem?_cons_zero, List.getElem?_cons_succ, ↓ws_cons, ↓ws_frz, ↓ws_nil, KS_next, KS_ret, KS_exc, ↓ws_ite, wI_true, wI_false, wI_exc, ↓ws_loop, wL_ok, ↓ws_tr, KT_next, KT_ret, KT_exc, KF_next, KF_ret, KF_exc, KP_ret, KP_exc, ws_for_cons, ws_for_nil, wO_some, ws_some, wp_some, ↓ws_set, ↓ws_own, ↓ws_cell, ↓ws_unp, ↓ws_par, ↓ws_aug, ↓ws_app, ↓ws_ext, ↓ws_put, ↓ws_expr, ↓ws_retE, ↓ws_retN, ↓ws_pass, ↓ws_raise, szle, szlt, dle_t, dle_f, dlt_t, dlt_f, ibeq_t, ibeq_f, okR_of, isInt_yes, isInt_lo, isInt_hi, isInt_bl, isInt_non, isInt_str, isInt_tup, isInt_lst, nr_int, nr_bl, nr_str, nr_non, nr_tup, nr_lst, ↓compD_F, stepD, ↓compF_map, ↓compF_rng, compF_ret, compF_nil, compF_cons, ite_ok, ite_val, ite_bl, ite_int, fm_ite, fm_dec, rngD_len, st0, st1, see_st, see_sg, sg0, sg1, sg2, sg3, sg4, sg5, sg6, sg7, at_tup, at_lst, cut_tup, cut_lst, at0, at1, at2, at3, at4, at5, at6, at7, eq_non_non, eq_non_bl, eq_non_int, eq_non_str, eq_non_tup, eq_non_lst, eq_bl_non, eq_bl_bl, eq_bl_int, eq_bl_str, eq_bl_tup, eq_bl_lst, eq_int_non, eq_int_bl, eq_int_int, eq_int_str, eq_int_tup, eq_int_lst, eq_str_non, eq_str_bl, eq_str_int, eq_str_str, eq_str_tup, eq_str_lst, eq_tup_non, eq_tup_bl, eq_tup_int, eq_tup_str, eq_tup_tup, eq_tup_lst, eq_lst_non, eq_lst_bl, eq_lst_int, eq_lst_str, eq_lst_tup, eq_lst_lst, dep_non, dep_bl, dep_int, dep_str, dep_tup, dep_lst, deps_nil, deps_cons, it_lst, it_tup, natL_dep, see_natL, natL_items, sg_set, set_name, set_tup, see_noRef, patch_nil, patch_cons, ev, evs, evo, evc, evi, mSet, mRet, mDo, mUnp, mPar, mAug, mApp, mExt, mPut, mOwn, mCell, mFreeze, findH, bs, endOf, mArgs, mAnds, mOrs, mTAnds, mTOrs, mAnd, mOr, mNot, mTAnd, mTOr, mTNot, mTru, mIsB, mIf, mChain, mUn, mBin, mVar, mC, mCons, mNil, mTup, mLst, mCallB, mCall, mCut, mPart, mNoPart, mIter, mRng1_s, mRng2_s, mEnum, mZip, mComp, mYes, bx, notOwn, wipeO, startE, RV.sv, bd, ret, lift, RV.see, see_int, see_bl, see_str, see_non, see_tup, see_lst, see_ref, D.isi, BOp.g, COp.g, Bi.g, D.cmpI, D.add, D.sub, D.mul, D.fdiv, D.mod, D.neg, D.bLen, D.bAbs, D.bTuple, D.bList, D.bInt, allVal, setAll, D.truth, D.isNo, D.notNo, D.nonB, D.toInt, D.eqO, D.neO, D.inO, D.ninO, sz1, sz2, sz3, sz4, sz5, sz6, sz7, sz8, sz9, sz10, sz11, sz12, b_find_limit, e0, wv_set, ef2, optD, m1, m2, hE, hE2]
/-! ### with what is required -/
abbrev SAtG (xs xp xh : Nat) (V : List Sg → Int → Int → D) (F : FM) : Prop :=
  (∀ p l v w h, Str8 p l → v.noRef = true → w.noRef = true → F [.val (stD p l), .val v, .val w] h = if isInt v 0 (p - 1) = true then if isInt w 0 167 = true then some (.ok (V l (iv v) (iv w)) h) else some (.exc xh h) else some (.exc xp h)) ∧
  ∀ (b v w : D) h, b.ok = true → isStreetD b = false → F [.val b, .val v, .val w] h = some (.exc xs h)
abbrev SAtD (xs xp xh : Nat) (R : List Sg → D) (F : FM) : Prop := SAtG xs xp xh (fun l place hour => R (cntS l place hour)) F
theorem kinds_at_ok {cl : Nat → FM} {n0 n1 xs xp xh : Nat} {V : List Sg → Int → Int → D} (h0 : SFindG V (cl n0)) (h1 : SReqSpotD xs xp xh (cl n1)) : SAtG xs xp xh V (runF cl 3 (b_kinds_at n0 n1)) := by
  refine ⟨fun p l v w h S hv hw => ?_, fun b v w h hb hs => ?_⟩
  · apply run_of
    cases e1 : isInt v 0 (p - 1) with
    | false => simp (disch := first | assumption | omega | exact nr_int _ | exact nr_bl _ | exact nr_non | exact nr_str _ | exact nr_tup _ | exact nr_lst _ | solve_by_elim (maxDepth := 4)) [-getElem?_pos, -getElem?_neg, List.getElem?_cons_zero, List.getElem?_cons_succ, ↓ws_cons, ↓ws_frz, ↓ws_nil, KS_next, KS_ret, KS_exc, ↓ws_ite, wI_true, wI_false, wI_exc, ↓ws_loop, wL_ok, ↓ws_tr, KT_next, KT_ret, KT_exc, KF_next, KF_ret, KF_exc, KP_ret, KP_exc, ws_for_cons, ws_for_nil, wO_some, ws_some, wp_some, ↓ws_set, ↓ws_own, ↓ws_cell, ↓ws_unp, ↓ws_par, ↓ws_aug, ↓ws_app, ↓ws_ext, ↓ws_put, ↓ws_expr, ↓ws_retE, ↓ws_retN, ↓ws_pass, ↓ws_raise, szle, szlt, dle_t, dle_f, dlt_t, dlt_f, ibeq_t, ibeq_f, okR_of, isInt_yes, isInt_lo, isInt_hi, isInt_bl, isInt_non, isInt_str, isInt_tup, isInt_lst, nr_int, nr_bl, nr_str, nr_non, nr_tup, nr_lst, ↓compD_F, stepD, ↓compF_map, ↓compF_rng, compF_ret, compF_nil, compF_cons, ite_ok, ite_val, ite_bl, ite_int, fm_ite, fm_dec, rngD_len, st0, st1, see_st, see_sg, sg0, sg1, sg2, sg3, sg4, sg5, sg6, sg7, at_tup, at_lst, cut_tup, cut_lst, at0, at1, at2, at3, at4, at5, at6, at7, eq_non_non, eq_non_bl, eq_non_int, eq_non_str, eq_non_tup, eq_non_lst, eq_bl_non, eq_bl_bl, eq_bl_int, eq_bl_str, eq_bl_tup, eq_bl_lst, eq_int_non, eq_int_bl, eq_int_int, eq_int_str, eq_int_tup, eq_int_lst, eq_str_non, eq_str_bl, eq_str_int, eq_str_str, eq_str_tup, eq_str_lst, eq_tup_non, eq_tup_bl, eq_tup_int, eq_tup_str, eq_tup_tup, eq_tup_lst, eq_lst_non, eq_lst_bl, eq_lst_int, eq_lst_str, eq_lst_tup, eq_lst_lst, dep_non, dep_bl, dep_int, dep_str, dep_tup, dep_lst, deps_nil, deps_cons, it_lst, it_tup, natL_dep, see_natL, natL_items, sg_set, set_name, set_tup, see_noRef, patch_nil, patch_cons, ev, evs, evo, evc, evi, mSet, mRet, mDo, mUnp, mPar, mAug, mApp, mExt, mPut, mOwn, mCell, mFreeze, findH, bs, endOf, mArgs, mAnds, mOrs, mTAnds, mTOrs, mAnd, mOr, mNot, mTAnd, mTOr, mTNot, mTru, mIsB, mIf, mChain, mUn, mBin, mVar, mC, mCons, mNil, mTup, mLst, mCallB, mCall, mCut, mPart, mNoPart, mIter, mRng1_s, mRng2_s, mEnum, mZip, mComp, mYes, bx, notOwn, wipeO, startE, RV.sv, bd, ret, lift, RV.see, see_int, see_bl, see_str, see_non, see_tup, see_lst, see_ref, D.isi, BOp.g, COp.g, Bi.g, D.cmpI, D.add, D.sub, D.mul, D.fdiv, D.mod, D.neg, D.bLen, D.bAbs, D.bTuple, D.bList, D.bInt, allVal, setAll, D.truth, D.isNo, D.notNo, D.nonB, D.toInt, D.eqO, D.neO, D.inO, D.ninO, sz1, sz2, sz3, sz4, sz5, sz6, sz7, sz8, sz9, sz10, sz11, sz12, b_kinds_at, h1.1, e1]
    | true =>
      cases e2 : isInt w 0 167 with
      | false => simp (disch := first | assumption | omega | exact nr_int _ | exact nr_bl _ | exact nr_non | exact nr_str _ | exact nr_tup _ | exact nr_lst _ | solve_by_elim (maxDepth := 4)) [-getElem?_pos, -getElem?_neg, List.getElem?_cons_zero, List.getElem?_cons_succ, ↓ws_cons, ↓ws_frz, ↓ws_nil, KS_next, KS_ret, KS_exc, ↓ws_ite, wI_true, wI_false, wI_exc, ↓ws_loop, wL_ok, ↓ws_tr, KT_next, KT_ret, KT_exc, KF_next, KF_ret, KF_exc, KP_ret, KP_exc, ws_for_cons, ws_for_nil, wO_some, ws_some, wp_some, ↓ws_set, ↓ws_own, ↓ws_cell, ↓ws_unp, ↓ws_par, ↓ws_aug, ↓ws_app, ↓ws_ext, ↓ws_put, ↓ws_expr, ↓ws_retE, ↓ws_retN, ↓ws_pass, ↓ws_raise, szle, szlt, dle_t, dle_f, dlt_t, dlt_f, ibeq_t, ibeq_f, okR_of, isInt_yes, isInt_lo, isInt_hi, isInt_bl, isInt_non, isInt_str, isInt_tup, isInt_lst, nr_int, nr_bl, nr_str, nr_non, nr_tup, nr_lst, ↓compD_F, stepD, ↓compF_map, ↓compF_rng, compF_ret, compF_nil, compF_cons, ite_ok, ite_val, ite_bl, ite_int, fm_ite, fm_dec, rngD_len, st0, st1, see_st, see_sg, sg0, sg1, sg2, sg3, sg4, sg5, sg6, sg7, at_tup, at_lst, cut_tup, cut_lst, at0, at1, at2, at3, at4, at5, at6, at7, eq_non_non, eq_non_bl, eq_non_int, eq_non_str, eq_non_tup, eq_non_lst, eq_bl_non, eq_bl_bl, eq_bl_int, eq_bl_str, eq_bl_tup, eq_bl_lst, eq_int_non, eq_int_bl, eq_int_int, eq_int_str, eq_int_tup, eq_int_lst, eq_str_non, eq_str_bl, eq_str_int, eq_str_str, eq_str_tup, eq_str_lst, eq_tup_non, eq_tup_bl, eq_tup_int, eq_tup_str, eq_tup_tup, eq_tup_lst, eq_lst_non, eq_lst_bl, eq_lst_int, eq_lst_str, eq_lst_tup, eq_lst_lst, dep_non, dep_bl, dep_int, dep_str, dep_tup, dep_lst, deps_nil, deps_cons, it_lst, it_tup, natL_dep, see_natL, natL_items, sg_set, set_name, set_tup, see_noRef, patch_nil, patch_cons, ev, evs, evo, evc, evi, mSet, mRet, mDo, mUnp, mPar, mAug, mApp, mExt, mPut, mOwn, mCell, mFreeze, findH, bs, endOf, mArgs, mAnds, mOrs, mTAnds, mTOrs, mAnd, mOr, mNot, mTAnd, mTOr, mTNot, mTru, mIsB, mIf, mChain, mUn, mBin, mVar, mC, mCons, mNil, mTup, mLst, mCallB, mCall, mCut, mPart, mNoPart, mIter, mRng1_s, mRng2_s, mEnum, mZip, mComp, mYes, bx, notOwn, wipeO, startE, RV.sv, bd, ret, lift, RV.see, see_int, see_bl, see_str, see_non, see_tup, see_lst, see_ref, D.isi, BOp.g, COp.g, Bi.g, D.cmpI, D.add, D.sub, D.mul, D.fdiv, D.mod, D.neg, D.bLen, D.bAbs, D.bTuple, D.bList, D.bInt, allVal, setAll, D.truth, D.isNo, D.notNo, D.nonB, D.toInt, D.eqO, D.neO, D.inO, D.ninO, sz1, sz2, sz3, sz4, sz5, sz6, sz7, sz8, sz9, sz10, sz11, sz12, b_kinds_at, h1.1, e1, e2]
      | true =>
        have z1 := (int_of e1).1
        have z2 := (int_of e2).1
        generalize iv v = i at z1
        generalize iv w = j at z2
        subst z1 z2
        simp (disch := first | assumption | omega | exact nr_int _ | exact nr_bl _ | exact nr_non | exact nr_str _ | exact nr_tup _ | exact nr_lst _ | solve_by_elim (maxDepth := 4)) [-getElem?_pos, -getElem?_neg, List.getElem?_cons_zero, List.getElem?_cons_succ, ↓ws_cons, ↓ws_frz, ↓ws_nil, KS_next, KS_ret, KS_exc, ↓ws_ite, wI_true, wI_false, wI_exc, ↓ws_loop, wL_ok, ↓ws_tr, KT_next, KT_ret, KT_exc, KF_next, KF_ret, KF_exc, KP_ret, KP_exc, ws_for_cons, ws_for_nil, wO_some, ws_some, wp_some, ↓ws_set, ↓ws_own, ↓ws_cell, ↓ws_unp, ↓ws_par, ↓ws_aug, ↓ws_app, ↓ws_ext, ↓ws_put, ↓ws_expr, ↓ws_retE, ↓ws_retN, ↓ws_pass, ↓ws_raise, szle, szlt, dle_t, dle_f, dlt_t, dlt_f, ibeq_t, ibeq_f, okR_of, isInt_yes, isInt_lo, isInt_hi, isInt_bl, isInt_non, isInt_str, isInt_tup, isInt_lst, nr_int, nr_bl, nr_str, nr_non, nr_tup, nr_lst, ↓compD_F, stepD, ↓compF_map, ↓compF_rng, compF_ret, compF_nil, compF_cons, ite_ok, ite_val, ite_bl, ite_int, fm_ite, fm_dec, rngD_len, st0, st1, see_st, see_sg, sg0, sg1, sg2, sg3, sg4, sg5, sg6, sg7, at_tup, at_lst, cut_tup, cut_lst, at0, at1, at2, at3, at4, at5, at6, at7, eq_non_non, eq_non_bl, eq_non_int, eq_non_str, eq_non_tup, eq_non_lst, eq_bl_non, eq_bl_bl, eq_bl_int, eq_bl_str, eq_bl_tup, eq_bl_lst, eq_int_non, eq_int_bl, eq_int_int, eq_int_str, eq_int_tup, eq_int_lst, eq_str_non, eq_str_bl, eq_str_int, eq_str_str, eq_str_tup, eq_str_lst, eq_tup_non, eq_tup_bl, eq_tup_int, eq_tup_str, eq_tup_tup, eq_tup_lst, eq_lst_non, eq_lst_bl, eq_lst_int, eq_lst_str, eq_lst_tup, eq_lst_lst, dep_non, dep_bl, dep_int, dep_str, dep_tup, dep_lst, deps_nil, deps_cons, it_lst, it_tup, natL_dep, see_natL, natL_items, sg_set, set_name, set_tup, see_noRef, patch_nil, patch_cons, ev, evs, evo, evc, evi, mSet, mRet, mDo, mUnp, mPar, mAug, mApp, mExt, mPut, mOwn, mCell, mFreeze, findH, bs, endOf, mArgs, mAnds, mOrs, mTAnds, mTOrs, mAnd, mOr, mNot, mTAnd, mTOr, mTNot, mTru, mIsB, mIf, mChain, mUn, mBin, mVar, mC, mCons, mNil, mTup, mLst, mCallB, mCall, mCut, mPart, mNoPart, mIter, mRng1_s, mRng2_s, mEnum, mZip, mComp, mYes, bx, notOwn, wipeO, startE, RV.sv, bd, ret, lift, RV.see, see_int, see_bl, see_str, see_non, see_tup, see_lst, see_ref, D.isi, BOp.g, COp.g, Bi.g, D.cmpI, D.add, D.sub, D.mul, D.fdiv, D.mod, D.neg, D.bLen, D.bAbs, D.bTuple, D.bList, D.bInt, allVal, setAll, D.truth, D.isNo, D.notNo, D.nonB, D.toInt, D.eqO, D.neO, D.inO, D.ninO, sz1, sz2, sz3, sz4, sz5, sz6, sz7, sz8, sz9, sz10, sz11, sz12, b_kinds_at, h1.1, h0, e1, e2]
  · apply run_of
    simp (disch := first | assumption | omega | exact nr_int _ | exact nr_bl _ | exact nr_non | exact nr_str _ | exact nr_tup _ | exact nr_lst _ | solve_by_elim (maxDepth := 4)) [-getElem?_pos, -getElem?_neg, List.getElem?_cons_zero, List.getElem?_cons_succ, ↓ws_cons, ↓ws_frz, ↓ws_nil, KS_next, KS_ret, KS_exc, ↓ws_ite, wI_true, wI_false, wI_exc, ↓ws_loop, wL_ok, ↓ws_tr, KT_next, KT_ret, KT_exc, KF_next, KF_ret, KF_exc, KP_ret, KP_exc, ws_for_cons, ws_for_nil, wO_some, ws_some, wp_some, ↓ws_set, ↓ws_own, ↓ws_cell, ↓ws_unp, ↓ws_par, ↓ws_aug, ↓ws_app, ↓ws_ext, ↓ws_put, ↓ws_expr, ↓ws_retE, ↓ws_retN, ↓ws_pass, ↓ws_raise, szle, szlt, dle_t, dle_f, dlt_t, dlt_f, ibeq_t, ibeq_f, okR_of, isInt_yes, isInt_lo, isInt_hi, isInt_bl, isInt_non, isInt_str, isInt_tup, isInt_lst, nr_int, nr_bl, nr_str, nr_non, nr_tup, nr_lst, ↓compD_F, stepD, ↓compF_map, ↓compF_rng, compF_ret, compF_nil, compF_cons, ite_ok, ite_val, ite_bl, ite_int, fm_ite, fm_dec, rngD_len, st0, st1, see_st, see_sg, sg0, sg1, sg2, sg3, sg4, sg5, sg6, sg7, at_tup, at_lst, cut_tup, cut_lst, at0, at1, at2, at3, at4, at5, at6, at7, eq_non_non, eq_non_bl, eq_non_int, eq_non_str, eq_non_tup, eq_non_lst, eq_bl_non, eq_bl_bl, eq_bl_int, eq_bl_str, eq_bl_tup, eq_bl_lst, eq_int_non, eq_int_bl, eq_int_int, eq_int_str, eq_int_tup, eq_int_lst, eq_str_non, eq_str_bl, eq_str_int, eq_str_str, eq_str_tup, eq_str_lst, eq_tup_non, eq_tup_bl, eq_tup_int, eq_tup_str, eq_tup_tup, eq_tup_lst, eq_lst_non, eq_lst_bl, eq_lst_int, eq_lst_str, eq_lst_tup, eq_lst_lst, dep_non, dep_bl, dep_int, dep_str, dep_tup, dep_lst, deps_nil, deps_cons, it_lst, it_tup, natL_dep, see_natL, natL_items, sg_set, set_name, set_tup, see_noRef, patch_nil, patch_cons, ev, evs, evo, evc, evi, mSet, mRet, mDo, mUnp, mPar, mAug, mApp, mExt, mPut, mOwn, mCell, mFreeze, findH, bs, endOf, mArgs, mAnds, mOrs, mTAnds, mTOrs, mAnd, mOr, mNot, mTAnd, mTOr, mTNot, mTru, mIsB, mIf, mChain, mUn, mBin, mVar, mC, mCons, mNil, mTup, mLst, mCallB, mCall, mCut, mPart, mNoPart, mIter, mRng1_s, mRng2_s, mEnum, mZip, mComp, mYes, bx, notOwn, wipeO, startE, RV.sv, bd, ret, lift, RV.see, see_int, see_bl, see_str, see_non, see_tup, see_lst, see_ref, D.isi, BOp.g, COp.g, Bi.g, D.cmpI, D.add, D.sub, D.mul, D.fdiv, D.mod, D.neg, D.bLen, D.bAbs, D.bTuple, D.bList, D.bInt, allVal, setAll, D.truth, D.isNo, D.notNo, D.nonB, D.toInt, D.eqO, D.neO, D.inO, D.ninO, sz1, sz2, sz3, sz4, sz5, sz6, sz7, sz8, sz9, sz10, sz11, sz12, b_kinds_at, h1.2, hs]
theorem limit_ok {cl : Nat → FM} {n0 n1 xs xp xh : Nat} {V : List Sg → Int → Int → D} (h0 : SFindG V (cl n0)) (h1 : SReqSpotD xs xp xh (cl n1)) : SAtG xs xp xh V (runF cl 3 (b_limit n0 n1)) := kinds_at_ok h0 h1
theorem holdingD_ok {cl : Nat → FM} {n0 n1 xs xp xh : Nat} {V : List Sg → Int → Int → D} (h0 : SFindG V (cl n0)) (h1 : SReqSpotD xs xp xh (cl n1)) : SAtG xs xp xh V (runF cl 3 (b_holding n0 n1)) := kinds_at_ok h0 h1
theorem countingD_ok {cl : Nat → FM} {n0 n1 xs xp xh : Nat} {V : List Sg → Int → Int → D} (h0 : SFindG V (cl n0)) (h1 : SReqSpotD xs xp xh (cl n1)) : SAtG xs xp xh V (runF cl 3 (b_counting n0 n1)) := kinds_at_ok h0 h1
abbrev SMayStand (xs xk xp xh : Nat) (F : FM) : Prop :=
  (∀ p l k v w h, Str8 p l → k.noRef = true → v.noRef = true → w.noRef = true → F [.val (stD p l), .val k, .val v, .val w] h = if isInt k 0 2 = true then if isInt v 0 (p - 1) = true then if isInt w 0 167 = true then some (.ok (.bl ((kindsS (cntS l (iv v) (iv w))).contains (iv k).toNat)) h) else some (.exc xh h) else some (.exc xp h) else some (.exc xk h)) ∧
  ∀ (b k v w : D) h, b.ok = true → isStreetD b = false → F [.val b, .val k, .val v, .val w] h = some (.exc xs h)
theorem any_nat (l : List Nat) (k : Int) (hk : 0 ≤ k) : (l.any ((fun z => D.eq z (.int k)) ∘ fun (i : Nat) => D.int (i : Int))) = l.contains k.toNat := by
  rw [Bool.eq_iff_iff]
  simp only [List.any_eq_true, Function.comp, D.eq, beq_iff_eq, List.contains_iff_mem]
  constructor
  · rintro ⟨x, h, rfl⟩; simpa using h
  · intro h; exact ⟨k.toNat, h, by omega⟩
theorem may_stand_ok {cl : Nat → FM} {n0 n1 n2 n3 n4 xs xk xp xh : Nat} (h0 : SFindD (fun ss => natL (kindsS ss)) (cl n0)) (h1 : SReqInt 0 167 xh (cl n1)) (h2 : SReqPlace xp (cl n2)) (h3 : SReqInt 0 2 xk (cl n3)) (h4 : SReqStreetD xs (cl n4)) : SMayStand xs xk xp xh (runF cl 4 (b_may_stand n0 n1 n2 n3 n4)) := by
  refine ⟨fun p l k v w h S hk hv hw => ?_, fun b k v w h hb hs => ?_⟩
  · apply run_of
    have k1 := st_ok S
    have k2 := street_is S
    cases e1 : isInt k 0 2 with
    | false => simp (disch := first | assumption | omega | exact nr_int _ | exact nr_bl _ | exact nr_non | exact nr_str _ | exact nr_tup _ | exact nr_lst _ | solve_by_elim (maxDepth := 4)) [-getElem?_pos, -getElem?_neg, List.getElem?_cons_zero, List.getElem?_cons_succ, ↓ws_cons, ↓ws_frz, ↓ws_nil, KS_next, KS_ret, KS_exc, ↓ws_ite, wI_true, wI_false, wI_exc, ↓ws_loop, wL_ok, ↓ws_tr, KT_next, KT_ret, KT_exc, KF_next, KF_ret, KF_exc, KP_ret, KP_exc, ws_for_cons, ws_for_nil, wO_some, ws_some, wp_some, ↓ws_set, ↓ws_own, ↓ws_cell, ↓ws_unp, ↓ws_par, ↓ws_aug, ↓ws_app, ↓ws_ext, ↓ws_put, ↓ws_expr, ↓ws_retE, ↓ws_retN, ↓ws_pass, ↓ws_raise, szle, szlt, dle_t, dle_f, dlt_t, dlt_f, ibeq_t, ibeq_f, okR_of, isInt_yes, isInt_lo, isInt_hi, isInt_bl, isInt_non, isInt_str, isInt_tup, isInt_lst, nr_int, nr_bl, nr_str, nr_non, nr_tup, nr_lst, ↓compD_F, stepD, ↓compF_map, ↓compF_rng, compF_ret, compF_nil, compF_cons, ite_ok, ite_val, ite_bl, ite_int, fm_ite, fm_dec, rngD_len, st0, st1, see_st, see_sg, sg0, sg1, sg2, sg3, sg4, sg5, sg6, sg7, at_tup, at_lst, cut_tup, cut_lst, at0, at1, at2, at3, at4, at5, at6, at7, eq_non_non, eq_non_bl, eq_non_int, eq_non_str, eq_non_tup, eq_non_lst, eq_bl_non, eq_bl_bl, eq_bl_int, eq_bl_str, eq_bl_tup, eq_bl_lst, eq_int_non, eq_int_bl, eq_int_int, eq_int_str, eq_int_tup, eq_int_lst, eq_str_non, eq_str_bl, eq_str_int, eq_str_str, eq_str_tup, eq_str_lst, eq_tup_non, eq_tup_bl, eq_tup_int, eq_tup_str, eq_tup_tup, eq_tup_lst, eq_lst_non, eq_lst_bl, eq_lst_int, eq_lst_str, eq_lst_tup, eq_lst_lst, dep_non, dep_bl, dep_int, dep_str, dep_tup, dep_lst, deps_nil, deps_cons, it_lst, it_tup, natL_dep, see_natL, natL_items, sg_set, set_name, set_tup, see_noRef, patch_nil, patch_cons, ev, evs, evo, evc, evi, mSet, mRet, mDo, mUnp, mPar, mAug, mApp, mExt, mPut, mOwn, mCell, mFreeze, findH, bs, endOf, mArgs, mAnds, mOrs, mTAnds, mTOrs, mAnd, mOr, mNot, mTAnd, mTOr, mTNot, mTru, mIsB, mIf, mChain, mUn, mBin, mVar, mC, mCons, mNil, mTup, mLst, mCallB, mCall, mCut, mPart, mNoPart, mIter, mRng1_s, mRng2_s, mEnum, mZip, mComp, mYes, bx, notOwn, wipeO, startE, RV.sv, bd, ret, lift, RV.see, see_int, see_bl, see_str, see_non, see_tup, see_lst, see_ref, D.isi, BOp.g, COp.g, Bi.g, D.cmpI, D.add, D.sub, D.mul, D.fdiv, D.mod, D.neg, D.bLen, D.bAbs, D.bTuple, D.bList, D.bInt, allVal, setAll, D.truth, D.isNo, D.notNo, D.nonB, D.toInt, D.eqO, D.neO, D.inO, D.ninO, sz1, sz2, sz3, sz4, sz5, sz6, sz7, sz8, sz9, sz10, sz11, sz12, b_may_stand, h4, h3, k2, e1]
    | true =>
      cases e2 : isInt v 0 (p - 1) with
      | false => simp (disch := first | assumption | omega | exact nr_int _ | exact nr_bl _ | exact nr_non | exact nr_str _ | exact nr_tup _ | exact nr_lst _ | solve_by_elim (maxDepth := 4)) [-getElem?_pos, -getElem?_neg, List.getElem?_cons_zero, List.getElem?_cons_succ, ↓ws_cons, ↓ws_frz, ↓ws_nil, KS_next, KS_ret, KS_exc, ↓ws_ite, wI_true, wI_false, wI_exc, ↓ws_loop, wL_ok, ↓ws_tr, KT_next, KT_ret, KT_exc, KF_next, KF_ret, KF_exc, KP_ret, KP_exc, ws_for_cons, ws_for_nil, wO_some, ws_some, wp_some, ↓ws_set, ↓ws_own, ↓ws_cell, ↓ws_unp, ↓ws_par, ↓ws_aug, ↓ws_app, ↓ws_ext, ↓ws_put, ↓ws_expr, ↓ws_retE, ↓ws_retN, ↓ws_pass, ↓ws_raise, szle, szlt, dle_t, dle_f, dlt_t, dlt_f, ibeq_t, ibeq_f, okR_of, isInt_yes, isInt_lo, isInt_hi, isInt_bl, isInt_non, isInt_str, isInt_tup, isInt_lst, nr_int, nr_bl, nr_str, nr_non, nr_tup, nr_lst, ↓compD_F, stepD, ↓compF_map, ↓compF_rng, compF_ret, compF_nil, compF_cons, ite_ok, ite_val, ite_bl, ite_int, fm_ite, fm_dec, rngD_len, st0, st1, see_st, see_sg, sg0, sg1, sg2, sg3, sg4, sg5, sg6, sg7, at_tup, at_lst, cut_tup, cut_lst, at0, at1, at2, at3, at4, at5, at6, at7, eq_non_non, eq_non_bl, eq_non_int, eq_non_str, eq_non_tup, eq_non_lst, eq_bl_non, eq_bl_bl, eq_bl_int, eq_bl_str, eq_bl_tup, eq_bl_lst, eq_int_non, eq_int_bl, eq_int_int, eq_int_str, eq_int_tup, eq_int_lst, eq_str_non, eq_str_bl, eq_str_int, eq_str_str, eq_str_tup, eq_str_lst, eq_tup_non, eq_tup_bl, eq_tup_int, eq_tup_str, eq_tup_tup, eq_tup_lst, eq_lst_non, eq_lst_bl, eq_lst_int, eq_lst_str, eq_lst_tup, eq_lst_lst, dep_non, dep_bl, dep_int, dep_str, dep_tup, dep_lst, deps_nil, deps_cons, it_lst, it_tup, natL_dep, see_natL, natL_items, sg_set, set_name, set_tup, see_noRef, patch_nil, patch_cons, ev, evs, evo, evc, evi, mSet, mRet, mDo, mUnp, mPar, mAug, mApp, mExt, mPut, mOwn, mCell, mFreeze, findH, bs, endOf, mArgs, mAnds, mOrs, mTAnds, mTOrs, mAnd, mOr, mNot, mTAnd, mTOr, mTNot, mTru, mIsB, mIf, mChain, mUn, mBin, mVar, mC, mCons, mNil, mTup, mLst, mCallB, mCall, mCut, mPart, mNoPart, mIter, mRng1_s, mRng2_s, mEnum, mZip, mComp, mYes, bx, notOwn, wipeO, startE, RV.sv, bd, ret, lift, RV.see, see_int, see_bl, see_str, see_non, see_tup, see_lst, see_ref, D.isi, BOp.g, COp.g, Bi.g, D.cmpI, D.add, D.sub, D.mul, D.fdiv, D.mod, D.neg, D.bLen, D.bAbs, D.bTuple, D.bList, D.bInt, allVal, setAll, D.truth, D.isNo, D.notNo, D.nonB, D.toInt, D.eqO, D.neO, D.inO, D.ninO, sz1, sz2, sz3, sz4, sz5, sz6, sz7, sz8, sz9, sz10, sz11, sz12, b_may_stand, h4, h3, h2, k2, e1, e2]
      | true =>
        cases e3 : isInt w 0 167 with
        | false => simp (disch := first | assumption | omega | exact nr_int _ | exact nr_bl _ | exact nr_non | exact nr_str _ | exact nr_tup _ | exact nr_lst _ | solve_by_elim (maxDepth := 4)) [-getElem?_pos, -getElem?_neg, List.getElem?_cons_zero, List.getElem?_cons_succ, ↓ws_cons, ↓ws_frz, ↓ws_nil, KS_next, KS_ret, KS_exc, ↓ws_ite, wI_true, wI_false, wI_exc, ↓ws_loop, wL_ok, ↓ws_tr, KT_next, KT_ret, KT_exc, KF_next, KF_ret, KF_exc, KP_ret, KP_exc, ws_for_cons, ws_for_nil, wO_some, ws_some, wp_some, ↓ws_set, ↓ws_own, ↓ws_cell, ↓ws_unp, ↓ws_par, ↓ws_aug, ↓ws_app, ↓ws_ext, ↓ws_put, ↓ws_expr, ↓ws_retE, ↓ws_retN, ↓ws_pass, ↓ws_raise, szle, szlt, dle_t, dle_f, dlt_t, dlt_f, ibeq_t, ibeq_f, okR_of, isInt_yes, isInt_lo, isInt_hi, isInt_bl, isInt_non, isInt_str, isInt_tup, isInt_lst, nr_int, nr_bl, nr_str, nr_non, nr_tup, nr_lst, ↓compD_F, stepD, ↓compF_map, ↓compF_rng, compF_ret, compF_nil, compF_cons, ite_ok, ite_val, ite_bl, ite_int, fm_ite, fm_dec, rngD_len, st0, st1, see_st, see_sg, sg0, sg1, sg2, sg3, sg4, sg5, sg6, sg7, at_tup, at_lst, cut_tup, cut_lst, at0, at1, at2, at3, at4, at5, at6, at7, eq_non_non, eq_non_bl, eq_non_int, eq_non_str, eq_non_tup, eq_non_lst, eq_bl_non, eq_bl_bl, eq_bl_int, eq_bl_str, eq_bl_tup, eq_bl_lst, eq_int_non, eq_int_bl, eq_int_int, eq_int_str, eq_int_tup, eq_int_lst, eq_str_non, eq_str_bl, eq_str_int, eq_str_str, eq_str_tup, eq_str_lst, eq_tup_non, eq_tup_bl, eq_tup_int, eq_tup_str, eq_tup_tup, eq_tup_lst, eq_lst_non, eq_lst_bl, eq_lst_int, eq_lst_str, eq_lst_tup, eq_lst_lst, dep_non, dep_bl, dep_int, dep_str, dep_tup, dep_lst, deps_nil, deps_cons, it_lst, it_tup, natL_dep, see_natL, natL_items, sg_set, set_name, set_tup, see_noRef, patch_nil, patch_cons, ev, evs, evo, evc, evi, mSet, mRet, mDo, mUnp, mPar, mAug, mApp, mExt, mPut, mOwn, mCell, mFreeze, findH, bs, endOf, mArgs, mAnds, mOrs, mTAnds, mTOrs, mAnd, mOr, mNot, mTAnd, mTOr, mTNot, mTru, mIsB, mIf, mChain, mUn, mBin, mVar, mC, mCons, mNil, mTup, mLst, mCallB, mCall, mCut, mPart, mNoPart, mIter, mRng1_s, mRng2_s, mEnum, mZip, mComp, mYes, bx, notOwn, wipeO, startE, RV.sv, bd, ret, lift, RV.see, see_int, see_bl, see_str, see_non, see_tup, see_lst, see_ref, D.isi, BOp.g, COp.g, Bi.g, D.cmpI, D.add, D.sub, D.mul, D.fdiv, D.mod, D.neg, D.bLen, D.bAbs, D.bTuple, D.bList, D.bInt, allVal, setAll, D.truth, D.isNo, D.notNo, D.nonB, D.toInt, D.eqO, D.neO, D.inO, D.ninO, sz1, sz2, sz3, sz4, sz5, sz6, sz7, sz8, sz9, sz10, sz11, sz12, b_may_stand, h4, h3, h2, h1, k2, e1, e2, e3]
        | true =>
          have z1 := int_of e1
          have z2 := (int_of e2).1
          have z3 := (int_of e3).1
          generalize iv k = a at z1
          generalize iv v = i at z2
          generalize iv w = j at z3
          obtain ⟨rfl, z1, _⟩ := z1
          subst z2 z3
          simp (disch := first | assumption | omega | exact nr_int _ | exact nr_bl _ | exact nr_non | exact nr_str _ | exact nr_tup _ | exact nr_lst _ | solve_by_elim (maxDepth := 4)) [-getElem?_pos, -getElem?_neg, List.getElem?_cons_zero, List.getElem?_cons_succ, ↓ws_cons, ↓ws_frz, ↓ws_nil, KS_next, KS_ret, KS_exc, ↓ws_ite, wI_true, wI_false, wI_exc, ↓ws_loop, wL_ok, ↓ws_tr, KT_next, KT_ret, KT_exc, KF_next, KF_ret, KF_exc, KP_ret, KP_exc, ws_for_cons, ws_for_nil, wO_some, ws_some, wp_some, ↓ws_set, ↓ws_own, ↓ws_cell, ↓ws_unp, ↓ws_par, ↓ws_aug, ↓ws_app, ↓ws_ext, ↓ws_put, ↓ws_expr, ↓ws_retE, ↓ws_retN, ↓ws_pass, ↓ws_raise, szle, szlt, dle_t, dle_f, dlt_t, dlt_f, ibeq_t, ibeq_f, okR_of, isInt_yes, isInt_lo, isInt_hi, isInt_bl, isInt_non, isInt_str, isInt_tup, isInt_lst, nr_int, nr_bl, nr_str, nr_non, nr_tup, nr_lst, ↓compD_F, stepD, ↓compF_map, ↓compF_rng, compF_ret, compF_nil, compF_cons, ite_ok, ite_val, ite_bl, ite_int, fm_ite, fm_dec, rngD_len, st0, st1, see_st, see_sg, sg0, sg1, sg2, sg3, sg4, sg5, sg6, sg7, at_tup, at_lst, cut_tup, cut_lst, at0, at1, at2, at3, at4, at5, at6, at7, eq_non_non, eq_non_bl, eq_non_int, eq_non_str, eq_non_tup, eq_non_lst, eq_bl_non, eq_bl_bl, eq_bl_int, eq_bl_str, eq_bl_tup, eq_bl_lst, eq_int_non, eq_int_bl, eq_int_int, eq_int_str, eq_int_tup, eq_int_lst, eq_str_non, eq_str_bl, eq_str_int, eq_str_str, eq_str_tup, eq_str_lst, eq_tup_non, eq_tup_bl, eq_tup_int, eq_tup_str, eq_tup_tup, eq_tup_lst, eq_lst_non, eq_lst_bl, eq_lst_int, eq_lst_str, eq_lst_tup, eq_lst_lst, dep_non, dep_bl, dep_int, dep_str, dep_tup, dep_lst, deps_nil, deps_cons, it_lst, it_tup, natL_dep, see_natL, natL_items, sg_set, set_name, set_tup, see_noRef, patch_nil, patch_cons, ev, evs, evo, evc, evi, mSet, mRet, mDo, mUnp, mPar, mAug, mApp, mExt, mPut, mOwn, mCell, mFreeze, findH, bs, endOf, mArgs, mAnds, mOrs, mTAnds, mTOrs, mAnd, mOr, mNot, mTAnd, mTOr, mTNot, mTru, mIsB, mIf, mChain, mUn, mBin, mVar, mC, mCons, mNil, mTup, mLst, mCallB, mCall, mCut, mPart, mNoPart, mIter, mRng1_s, mRng2_s, mEnum, mZip, mComp, mYes, bx, notOwn, wipeO, startE, RV.sv, bd, ret, lift, RV.see, see_int, see_bl, see_str, see_non, see_tup, see_lst, see_ref, D.isi, BOp.g, COp.g, Bi.g, D.cmpI, D.add, D.sub, D.mul, D.fdiv, D.mod, D.neg, D.bLen, D.bAbs, D.bTuple, D.bList, D.bInt, allVal, setAll, D.truth, D.isNo, D.notNo, D.nonB, D.toInt, D.eqO, D.neO, D.inO, D.ninO, sz1, sz2, sz3, sz4, sz5, sz6, sz7, sz8, sz9, sz10, sz11, sz12, b_may_stand, h4, h3, h2, h1, h0, k2, e1, e2, e3, natL_dep, see_natL, natL_items, any_nat]
  · apply run_of
    simp (disch := first | assumption | omega | exact nr_int _ | exact nr_bl _ | exact nr_non | exact nr_str _ | exact nr_tup _ | exact nr_lst _ | solve_by_elim (maxDepth := 4)) [-getElem?_pos, -getElem?_neg, List.getElem?_cons_zero, List.getElem?_cons_succ, ↓ws_cons, ↓ws_frz, ↓ws_nil, KS_next, KS_ret, KS_exc, ↓ws_ite, wI_true, wI_false, wI_exc, ↓ws_loop, wL_ok, ↓ws_tr, KT_next, KT_ret, KT_exc, KF_next, KF_ret, KF_exc, KP_ret, KP_exc, ws_for_cons, ws_for_nil, wO_some, ws_some, wp_some, ↓ws_set, ↓ws_own, ↓ws_cell, ↓ws_unp, ↓ws_par, ↓ws_aug, ↓ws_app, ↓ws_ext, ↓ws_put, ↓ws_expr, ↓ws_retE, ↓ws_retN, ↓ws_pass, ↓ws_raise, szle, szlt, dle_t, dle_f, dlt_t, dlt_f, ibeq_t, ibeq_f, okR_of, isInt_yes, isInt_lo, isInt_hi, isInt_bl, isInt_non, isInt_str, isInt_tup, isInt_lst, nr_int, nr_bl, nr_str, nr_non, nr_tup, nr_lst, ↓compD_F, stepD, ↓compF_map, ↓compF_rng, compF_ret, compF_nil, compF_cons, ite_ok, ite_val, ite_bl, ite_int, fm_ite, fm_dec, rngD_len, st0, st1, see_st, see_sg, sg0, sg1, sg2, sg3, sg4, sg5, sg6, sg7, at_tup, at_lst, cut_tup, cut_lst, at0, at1, at2, at3, at4, at5, at6, at7, eq_non_non, eq_non_bl, eq_non_int, eq_non_str, eq_non_tup, eq_non_lst, eq_bl_non, eq_bl_bl, eq_bl_int, eq_bl_str, eq_bl_tup, eq_bl_lst, eq_int_non, eq_int_bl, eq_int_int, eq_int_str, eq_int_tup, eq_int_lst, eq_str_non, eq_str_bl, eq_str_int, eq_str_str, eq_str_tup, eq_str_lst, eq_tup_non, eq_tup_bl, eq_tup_int, eq_tup_str, eq_tup_tup, eq_tup_lst, eq_lst_non, eq_lst_bl, eq_lst_int, eq_lst_str, eq_lst_tup, eq_lst_lst, dep_non, dep_bl, dep_int, dep_str, dep_tup, dep_lst, deps_nil, deps_cons, it_lst, it_tup, natL_dep, see_natL, natL_items, sg_set, set_name, set_tup, see_noRef, patch_nil, patch_cons, ev, evs, evo, evc, evi, mSet, mRet, mDo, mUnp, mPar, mAug, mApp, mExt, mPut, mOwn, mCell, mFreeze, findH, bs, endOf, mArgs, mAnds, mOrs, mTAnds, mTOrs, mAnd, mOr, mNot, mTAnd, mTOr, mTNot, mTru, mIsB, mIf, mChain, mUn, mBin, mVar, mC, mCons, mNil, mTup, mLst, mCallB, mCall, mCut, mPart, mNoPart, mIter, mRng1_s, mRng2_s, mEnum, mZip, mComp, mYes, bx, notOwn, wipeO, startE, RV.sv, bd, ret, lift, RV.see, see_int, see_bl, see_str, see_non, see_tup, see_lst, see_ref, D.isi, BOp.g, COp.g, Bi.g, D.cmpI, D.add, D.sub, D.mul, D.fdiv, D.mod, D.neg, D.bLen, D.bAbs, D.bTuple, D.bList, D.bInt, allVal, setAll, D.truth, D.isNo, D.notNo, D.nonB, D.toInt, D.eqO, D.neO, D.inO, D.ninO, sz1, sz2, sz3, sz4, sz5, sz6, sz7, sz8, sz9, sz10, sz11, sz12, b_may_stand, h4, hs]
end Kb
namespace Kb
open PySem L2
/-! ### loops of some kinds -/
section
variable {cl : Nat → FM} {t : Tg} {b : Ss} {Q : SRes → Prop} {ρ : En} {h : List Cell} {ds : List D}
/-- nothing but checks -/
theorem ws_forC (ms : List Nat) (step : ∀ d ∈ ds, ∀ v, wO (t.set d (patch ρ ms v)) fun ρ1 => ws (evSs cl b ρ1 h) (KP ρ ms (fun _ _ h' => h' = h) [] Q)) (fin : ∀ v, Q (.next (patch ρ ms v) h)) : ws (forD t (evSs cl b) ds ρ h) Q := by
  refine ws_forP ms (fun rest v h' => h' = h ∧ ∀ d ∈ rest, d ∈ ds) ⟨rfl, fun d hd => hd⟩ ?_ ?_
  · rintro d rest v _ ⟨rfl, hd⟩
    obtain ⟨ρ1, e, q⟩ := step d (hd d List.mem_cons_self) v
    refine ⟨ρ1, e, ws_mono q fun x k => ?_⟩
    cases x with
    | next ρ2 h2 =>
      obtain ⟨v, e, j⟩ := k
      exact ⟨v, e, j, fun d h => hd d (List.mem_cons_of_mem _ h)⟩
    | ret d h1 => exact k
    | exc c h1 => exact k
  · rintro v _ ⟨rfl, _⟩
    exact fin v
/-- checks and draws -/
theorem ws_forS (ms : List Nat) (n c : Nat) (s0 : St n h) (hl : n + c * ds.length ≤ 20000) (step : ∀ d ∈ ds, ∀ v h n', St n' h → n' + c ≤ 20000 → wO (t.set d (patch ρ ms v)) fun ρ1 => ws (evSs cl b ρ1 h) (KP ρ ms (fun _ _ h' => St (n' + c) h') [] Q)) (fin : ∀ v h', St (n + c * ds.length) h' → Q (.next (patch ρ ms v) h')) : ws (forD t (evSs cl b) ds ρ h) Q := by
  refine ws_forP ms (fun rest v h' => (∃ n', St n' h' ∧ n' + c * rest.length = n + c * ds.length) ∧ ∀ d ∈ rest, d ∈ ds) ⟨⟨n, s0, rfl⟩, fun d hd => hd⟩ ?_ ?_
  · rintro d rest v h ⟨⟨n', s, e1⟩, hd⟩
    simp only [List.length_cons, Nat.mul_succ] at e1
    obtain ⟨ρ1, e, q⟩ := step d (hd d List.mem_cons_self) v h n' s (by omega)
    refine ⟨ρ1, e, ws_mono q fun x k => ?_⟩
    cases x with
    | next ρ2 h2 =>
      obtain ⟨v, e, j⟩ := k
      exact ⟨v, e, ⟨n' + c, j, by omega⟩, fun d h => hd d (List.mem_cons_of_mem _ h)⟩
    | ret d h1 => exact k
    | exc c h1 => exact k
  · rintro v h ⟨⟨n', s, e1⟩, _⟩
    simp only [List.length_nil, Nat.mul_zero, Nat.add_zero] at e1
    rw [e1] at s
    exact fin v h s
/-- a list grows in slot i -/
theorem ws_forA (ms : List Nat) (i : Nat) (c : List D → SV) (g : D → List D) (acc0 : List D) (h0 : getV ρ i = some (c acc0)) (step : ∀ done d rest acc, ds = done ++ d :: rest → acc = acc0 ++ done.flatMap g → ∀ v, v i = some (c acc) → wO (t.set d (patch ρ ms v)) fun ρ1 => ws (evSs cl b ρ1 h) (KP ρ ms (fun _ v h' => h' = h ∧ v i = some (c (acc ++ g d))) [] Q)) (fin : ∀ v, v i = some (c (acc0 ++ ds.flatMap g)) → Q (.next (patch ρ ms v) h)) : ws (forD t (evSs cl b) ds ρ h) Q := by
  refine ws_forP ms (fun rest v h' => h' = h ∧ ∃ done, ds = done ++ rest ∧ v i = some (c (acc0 ++ done.flatMap g))) ⟨rfl, [], rfl, by rw [List.flatMap_nil, List.append_nil]; exact h0⟩ ?_ ?_
  · rintro d rest v _ ⟨rfl, done, e1, e2⟩
    obtain ⟨ρ1, e, q⟩ := step done d rest _ e1 rfl v e2
    refine ⟨ρ1, e, ws_mono q fun x k => ?_⟩
    cases x with
    | next ρ2 h2 =>
      obtain ⟨v, e, j1, j2⟩ := k
      refine ⟨v, e, j1, done ++ [d], by rw [e1, List.append_assoc]; rfl, ?_⟩
      rw [j2, List.flatMap_append, List.append_assoc]
      simp
    | ret d h1 => exact k
    | exc c h1 => exact k
  · rintro v _ ⟨rfl, done, e1, e2⟩
    rw [List.append_nil] at e1
    subst e1
    exact fin v e2
end
theorem KP_C {ρ0 ρ : En} {ms : List Nat} {rest : List D} {Q : SRes → Prop} {h h' : List Cell} (e : patch ρ ms (getV ρ) = patch ρ0 ms (getV ρ)) (j : h' = h) : KP ρ0 ms (fun _ _ h' => h' = h) rest Q (.next ρ h') := KP_of e j
/-! ### try: return f(..) except ..: the exception's name -/
def orD (hs : List (Nat × Str)) : Option (Res D) → Option (Res D)
  | none => none
  | some (.ok d h) => some (.ok d h)
  | some (.exc c h) => match findH hs c with
    | some s => some (.ok (.str s) h)
    | none => none
theorem or_ok (hs : List (Nat × Str)) (d : D) (h : List Cell) : orD hs (some (.ok d h)) = some (.ok d h) := rfl
theorem or_exc (hs : List (Nat × Str)) (c : Nat) (h : List Cell) : orD hs (some (.exc c h)) = match findH hs c with
    | some s => some (.ok (.str s) h)
    | none => none := rfl
abbrev SOr1 (hs : List (Nat × Str)) (P : FM → Prop) (F : FM) : Prop := ∃ G, P G ∧ ∀ (a : D) h, F [.val a] h = orD hs (G [.val a] h)
abbrev SOr2 (hs : List (Nat × Str)) (P : FM → Prop) (F : FM) : Prop := ∃ G, P G ∧ ∀ (a b : D) h, F [.val a, .val b] h = orD hs (G [.val a, .val b] h)
abbrev SOr3 (hs : List (Nat × Str)) (P : FM → Prop) (F : FM) : Prop := ∃ G, P G ∧ ∀ (a b c : D) h, F [.val a, .val b, .val c] h = orD hs (G [.val a, .val b, .val c] h)
abbrev SOr4 (hs : List (Nat × Str)) (P : FM → Prop) (F : FM) : Prop := ∃ G, P G ∧ ∀ (a b c d : D) h, F [.val a, .val b, .val c, .val d] h = orD hs (G [.val a, .val b, .val c, .val d] h)
abbrev SOr5 (hs : List (Nat × Str)) (P : FM → Prop) (F : FM) : Prop := ∃ G, P G ∧ ∀ (a b c d e : D) h, F [.val a, .val b, .val c, .val d, .val e] h = orD hs (G [.val a, .val b, .val c, .val d, .val e] h)
theorem or_end (x : Option (Res D)) (hs : List (Nat × Str)) : endOf (match (match x with | none => none | some (.exc c h) => some (.exc c h) | some (.ok d h) => some (.ret d h) : Option SRes) with | some (.exc c h') => (match findH hs c with | some s => some (.ret (.str s) h') | none => none) | x => x) = orD hs x := by
  cases x with
  | none => rfl
  | some r =>
    cases r with
    | ok d h => rfl
    | exc c h =>
      dsimp only [orD]
      cases findH hs c <;> rfl
def bOr (n : Nat) (args : Es) (hs : List (Nat × Str)) : Ss := .cons (.tr (.cons (.ret (.call n args)) .nil) hs) .nil
theorem or_run {cl : Nat → FM} {n : Nat} {args : Es} {hs : List (Nat × Str)} {ρ : En} {h : List Cell} {vs : List RV} (e : mArgs (evs cl args) ρ h = some (.ok vs h)) (hl : vs.length = (evs cl args).length) : endOf (evSs cl (bOr n args hs) ρ h) = orD hs (cl n vs h) := by
  have e1 : evS cl (.ret (.call n args)) ρ h = match cl n vs h with | none => none | some (.exc c h) => some (.exc c h) | some (.ok d h) => some (.ret d h) := by
    simp only [evS, mRet, ev, mCall, e, bd, hl, if_true]
    cases cl n vs h with
    | none => rfl
    | some r => cases r <;> rfl
  rw [← or_end]
  simp only [bOr, evSs, evS, mSeq, mTry, mSkip] at e1 ⊢
  rw [e1]
  cases cl n vs h with
  | none => rfl
  | some r =>
    cases r with
    | ok d h => rfl
    | exc c h =>
      dsimp only
      cases findH hs c <;> rfl
theorem or1_ok {cl : Nat → FM} {n : Nat} {hs : List (Nat × Str)} {P : FM → Prop} (h0 : P (cl n)) : SOr1 hs P (runF cl 1 (bOr n (.cons (.var 0) .nil) hs)) := ⟨cl n, h0, fun a h => or_run rfl rfl⟩
theorem or2_ok {cl : Nat → FM} {n : Nat} {hs : List (Nat × Str)} {P : FM → Prop} (h0 : P (cl n)) : SOr2 hs P (runF cl 2 (bOr n (.cons (.var 0) (.cons (.var 1) .nil)) hs)) := ⟨cl n, h0, fun a b h => or_run rfl rfl⟩
theorem or3_ok {cl : Nat → FM} {n : Nat} {hs : List (Nat × Str)} {P : FM → Prop} (h0 : P (cl n)) : SOr3 hs P (runF cl 3 (bOr n (.cons (.var 0) (.cons (.var 1) (.cons (.var 2) .nil))) hs)) := ⟨cl n, h0, fun a b c h => or_run rfl rfl⟩
theorem or4_ok {cl : Nat → FM} {n : Nat} {hs : List (Nat × Str)} {P : FM → Prop} (h0 : P (cl n)) : SOr4 hs P (runF cl 4 (bOr n (.cons (.var 0) (.cons (.var 1) (.cons (.var 2) (.cons (.var 3) .nil)))) hs)) := ⟨cl n, h0, fun a b c d h => or_run rfl rfl⟩
theorem or5_ok {cl : Nat → FM} {n : Nat} {hs : List (Nat × Str)} {P : FM → Prop} (h0 : P (cl n)) : SOr5 hs P (runF cl 5 (bOr n (.cons (.var 0) (.cons (.var 1) (.cons (.var 2) (.cons (.var 3) (.cons (.var 4) .nil))))) hs)) := ⟨cl n, h0, fun a b c d e h => or_run rfl rfl⟩
/-! ### the same -/
mutual
def D.plain : D → Bool
  | .ref _ => false
  | .lst _ => false
  | .tup xs => decide (xs.length ≤ 1000) && D.plainL xs
  | _ => true
def D.plainL : List D → Bool
  | [] => true
  | x :: xs => D.plain x && D.plainL xs
end
theorem plainL_mem : ∀ {l : List D}, D.plainL l = true → ∀ d ∈ l, d.plain = true
  | [], _, d, h => by cases h
  | x :: xs, h, d, hd => by
    simp only [D.plainL, Bool.and_eq_true] at h
    rcases List.mem_cons.mp hd with rfl | hd
    · exact h.1
    · exact plainL_mem h.2 d hd
theorem dep_mem : ∀ {l : List D}, ∀ d ∈ l, d.dep ≤ D.deps l
  | [], d, h => by cases h
  | x :: xs, d, hd => by
    simp only [D.deps]
    rcases List.mem_cons.mp hd with rfl | hd
    · omega
    · have := dep_mem d hd; omega
abbrev SSame (n : Nat) (F : FM) : Prop := ∀ (d : D) h, d.plain = true → d.dep ≤ n → F [.val d, .val d] h = some (.ok (.bl true) h)
theorem zip_self : ∀ (l : List D), zipD l l = l.map fun d => .tup [d, d]
  | [] => rfl
  | d :: l => by simp [zipD, zip_self l]
theorem plain_noRef {d : D} (h : d.plain = true) : d.noRef = true := by
  cases d <;> first | rfl | (simp [D.plain] at h)
theorem same_ok0 {cl : Nat → FM} {n0 : Nat} : SSame 0 (runF cl 4 (b__law_same n0)) := by
  intro d h hp hd
  apply run_of
  cases d with
  | tup xs => simp [D.dep] at hd
  | ref r => simp [D.plain] at hp
  | lst r => simp [D.plain] at hp
  | _ => simp (disch := first | assumption | omega | exact nr_int _ | exact nr_bl _ | exact nr_non | exact nr_str _ | exact nr_tup _ | exact nr_lst _ | solve_by_elim (maxDepth := 4)) [-getElem?_pos, -getElem?_neg, List.getElem?_cons_zero, List.getElem?_cons_succ, ↓ws_cons, ↓ws_frz, ↓ws_nil, KS_next, KS_ret, KS_exc, ↓ws_ite, wI_true, wI_false, wI_exc, ↓ws_loop, wL_ok, ↓ws_tr, KT_next, KT_ret, KT_exc, KF_next, KF_ret, KF_exc, KP_ret, KP_exc, ws_for_cons, ws_for_nil, wO_some, ws_some, wp_some, ↓ws_set, ↓ws_own, ↓ws_cell, ↓ws_unp, ↓ws_par, ↓ws_aug, ↓ws_app, ↓ws_ext, ↓ws_put, ↓ws_expr, ↓ws_retE, ↓ws_retN, ↓ws_pass, ↓ws_raise, szle, szlt, dle_t, dle_f, dlt_t, dlt_f, ibeq_t, ibeq_f, okR_of, isInt_yes, isInt_lo, isInt_hi, isInt_bl, isInt_non, isInt_str, isInt_tup, isInt_lst, nr_int, nr_bl, nr_str, nr_non, nr_tup, nr_lst, ↓compD_F, stepD, ↓compF_map, ↓compF_rng, compF_ret, compF_nil, compF_cons, ite_ok, ite_val, ite_bl, ite_int, fm_ite, fm_dec, rngD_len, st0, st1, see_st, see_sg, sg0, sg1, sg2, sg3, sg4, sg5, sg6, sg7, at_tup, at_lst, cut_tup, cut_lst, at0, at1, at2, at3, at4, at5, at6, at7, eq_non_non, eq_non_bl, eq_non_int, eq_non_str, eq_non_tup, eq_non_lst, eq_bl_non, eq_bl_bl, eq_bl_int, eq_bl_str, eq_bl_tup, eq_bl_lst, eq_int_non, eq_int_bl, eq_int_int, eq_int_str, eq_int_tup, eq_int_lst, eq_str_non, eq_str_bl, eq_str_int, eq_str_str, eq_str_tup, eq_str_lst, eq_tup_non, eq_tup_bl, eq_tup_int, eq_tup_str, eq_tup_tup, eq_tup_lst, eq_lst_non, eq_lst_bl, eq_lst_int, eq_lst_str, eq_lst_tup, eq_lst_lst, dep_non, dep_bl, dep_int, dep_str, dep_tup, dep_lst, deps_nil, deps_cons, it_lst, it_tup, natL_dep, see_natL, natL_items, sg_set, set_name, set_tup, see_noRef, patch_nil, patch_cons, ev, evs, evo, evc, evi, mSet, mRet, mDo, mUnp, mPar, mAug, mApp, mExt, mPut, mOwn, mCell, mFreeze, findH, bs, endOf, mArgs, mAnds, mOrs, mTAnds, mTOrs, mAnd, mOr, mNot, mTAnd, mTOr, mTNot, mTru, mIsB, mIf, mChain, mUn, mBin, mVar, mC, mCons, mNil, mTup, mLst, mCallB, mCall, mCut, mPart, mNoPart, mIter, mRng1_s, mRng2_s, mEnum, mZip, mComp, mYes, bx, notOwn, wipeO, startE, RV.sv, bd, ret, lift, RV.see, see_int, see_bl, see_str, see_non, see_tup, see_lst, see_ref, D.isi, BOp.g, COp.g, Bi.g, D.cmpI, D.add, D.sub, D.mul, D.fdiv, D.mod, D.neg, D.bLen, D.bAbs, D.bTuple, D.bList, D.bInt, allVal, setAll, D.truth, D.isNo, D.notNo, D.nonB, D.toInt, D.eqO, D.neO, D.inO, D.ninO, sz1, sz2, sz3, sz4, sz5, sz6, sz7, sz8, sz9, sz10, sz11, sz12, b__law_same]
theorem same_ok {cl : Nat → FM} {n0 n : Nat} (h0 : SSame n (cl n0)) : SSame (n + 1) (runF cl 4 (b__law_same n0)) := by
  intro d h hp hd
  apply run_of
  cases d with
  | tup xs =>
    simp only [D.plain, Bool.and_eq_true, decide_eq_true_eq] at hp
    simp only [D.dep] at hd
    have h1 : ∀ d ∈ xs, ∀ h, cl n0 [.val d, .val d] h = some (.ok (.bl true) h) := fun d hm h => h0 d h (plainL_mem hp.2 d hm) (by have := dep_mem d hm; omega)
    have ea : (xs.all fun _ => true) = true := by simp
    have eb := all_of xs fun _ => true
    rw [ea] at eb
    simp (disch := first | assumption | omega | exact nr_int _ | exact nr_bl _ | exact nr_non | exact nr_str _ | exact nr_tup _ | exact nr_lst _ | solve_by_elim (maxDepth := 4)) [-getElem?_pos, -getElem?_neg, List.getElem?_cons_zero, List.getElem?_cons_succ, ↓ws_cons, ↓ws_frz, ↓ws_nil, KS_next, KS_ret, KS_exc, ↓ws_ite, wI_true, wI_false, wI_exc, ↓ws_loop, wL_ok, ↓ws_tr, KT_next, KT_ret, KT_exc, KF_next, KF_ret, KF_exc, KP_ret, KP_exc, ws_for_cons, ws_for_nil, wO_some, ws_some, wp_some, ↓ws_set, ↓ws_own, ↓ws_cell, ↓ws_unp, ↓ws_par, ↓ws_aug, ↓ws_app, ↓ws_ext, ↓ws_put, ↓ws_expr, ↓ws_retE, ↓ws_retN, ↓ws_pass, ↓ws_raise, szle, szlt, dle_t, dle_f, dlt_t, dlt_f, ibeq_t, ibeq_f, okR_of, isInt_yes, isInt_lo, isInt_hi, isInt_bl, isInt_non, isInt_str, isInt_tup, isInt_lst, nr_int, nr_bl, nr_str, nr_non, nr_tup, nr_lst, ↓compD_F, stepD, ↓compF_map, ↓compF_rng, compF_ret, compF_nil, compF_cons, ite_ok, ite_val, ite_bl, ite_int, fm_ite, fm_dec, rngD_len, st0, st1, see_st, see_sg, sg0, sg1, sg2, sg3, sg4, sg5, sg6, sg7, at_tup, at_lst, cut_tup, cut_lst, at0, at1, at2, at3, at4, at5, at6, at7, eq_non_non, eq_non_bl, eq_non_int, eq_non_str, eq_non_tup, eq_non_lst, eq_bl_non, eq_bl_bl, eq_bl_int, eq_bl_str, eq_bl_tup, eq_bl_lst, eq_int_non, eq_int_bl, eq_int_int, eq_int_str, eq_int_tup, eq_int_lst, eq_str_non, eq_str_bl, eq_str_int, eq_str_str, eq_str_tup, eq_str_lst, eq_tup_non, eq_tup_bl, eq_tup_int, eq_tup_str, eq_tup_tup, eq_tup_lst, eq_lst_non, eq_lst_bl, eq_lst_int, eq_lst_str, eq_lst_tup, eq_lst_lst, dep_non, dep_bl, dep_int, dep_str, dep_tup, dep_lst, deps_nil, deps_cons, it_lst, it_tup, natL_dep, see_natL, natL_items, sg_set, set_name, set_tup, see_noRef, patch_nil, patch_cons, ev, evs, evo, evc, evi, mSet, mRet, mDo, mUnp, mPar, mAug, mApp, mExt, mPut, mOwn, mCell, mFreeze, findH, bs, endOf, mArgs, mAnds, mOrs, mTAnds, mTOrs, mAnd, mOr, mNot, mTAnd, mTOr, mTNot, mTru, mIsB, mIf, mChain, mUn, mBin, mVar, mC, mCons, mNil, mTup, mLst, mCallB, mCall, mCut, mPart, mNoPart, mIter, mRng1_s, mRng2_s, mEnum, mZip, mComp, mYes, bx, notOwn, wipeO, startE, RV.sv, bd, ret, lift, RV.see, see_int, see_bl, see_str, see_non, see_tup, see_lst, see_ref, D.isi, BOp.g, COp.g, Bi.g, D.cmpI, D.add, D.sub, D.mul, D.fdiv, D.mod, D.neg, D.bLen, D.bAbs, D.bTuple, D.bList, D.bInt, allVal, setAll, D.truth, D.isNo, D.notNo, D.nonB, D.toInt, D.eqO, D.neO, D.inO, D.ninO, sz1, sz2, sz3, sz4, sz5, sz6, sz7, sz8, sz9, sz10, sz11, sz12, b__law_same, zip_self]
    rw [compF_ok fun _ => some (.bl true)]
    · simp (disch := first | assumption | omega | exact nr_int _ | exact nr_bl _ | exact nr_non | exact nr_str _ | exact nr_tup _ | exact nr_lst _ | solve_by_elim (maxDepth := 4)) [-getElem?_pos, -getElem?_neg, List.getElem?_cons_zero, List.getElem?_cons_succ, ↓ws_cons, ↓ws_frz, ↓ws_nil, KS_next, KS_ret, KS_exc, ↓ws_ite, wI_true, wI_false, wI_exc, ↓ws_loop, wL_ok, ↓ws_tr, KT_next, KT_ret, KT_exc, KF_next, KF_ret, KF_exc, KP_ret, KP_exc, ws_for_cons, ws_for_nil, wO_some, ws_some, wp_some, ↓ws_set, ↓ws_own, ↓ws_cell, ↓ws_unp, ↓ws_par, ↓ws_aug, ↓ws_app, ↓ws_ext, ↓ws_put, ↓ws_expr, ↓ws_retE, ↓ws_retN, ↓ws_pass, ↓ws_raise, szle, szlt, dle_t, dle_f, dlt_t, dlt_f, ibeq_t, ibeq_f, okR_of, isInt_yes, isInt_lo, isInt_hi, isInt_bl, isInt_non, isInt_str, isInt_tup, isInt_lst, nr_int, nr_bl, nr_str, nr_non, nr_tup, nr_lst, ↓compD_F, stepD, ↓compF_map, ↓compF_rng, compF_ret, compF_nil, compF_cons, ite_ok, ite_val, ite_bl, ite_int, fm_ite, fm_dec, rngD_len, st0, st1, see_st, see_sg, sg0, sg1, sg2, sg3, sg4, sg5, sg6, sg7, at_tup, at_lst, cut_tup, cut_lst, at0, at1, at2, at3, at4, at5, at6, at7, eq_non_non, eq_non_bl, eq_non_int, eq_non_str, eq_non_tup, eq_non_lst, eq_bl_non, eq_bl_bl, eq_bl_int, eq_bl_str, eq_bl_tup, eq_bl_lst, eq_int_non, eq_int_bl, eq_int_int, eq_int_str, eq_int_tup, eq_int_lst, eq_str_non, eq_str_bl, eq_str_int, eq_str_str, eq_str_tup, eq_str_lst, eq_tup_non, eq_tup_bl, eq_tup_int, eq_tup_str, eq_tup_tup, eq_tup_lst, eq_lst_non, eq_lst_bl, eq_lst_int, eq_lst_str, eq_lst_tup, eq_lst_lst, dep_non, dep_bl, dep_int, dep_str, dep_tup, dep_lst, deps_nil, deps_cons, it_lst, it_tup, natL_dep, see_natL, natL_items, sg_set, set_name, set_tup, see_noRef, patch_nil, patch_cons, ev, evs, evo, evc, evi, mSet, mRet, mDo, mUnp, mPar, mAug, mApp, mExt, mPut, mOwn, mCell, mFreeze, findH, bs, endOf, mArgs, mAnds, mOrs, mTAnds, mTOrs, mAnd, mOr, mNot, mTAnd, mTOr, mTNot, mTru, mIsB, mIf, mChain, mUn, mBin, mVar, mC, mCons, mNil, mTup, mLst, mCallB, mCall, mCut, mPart, mNoPart, mIter, mRng1_s, mRng2_s, mEnum, mZip, mComp, mYes, bx, notOwn, wipeO, startE, RV.sv, bd, ret, lift, RV.see, see_int, see_bl, see_str, see_non, see_tup, see_lst, see_ref, D.isi, BOp.g, COp.g, Bi.g, D.cmpI, D.add, D.sub, D.mul, D.fdiv, D.mod, D.neg, D.bLen, D.bAbs, D.bTuple, D.bList, D.bInt, allVal, setAll, D.truth, D.isNo, D.notNo, D.nonB, D.toInt, D.eqO, D.neO, D.inO, D.ninO, sz1, sz2, sz3, sz4, sz5, sz6, sz7, sz8, sz9, sz10, sz11, sz12, eb]
    · intro d hm h
      simp [h1 d hm]
  | ref r => simp [D.plain] at hp
  | lst r => simp [D.plain] at hp
  | _ => simp (disch := first | assumption | omega | exact nr_int _ | exact nr_bl _ | exact nr_non | exact nr_str _ | exact nr_tup _ | exact nr_lst _ | solve_by_elim (maxDepth := 4)) [-getElem?_pos, -getElem?_neg, List.getElem?_cons_zero, List.getElem?_cons_succ, ↓ws_cons, ↓ws_frz, ↓ws_nil, KS_next, KS_ret, KS_exc, ↓ws_ite, wI_true, wI_false, wI_exc, ↓ws_loop, wL_ok, ↓ws_tr, KT_next, KT_ret, KT_exc, KF_next, KF_ret, KF_exc, KP_ret, KP_exc, ws_for_cons, ws_for_nil, wO_some, ws_some, wp_some, ↓ws_set, ↓ws_own, ↓ws_cell, ↓ws_unp, ↓ws_par, ↓ws_aug, ↓ws_app, ↓ws_ext, ↓ws_put, ↓ws_expr, ↓ws_retE, ↓ws_retN, ↓ws_pass, ↓ws_raise, szle, szlt, dle_t, dle_f, dlt_t, dlt_f, ibeq_t, ibeq_f, okR_of, isInt_yes, isInt_lo, isInt_hi, isInt_bl, isInt_non, isInt_str, isInt_tup, isInt_lst, nr_int, nr_bl, nr_str, nr_non, nr_tup, nr_lst, ↓compD_F, stepD, ↓compF_map, ↓compF_rng, compF_ret, compF_nil, compF_cons, ite_ok, ite_val, ite_bl, ite_int, fm_ite, fm_dec, rngD_len, st0, st1, see_st, see_sg, sg0, sg1, sg2, sg3, sg4, sg5, sg6, sg7, at_tup, at_lst, cut_tup, cut_lst, at0, at1, at2, at3, at4, at5, at6, at7, eq_non_non, eq_non_bl, eq_non_int, eq_non_str, eq_non_tup, eq_non_lst, eq_bl_non, eq_bl_bl, eq_bl_int, eq_bl_str, eq_bl_tup, eq_bl_lst, eq_int_non, eq_int_bl, eq_int_int, eq_int_str, eq_int_tup, eq_int_lst, eq_str_non, eq_str_bl, eq_str_int, eq_str_str, eq_str_tup, eq_str_lst, eq_tup_non, eq_tup_bl, eq_tup_int, eq_tup_str, eq_tup_tup, eq_tup_lst, eq_lst_non, eq_lst_bl, eq_lst_int, eq_lst_str, eq_lst_tup, eq_lst_lst, dep_non, dep_bl, dep_int, dep_str, dep_tup, dep_lst, deps_nil, deps_cons, it_lst, it_tup, natL_dep, see_natL, natL_items, sg_set, set_name, set_tup, see_noRef, patch_nil, patch_cons, ev, evs, evo, evc, evi, mSet, mRet, mDo, mUnp, mPar, mAug, mApp, mExt, mPut, mOwn, mCell, mFreeze, findH, bs, endOf, mArgs, mAnds, mOrs, mTAnds, mTOrs, mAnd, mOr, mNot, mTAnd, mTOr, mTNot, mTru, mIsB, mIf, mChain, mUn, mBin, mVar, mC, mCons, mNil, mTup, mLst, mCallB, mCall, mCut, mPart, mNoPart, mIter, mRng1_s, mRng2_s, mEnum, mZip, mComp, mYes, bx, notOwn, wipeO, startE, RV.sv, bd, ret, lift, RV.see, see_int, see_bl, see_str, see_non, see_tup, see_lst, see_ref, D.isi, BOp.g, COp.g, Bi.g, D.cmpI, D.add, D.sub, D.mul, D.fdiv, D.mod, D.neg, D.bLen, D.bAbs, D.bTuple, D.bList, D.bInt, allVal, setAll, D.truth, D.isNo, D.notNo, D.nonB, D.toInt, D.eqO, D.neO, D.inO, D.ninO, sz1, sz2, sz3, sz4, sz5, sz6, sz7, sz8, sz9, sz10, sz11, sz12, b__law_same]
/-! ### draws in a comprehension -/
theorem compF_draws {α : Type} {G : α → List Cell → Option (Res (Option D))} {P : D → Prop} {c : Nat} (hG : ∀ a n h, St n h → n + c ≤ 20000 → ∃ d h', G a h = some (.ok (some d) h') ∧ P d ∧ St (n + c) h') : ∀ (l : List α) (n : Nat) (h : List Cell), St n h → n + c * l.length ≤ 20000 → ∃ ds h', compF G l h = some (.ok ds h') ∧ ds.length = l.length ∧ (∀ d ∈ ds, P d) ∧ St (n + c * l.length) h'
  | [], n, h, s, _ => ⟨[], h, rfl, rfl, (fun _ h => nomatch h), by simpa using s⟩
  | a :: l, n, h, s, hl => by
    simp only [List.length_cons, Nat.mul_succ] at hl ⊢
    obtain ⟨d, h1, e1, p1, s1⟩ := hG a n h s (by omega)
    obtain ⟨ds, h2, e2, l2, p2, s2⟩ := compF_draws hG l (n + c) h1 s1 (by omega)
    refine ⟨d :: ds, h2, ?_, by simp [l2], fun x hx => ?_, ?_⟩
    · unfold compF
      simp only [e1, bx, e2, ret]
    · rcases List.mem_cons.mp hx with rfl | hx
      · exact p1
      · exact p2 x hx
    · have e : n + (c * l.length + c) = n + c + c * l.length := by omega
      rw [e]
      exact s2
def isI (a b : Int) (d : D) : Prop := ∃ i, d = .int i ∧ a ≤ i ∧ i < b
theorem ints_isI {a b : Int} : ∀ {ds : List D}, (∀ d ∈ ds, isI a b d) → ∃ is : List Int, ds = is.map D.int ∧ ∀ i ∈ is, a ≤ i ∧ i < b
  | [], _ => ⟨[], rfl, (fun _ h => nomatch h)⟩
  | d :: ds, h => by
    obtain ⟨i, rfl, h1, h2⟩ := h d List.mem_cons_self
    obtain ⟨is, rfl, q⟩ := ints_isI fun x hx => h x (List.mem_cons_of_mem _ hx)
    refine ⟨i :: is, rfl, fun x hx => ?_⟩
    rcases List.mem_cons.mp hx with rfl | hx
    · exact ⟨h1, h2⟩
    · exact q x hx
theorem hours_at {p : Int} {s : Sg} (ok : sgOk p s = true) : ∃ i j : Int, atI ((hoursD s).map D.int) 0 = some (.int i) ∧ atI ((hoursD s).map D.int) (-1) = some (.int j) ∧ 0 ≤ i ∧ i < 168 ∧ 0 ≤ j ∧ j < 168 := by
  have ne := hours_ne ok
  have ne2 : (hoursD s).map D.int ≠ [] := by simpa using ne
  obtain ⟨x, hx, ex⟩ := atI_get (xs := (hoursD s).map D.int) (i := 0) (by omega) (by rw [List.length_map]; have := List.length_pos_iff.mpr ne; omega)
  obtain ⟨i, hi, rfl⟩ := mem_ints hx
  obtain ⟨y, hy, ey⟩ := atI_last ne2
  obtain ⟨j, hj, rfl⟩ := mem_ints hy
  have b1 := hours_rng hi
  have b2 := hours_rng hj
  exact ⟨i, j, ex, ey, by omega, by omega, by omega, by omega⟩
theorem mem_rng {d : D} {a : Int} {n : Nat} (h : d ∈ rngD a n) : ∃ k : Nat, d = .int (a + (k : Int)) ∧ k < n := by
  unfold rngD at h
  obtain ⟨k, hk, rfl⟩ := List.mem_map.mp h
  exact ⟨k, rfl, List.mem_range.mp hk⟩
end Kb
namespace Kb
open PySem L2
/-! ### the hours of the week at a place -/
def hourD (l : List Sg) (place hour : Int) : D := .tup [natL (kindsS (cntS l place hour)), .int ((limS (cntS l place hour)).getD 168)]
def weekD (l : List Sg) (place : Int) : List D := (List.range 168).map fun (k : Nat) => hourD l place (k : Int)
def ofI (g : Int → D) : D → List D := fun d => [g (iv d)]
theorem rng_flat (g : Int → D) (n : Nat) : (rngD 0 n).flatMap (ofI g) = (List.range n).map fun (k : Nat) => g (k : Int) := by
  unfold rngD
  rw [List.flatMap_map]
  induction (List.range n) with
  | nil => rfl
  | cons a l ih => rw [List.flatMap_cons, ih]; simp [ofI, iv]
theorem rng_split {n : Nat} {done rest : List D} {d : D} (e : rngD 0 n = done ++ d :: rest) : done.length < n ∧ d = .int (done.length : Int) := by
  have hl := congrArg List.length e
  rw [rngD_len] at hl
  simp only [List.length_append, List.length_cons] at hl
  refine ⟨by omega, ?_⟩
  have : (rngD 0 n)[done.length]? = some d := by rw [e]; simp
  unfold rngD at this
  rw [List.getElem?_map, List.getElem?_range (by omega)] at this
  simp at this
  exact this.symm
theorem flat_len {g : D → List D} {c : Nat} (hg : ∀ d, (g d).length ≤ c) (l : List D) : (l.flatMap g).length ≤ c * l.length := by
  induction l with
  | nil => simp
  | cons a l ih => rw [List.flatMap_cons, List.length_append, List.length_cons, Nat.mul_succ]; have := hg a; omega
theorem ofI_len (g : Int → D) (l : List D) : (l.flatMap (ofI g)).length = l.length := by
  induction l with
  | nil => rfl
  | cons a l ih => rw [List.flatMap_cons, List.length_append, ih]; simp [ofI]; omega
abbrev SWeek (F : FM) : Prop := ∀ p l (place : Int) h, Str8 p l → F [.val (stD p l), .val (.int place)] h = some (.ok (.lst (weekD l place)) h)
theorem optD_is (o : Option Int) : D.isNo (optD o) = some (.bl o.isNone) := by cases o <;> rfl
theorem optD_see (h : List Cell) (o : Option Int) : D.see h (optD o) = optD o := by cases o <;> rfl
theorem week_ok {cl : Nat → FM} {n0 n1 : Nat} (h0 : SFindD (fun ss => natL (kindsS ss)) (cl n0)) (h1 : SFindD (fun ss => optD (limS ss)) (cl n1)) : SWeek (runF cl 5 (b_week n0 n1)) := by
  intro p l place h S
  apply run_of
  simp (disch := first | assumption | omega | exact nr_int _ | exact nr_bl _ | exact nr_non | exact nr_str _ | exact nr_tup _ | exact nr_lst _ | solve_by_elim (maxDepth := 4)) [-getElem?_pos, -getElem?_neg, List.getElem?_cons_zero, List.getElem?_cons_succ, ↓ws_cons, ↓ws_frz, ↓ws_nil, KS_next, KS_ret, KS_exc, ↓ws_ite, wI_true, wI_false, wI_exc, ↓ws_loop, wL_ok, ↓ws_tr, KT_next, KT_ret, KT_exc, KF_next, KF_ret, KF_exc, KP_ret, KP_exc, ws_for_cons, ws_for_nil, wO_some, ws_some, wp_some, ↓ws_set, ↓ws_own, ↓ws_cell, ↓ws_unp, ↓ws_par, ↓ws_aug, ↓ws_app, ↓ws_ext, ↓ws_put, ↓ws_expr, ↓ws_retE, ↓ws_retN, ↓ws_pass, ↓ws_raise, szle, szlt, dle_t, dle_f, dlt_t, dlt_f, ibeq_t, ibeq_f, okR_of, isInt_yes, isInt_lo, isInt_hi, isInt_bl, isInt_non, isInt_str, isInt_tup, isInt_lst, nr_int, nr_bl, nr_str, nr_non, nr_tup, nr_lst, ↓compD_F, stepD, ↓compF_map, ↓compF_rng, compF_ret, compF_nil, compF_cons, ite_ok, ite_val, ite_bl, ite_int, fm_ite, fm_dec, rngD_len, st0, st1, see_st, see_sg, sg0, sg1, sg2, sg3, sg4, sg5, sg6, sg7, at_tup, at_lst, cut_tup, cut_lst, at0, at1, at2, at3, at4, at5, at6, at7, eq_non_non, eq_non_bl, eq_non_int, eq_non_str, eq_non_tup, eq_non_lst, eq_bl_non, eq_bl_bl, eq_bl_int, eq_bl_str, eq_bl_tup, eq_bl_lst, eq_int_non, eq_int_bl, eq_int_int, eq_int_str, eq_int_tup, eq_int_lst, eq_str_non, eq_str_bl, eq_str_int, eq_str_str, eq_str_tup, eq_str_lst, eq_tup_non, eq_tup_bl, eq_tup_int, eq_tup_str, eq_tup_tup, eq_tup_lst, eq_lst_non, eq_lst_bl, eq_lst_int, eq_lst_str, eq_lst_tup, eq_lst_lst, dep_non, dep_bl, dep_int, dep_str, dep_tup, dep_lst, deps_nil, deps_cons, it_lst, it_tup, natL_dep, see_natL, natL_items, sg_set, set_name, set_tup, see_noRef, patch_nil, patch_cons, ev, evs, evo, evc, evi, mSet, mRet, mDo, mUnp, mPar, mAug, mApp, mExt, mPut, mOwn, mCell, mFreeze, findH, bs, endOf, mArgs, mAnds, mOrs, mTAnds, mTOrs, mAnd, mOr, mNot, mTAnd, mTOr, mTNot, mTru, mIsB, mIf, mChain, mUn, mBin, mVar, mC, mCons, mNil, mTup, mLst, mCallB, mCall, mCut, mPart, mNoPart, mIter, mRng1_s, mRng2_s, mEnum, mZip, mComp, mYes, bx, notOwn, wipeO, startE, RV.sv, bd, ret, lift, RV.see, see_int, see_bl, see_str, see_non, see_tup, see_lst, see_ref, D.isi, BOp.g, COp.g, Bi.g, D.cmpI, D.add, D.sub, D.mul, D.fdiv, D.mod, D.neg, D.bLen, D.bAbs, D.bTuple, D.bList, D.bInt, allVal, setAll, D.truth, D.isNo, D.notNo, D.nonB, D.toInt, D.eqO, D.neO, D.inO, D.ninO, sz1, sz2, sz3, sz4, sz5, sz6, sz7, sz8, sz9, sz10, sz11, sz12, b_week]
  refine ws_forA [2, 3, 4] 2 .own (ofI fun i => hourD l place i) [] rfl ?_ ?_
  · intro done d rest acc e ha v hv
    obtain ⟨e1, rfl⟩ := rng_split e
    have hl : acc.length = done.length := by rw [ha, List.nil_append, ofI_len]
    cases hk : limS (cntS l place (done.length : Int)) with
    | none =>
      simp (disch := first | assumption | omega | exact nr_int _ | exact nr_bl _ | exact nr_non | exact nr_str _ | exact nr_tup _ | exact nr_lst _ | solve_by_elim (maxDepth := 4)) [-getElem?_pos, -getElem?_neg, List.getElem?_cons_zero, List.getElem?_cons_succ, ↓ws_cons, ↓ws_frz, ↓ws_nil, KS_next, KS_ret, KS_exc, ↓ws_ite, wI_true, wI_false, wI_exc, ↓ws_loop, wL_ok, ↓ws_tr, KT_next, KT_ret, KT_exc, KF_next, KF_ret, KF_exc, KP_ret, KP_exc, ws_for_cons, ws_for_nil, wO_some, ws_some, wp_some, ↓ws_set, ↓ws_own, ↓ws_cell, ↓ws_unp, ↓ws_par, ↓ws_aug, ↓ws_app, ↓ws_ext, ↓ws_put, ↓ws_expr, ↓ws_retE, ↓ws_retN, ↓ws_pass, ↓ws_raise, szle, szlt, dle_t, dle_f, dlt_t, dlt_f, ibeq_t, ibeq_f, okR_of, isInt_yes, isInt_lo, isInt_hi, isInt_bl, isInt_non, isInt_str, isInt_tup, isInt_lst, nr_int, nr_bl, nr_str, nr_non, nr_tup, nr_lst, ↓compD_F, stepD, ↓compF_map, ↓compF_rng, compF_ret, compF_nil, compF_cons, ite_ok, ite_val, ite_bl, ite_int, fm_ite, fm_dec, rngD_len, st0, st1, see_st, see_sg, sg0, sg1, sg2, sg3, sg4, sg5, sg6, sg7, at_tup, at_lst, cut_tup, cut_lst, at0, at1, at2, at3, at4, at5, at6, at7, eq_non_non, eq_non_bl, eq_non_int, eq_non_str, eq_non_tup, eq_non_lst, eq_bl_non, eq_bl_bl, eq_bl_int, eq_bl_str, eq_bl_tup, eq_bl_lst, eq_int_non, eq_int_bl, eq_int_int, eq_int_str, eq_int_tup, eq_int_lst, eq_str_non, eq_str_bl, eq_str_int, eq_str_str, eq_str_tup, eq_str_lst, eq_tup_non, eq_tup_bl, eq_tup_int, eq_tup_str, eq_tup_tup, eq_tup_lst, eq_lst_non, eq_lst_bl, eq_lst_int, eq_lst_str, eq_lst_tup, eq_lst_lst, dep_non, dep_bl, dep_int, dep_str, dep_tup, dep_lst, deps_nil, deps_cons, it_lst, it_tup, natL_dep, see_natL, natL_items, sg_set, set_name, set_tup, see_noRef, patch_nil, patch_cons, ev, evs, evo, evc, evi, mSet, mRet, mDo, mUnp, mPar, mAug, mApp, mExt, mPut, mOwn, mCell, mFreeze, findH, bs, endOf, mArgs, mAnds, mOrs, mTAnds, mTOrs, mAnd, mOr, mNot, mTAnd, mTOr, mTNot, mTru, mIsB, mIf, mChain, mUn, mBin, mVar, mC, mCons, mNil, mTup, mLst, mCallB, mCall, mCut, mPart, mNoPart, mIter, mRng1_s, mRng2_s, mEnum, mZip, mComp, mYes, bx, notOwn, wipeO, startE, RV.sv, bd, ret, lift, RV.see, see_int, see_bl, see_str, see_non, see_tup, see_lst, see_ref, D.isi, BOp.g, COp.g, Bi.g, D.cmpI, D.add, D.sub, D.mul, D.fdiv, D.mod, D.neg, D.bLen, D.bAbs, D.bTuple, D.bList, D.bInt, allVal, setAll, D.truth, D.isNo, D.notNo, D.nonB, D.toInt, D.eqO, D.neO, D.inO, D.ninO, sz1, sz2, sz3, sz4, sz5, sz6, sz7, sz8, sz9, sz10, sz11, sz12, b_week_L1, h0, h1, hv, hk, optD]
      refine KP_of rfl ?_
      simp [getV, ofI, iv, hourD, hk]
    | some z =>
      simp (disch := first | assumption | omega | exact nr_int _ | exact nr_bl _ | exact nr_non | exact nr_str _ | exact nr_tup _ | exact nr_lst _ | solve_by_elim (maxDepth := 4)) [-getElem?_pos, -getElem?_neg, List.getElem?_cons_zero, List.getElem?_cons_succ, ↓ws_cons, ↓ws_frz, ↓ws_nil, KS_next, KS_ret, KS_exc, ↓ws_ite, wI_true, wI_false, wI_exc, ↓ws_loop, wL_ok, ↓ws_tr, KT_next, KT_ret, KT_exc, KF_next, KF_ret, KF_exc, KP_ret, KP_exc, ws_for_cons, ws_for_nil, wO_some, ws_some, wp_some, ↓ws_set, ↓ws_own, ↓ws_cell, ↓ws_unp, ↓ws_par, ↓ws_aug, ↓ws_app, ↓ws_ext, ↓ws_put, ↓ws_expr, ↓ws_retE, ↓ws_retN, ↓ws_pass, ↓ws_raise, szle, szlt, dle_t, dle_f, dlt_t, dlt_f, ibeq_t, ibeq_f, okR_of, isInt_yes, isInt_lo, isInt_hi, isInt_bl, isInt_non, isInt_str, isInt_tup, isInt_lst, nr_int, nr_bl, nr_str, nr_non, nr_tup, nr_lst, ↓compD_F, stepD, ↓compF_map, ↓compF_rng, compF_ret, compF_nil, compF_cons, ite_ok, ite_val, ite_bl, ite_int, fm_ite, fm_dec, rngD_len, st0, st1, see_st, see_sg, sg0, sg1, sg2, sg3, sg4, sg5, sg6, sg7, at_tup, at_lst, cut_tup, cut_lst, at0, at1, at2, at3, at4, at5, at6, at7, eq_non_non, eq_non_bl, eq_non_int, eq_non_str, eq_non_tup, eq_non_lst, eq_bl_non, eq_bl_bl, eq_bl_int, eq_bl_str, eq_bl_tup, eq_bl_lst, eq_int_non, eq_int_bl, eq_int_int, eq_int_str, eq_int_tup, eq_int_lst, eq_str_non, eq_str_bl, eq_str_int, eq_str_str, eq_str_tup, eq_str_lst, eq_tup_non, eq_tup_bl, eq_tup_int, eq_tup_str, eq_tup_tup, eq_tup_lst, eq_lst_non, eq_lst_bl, eq_lst_int, eq_lst_str, eq_lst_tup, eq_lst_lst, dep_non, dep_bl, dep_int, dep_str, dep_tup, dep_lst, deps_nil, deps_cons, it_lst, it_tup, natL_dep, see_natL, natL_items, sg_set, set_name, set_tup, see_noRef, patch_nil, patch_cons, ev, evs, evo, evc, evi, mSet, mRet, mDo, mUnp, mPar, mAug, mApp, mExt, mPut, mOwn, mCell, mFreeze, findH, bs, endOf, mArgs, mAnds, mOrs, mTAnds, mTOrs, mAnd, mOr, mNot, mTAnd, mTOr, mTNot, mTru, mIsB, mIf, mChain, mUn, mBin, mVar, mC, mCons, mNil, mTup, mLst, mCallB, mCall, mCut, mPart, mNoPart, mIter, mRng1_s, mRng2_s, mEnum, mZip, mComp, mYes, bx, notOwn, wipeO, startE, RV.sv, bd, ret, lift, RV.see, see_int, see_bl, see_str, see_non, see_tup, see_lst, see_ref, D.isi, BOp.g, COp.g, Bi.g, D.cmpI, D.add, D.sub, D.mul, D.fdiv, D.mod, D.neg, D.bLen, D.bAbs, D.bTuple, D.bList, D.bInt, allVal, setAll, D.truth, D.isNo, D.notNo, D.nonB, D.toInt, D.eqO, D.neO, D.inO, D.ninO, sz1, sz2, sz3, sz4, sz5, sz6, sz7, sz8, sz9, sz10, sz11, sz12, b_week_L1, h0, h1, hv, hk, optD]
      refine KP_of rfl ?_
      simp [getV, ofI, iv, hourD, hk]
  · intro v hv
    rw [List.nil_append, rng_flat] at hv
    simp (disch := first | assumption | omega | exact nr_int _ | exact nr_bl _ | exact nr_non | exact nr_str _ | exact nr_tup _ | exact nr_lst _ | solve_by_elim (maxDepth := 4)) [-getElem?_pos, -getElem?_neg, List.getElem?_cons_zero, List.getElem?_cons_succ, ↓ws_cons, ↓ws_frz, ↓ws_nil, KS_next, KS_ret, KS_exc, ↓ws_ite, wI_true, wI_false, wI_exc, ↓ws_loop, wL_ok, ↓ws_tr, KT_next, KT_ret, KT_exc, KF_next, KF_ret, KF_exc, KP_ret, KP_exc, ws_for_cons, ws_for_nil, wO_some, ws_some, wp_some, ↓ws_set, ↓ws_own, ↓ws_cell, ↓ws_unp, ↓ws_par, ↓ws_aug, ↓ws_app, ↓ws_ext, ↓ws_put, ↓ws_expr, ↓ws_retE, ↓ws_retN, ↓ws_pass, ↓ws_raise, szle, szlt, dle_t, dle_f, dlt_t, dlt_f, ibeq_t, ibeq_f, okR_of, isInt_yes, isInt_lo, isInt_hi, isInt_bl, isInt_non, isInt_str, isInt_tup, isInt_lst, nr_int, nr_bl, nr_str, nr_non, nr_tup, nr_lst, ↓compD_F, stepD, ↓compF_map, ↓compF_rng, compF_ret, compF_nil, compF_cons, ite_ok, ite_val, ite_bl, ite_int, fm_ite, fm_dec, rngD_len, st0, st1, see_st, see_sg, sg0, sg1, sg2, sg3, sg4, sg5, sg6, sg7, at_tup, at_lst, cut_tup, cut_lst, at0, at1, at2, at3, at4, at5, at6, at7, eq_non_non, eq_non_bl, eq_non_int, eq_non_str, eq_non_tup, eq_non_lst, eq_bl_non, eq_bl_bl, eq_bl_int, eq_bl_str, eq_bl_tup, eq_bl_lst, eq_int_non, eq_int_bl, eq_int_int, eq_int_str, eq_int_tup, eq_int_lst, eq_str_non, eq_str_bl, eq_str_int, eq_str_str, eq_str_tup, eq_str_lst, eq_tup_non, eq_tup_bl, eq_tup_int, eq_tup_str, eq_tup_tup, eq_tup_lst, eq_lst_non, eq_lst_bl, eq_lst_int, eq_lst_str, eq_lst_tup, eq_lst_lst, dep_non, dep_bl, dep_int, dep_str, dep_tup, dep_lst, deps_nil, deps_cons, it_lst, it_tup, natL_dep, see_natL, natL_items, sg_set, set_name, set_tup, see_noRef, patch_nil, patch_cons, ev, evs, evo, evc, evi, mSet, mRet, mDo, mUnp, mPar, mAug, mApp, mExt, mPut, mOwn, mCell, mFreeze, findH, bs, endOf, mArgs, mAnds, mOrs, mTAnds, mTOrs, mAnd, mOr, mNot, mTAnd, mTOr, mTNot, mTru, mIsB, mIf, mChain, mUn, mBin, mVar, mC, mCons, mNil, mTup, mLst, mCallB, mCall, mCut, mPart, mNoPart, mIter, mRng1_s, mRng2_s, mEnum, mZip, mComp, mYes, bx, notOwn, wipeO, startE, RV.sv, bd, ret, lift, RV.see, see_int, see_bl, see_str, see_non, see_tup, see_lst, see_ref, D.isi, BOp.g, COp.g, Bi.g, D.cmpI, D.add, D.sub, D.mul, D.fdiv, D.mod, D.neg, D.bLen, D.bAbs, D.bTuple, D.bList, D.bInt, allVal, setAll, D.truth, D.isNo, D.notNo, D.nonB, D.toInt, D.eqO, D.neO, D.inO, D.ninO, sz1, sz2, sz3, sz4, sz5, sz6, sz7, sz8, sz9, sz10, sz11, sz12, hv, weekD]
theorem min_snoc (ns : List Int) (m : Int) (hm : ∀ n ∈ ns, n ≤ m) : D.bMin [.lst (ns.map D.int ++ [D.int m])] = some (.int (ns.min?.getD m)) := by
  have e : ns.map D.int ++ [D.int m] = (ns ++ [m]).map D.int := by simp
  rw [e]
  have e2 : D.bMin [.lst ((ns ++ [m]).map D.int)] = (D.ints ((ns ++ [m]).map D.int)).bind fun ns => ns.min?.map D.int := rfl
  rw [e2, ints_map]
  have q : (ns ++ [m]).min? = some (ns.min?.getD m) := by
    cases z : ns.min? with
    | none => rw [List.min?_eq_none_iff] at z; subst z; rfl
    | some y =>
      have h := List.min?_eq_some_iff.mp z
      rw [List.min?_eq_some_iff]
      refine ⟨List.mem_append_left _ h.1, fun b hb => ?_⟩
      rcases List.mem_append.mp hb with hb | hb
      · exact h.2 b hb
      · simp at hb
        have := hm _ h.1
        simp [hb]
        omega
  simp [q]
theorem word_cases {w : Str} {v : Int} (h : wordD (.str w) (.int v) = true) : (w = "only" ∧ 0 ≤ v ∧ v ≤ 2) ∨ (w = "limit" ∧ 1 ≤ v ∧ v ≤ 24) ∨ (w = "none" ∧ v = 0) ∨ (w = "free" ∧ v = 0) := by
  unfold wordD at h
  dsimp only at h
  split at h
  · rename_i e
    simp [isInt] at h
    exact .inl ⟨by simpa using e, h⟩
  · split at h
    · rename_i e
      simp [isInt] at h
      exact .inr (.inl ⟨by simpa using e, h⟩)
    · simp [isInt] at h
      rcases h with ⟨h1 | h1, h2, h3⟩
      · exact .inr (.inr (.inl ⟨h1.symm, by omega⟩))
      · exact .inr (.inr (.inr ⟨h1.symm, by omega⟩))
theorem sg_word {p : Int} {s : Sg} (h : sgOk p s = true) : wordD (.str s.word) (.int s.value) = true := by
  unfold sgOk at h
  simp only [Bool.and_eq_true] at h
  exact h.2
theorem w_ol : ("only" : Str) ≠ "limit" := by decide +kernel
theorem w_on : ("only" : Str) ≠ "none" := by decide +kernel
theorem w_of : ("only" : Str) ≠ "free" := by decide +kernel
theorem w_ln : ("limit" : Str) ≠ "none" := by decide +kernel
theorem w_lf : ("limit" : Str) ≠ "free" := by decide +kernel
theorem w_nf : ("none" : Str) ≠ "free" := by decide +kernel
theorem cnt_ok {p : Int} {l : List Sg} (S : Str8 p l) {place hour : Int} {s : Sg} (h : s ∈ cntS l place hour) : sgOk p s = true := S.ok s (List.mem_filter.mp h).1
theorem eqs_nil (l : List D) : D.eqs l [] = l.isEmpty := by cases l <;> rfl
theorem deps_one {α : Type} (l : List α) (i : Int) : D.deps (l.map fun _ => D.int i) = 0 := by
  induction l with
  | nil => rfl
  | cons a l ih => simp [D.deps, D.dep, ih]
theorem law_week_ok {cl : Nat → FM} {n0 : Nat} (h0 : SLawHolding countL (cl n0)) : SWeek (runF cl 10 (b__law_week n0)) := by
  intro p l place h S
  apply run_of
  simp (disch := first | assumption | omega | exact nr_int _ | exact nr_bl _ | exact nr_non | exact nr_str _ | exact nr_tup _ | exact nr_lst _ | solve_by_elim (maxDepth := 4)) [-getElem?_pos, -getElem?_neg, List.getElem?_cons_zero, List.getElem?_cons_succ, ↓ws_cons, ↓ws_frz, ↓ws_nil, KS_next, KS_ret, KS_exc, ↓ws_ite, wI_true, wI_false, wI_exc, ↓ws_loop, wL_ok, ↓ws_tr, KT_next, KT_ret, KT_exc, KF_next, KF_ret, KF_exc, KP_ret, KP_exc, ws_for_cons, ws_for_nil, wO_some, ws_some, wp_some, ↓ws_set, ↓ws_own, ↓ws_cell, ↓ws_unp, ↓ws_par, ↓ws_aug, ↓ws_app, ↓ws_ext, ↓ws_put, ↓ws_expr, ↓ws_retE, ↓ws_retN, ↓ws_pass, ↓ws_raise, szle, szlt, dle_t, dle_f, dlt_t, dlt_f, ibeq_t, ibeq_f, okR_of, isInt_yes, isInt_lo, isInt_hi, isInt_bl, isInt_non, isInt_str, isInt_tup, isInt_lst, nr_int, nr_bl, nr_str, nr_non, nr_tup, nr_lst, ↓compD_F, stepD, ↓compF_map, ↓compF_rng, compF_ret, compF_nil, compF_cons, ite_ok, ite_val, ite_bl, ite_int, fm_ite, fm_dec, rngD_len, st0, st1, see_st, see_sg, sg0, sg1, sg2, sg3, sg4, sg5, sg6, sg7, at_tup, at_lst, cut_tup, cut_lst, at0, at1, at2, at3, at4, at5, at6, at7, eq_non_non, eq_non_bl, eq_non_int, eq_non_str, eq_non_tup, eq_non_lst, eq_bl_non, eq_bl_bl, eq_bl_int, eq_bl_str, eq_bl_tup, eq_bl_lst, eq_int_non, eq_int_bl, eq_int_int, eq_int_str, eq_int_tup, eq_int_lst, eq_str_non, eq_str_bl, eq_str_int, eq_str_str, eq_str_tup, eq_str_lst, eq_tup_non, eq_tup_bl, eq_tup_int, eq_tup_str, eq_tup_tup, eq_tup_lst, eq_lst_non, eq_lst_bl, eq_lst_int, eq_lst_str, eq_lst_tup, eq_lst_lst, dep_non, dep_bl, dep_int, dep_str, dep_tup, dep_lst, deps_nil, deps_cons, it_lst, it_tup, natL_dep, see_natL, natL_items, sg_set, set_name, set_tup, see_noRef, patch_nil, patch_cons, ev, evs, evo, evc, evi, mSet, mRet, mDo, mUnp, mPar, mAug, mApp, mExt, mPut, mOwn, mCell, mFreeze, findH, bs, endOf, mArgs, mAnds, mOrs, mTAnds, mTOrs, mAnd, mOr, mNot, mTAnd, mTOr, mTNot, mTru, mIsB, mIf, mChain, mUn, mBin, mVar, mC, mCons, mNil, mTup, mLst, mCallB, mCall, mCut, mPart, mNoPart, mIter, mRng1_s, mRng2_s, mEnum, mZip, mComp, mYes, bx, notOwn, wipeO, startE, RV.sv, bd, ret, lift, RV.see, see_int, see_bl, see_str, see_non, see_tup, see_lst, see_ref, D.isi, BOp.g, COp.g, Bi.g, D.cmpI, D.add, D.sub, D.mul, D.fdiv, D.mod, D.neg, D.bLen, D.bAbs, D.bTuple, D.bList, D.bInt, allVal, setAll, D.truth, D.isNo, D.notNo, D.nonB, D.toInt, D.eqO, D.neO, D.inO, D.ninO, sz1, sz2, sz3, sz4, sz5, sz6, sz7, sz8, sz9, sz10, sz11, sz12, b__law_week]
  refine ws_forA [2, 3, 4, 6] 2 .own (ofI fun i => hourD l place i) [] rfl ?_ ?_
  · intro done d rest acc e ha v hv
    obtain ⟨e1, rfl⟩ := rng_split e
    have hl : acc.length = done.length := by rw [ha, List.nil_append, ofI_len]
    have e0 := h0 p l place (done.length : Int) h S (by unfold rngB; simp; omega)
    have s1 := countL_len l place (done.length : Int)
    have sl := S.len
    unfold natL at e0
    rw [countL_eq] at s1 e0
    rw [List.length_map] at s1
    have hq : ∀ q ∈ (l.zipIdx.filter fun q => cntB l place (done.length : Int) q.1), atI (l.map Sg.d) (q.2 : Int) = some q.1.d := fun q hq => atQ (List.mem_filter.mp hq).1
    have ez := zi_fil l (cntB l place (done.length : Int)) 0
    have ok : ∀ s ∈ cntS l place (done.length : Int), sgOk p s = true := fun s hs => cnt_ok S hs
    have hd : hourD l place (done.length : Int) = .tup [natL (kindsS (cntS l place (done.length : Int))), .int ((limS (cntS l place (done.length : Int))).getD 168)] := rfl
    have s2 := cntS_len l place (done.length : Int)
    have ez2 : (l.zipIdx.filter fun q => cntB l place (done.length : Int) q.1).map (fun q => wv q.1) = (cntS l place (done.length : Int)).map wv := by
      unfold cntS
      rw [← ez, List.map_map]
      rfl
    generalize cntS l place (done.length : Int) = ss at ok hd s2 ez2
    have em : (ss.filter fun a => decide (a.word = Str.ofString "limit")) = ss.filter fun a => a.word == ("limit" : Str) := by
      apply List.filter_congr
      intro a _
      rw [Bool.eq_iff_iff]
      simp
    have mn := min_snoc ((ss.filter fun a => a.word == ("limit" : Str)).map Sg.value) 168 (fun n hn => by
      obtain ⟨s, hs, rfl⟩ := List.mem_map.mp hn
      have hs := List.mem_filter.mp hs
      have := word_cases (sg_word (ok s hs.1))
      have h2 : s.word = ("limit" : Str) := by simpa using hs.2
      omega)
    rw [List.map_map] at mn
    have ln : (ss.filter fun a => a.word == ("limit" : Str)).length ≤ ss.length := List.length_filter_le _ _
    have el : limS ss = ((ss.filter fun a => a.word == ("limit" : Str)).map Sg.value).min? := rfl
    have mn2 : D.bMin [.lst ((ss.filter fun a => a.word == ("limit" : Str)).map (fun a => D.int a.value) ++ [D.int 168])] = some (.int ((limS ss).getD 168)) := mn
    have ek : ((List.range 3).filter fun (k : Nat) => ((ss.filter fun a => decide (a.word = Str.ofString "only") && !decide (a.value = (k : Int))).map fun _ => D.int 1).isEmpty) = (List.range 3).filter fun (k : Nat) => ss.all (onlyS (k : Int)) := by
      apply List.filter_congr
      intro k _
      rw [Bool.eq_iff_iff]
      simp [onlyS]
      constructor
      · intro q x hx
        by_cases z : x.word = Str.ofString "only"
        · exact .inr (q x hx z)
        · exact .inl z
      · intro q x hx z
        rcases q x hx with q | q
        · exact absurd z q
        · exact q
    have d1 := fun (k : Nat) => deps_one (ss.filter fun a => decide (a.word = Str.ofString "only") && !decide (a.value = (k : Int))) 1
    simp (disch := first | assumption | omega | exact nr_int _ | exact nr_bl _ | exact nr_non | exact nr_str _ | exact nr_tup _ | exact nr_lst _ | solve_by_elim (maxDepth := 4)) [-getElem?_pos, -getElem?_neg, List.getElem?_cons_zero, List.getElem?_cons_succ, ↓ws_cons, ↓ws_frz, ↓ws_nil, KS_next, KS_ret, KS_exc, ↓ws_ite, wI_true, wI_false, wI_exc, ↓ws_loop, wL_ok, ↓ws_tr, KT_next, KT_ret, KT_exc, KF_next, KF_ret, KF_exc, KP_ret, KP_exc, ws_for_cons, ws_for_nil, wO_some, ws_some, wp_some, ↓ws_set, ↓ws_own, ↓ws_cell, ↓ws_unp, ↓ws_par, ↓ws_aug, ↓ws_app, ↓ws_ext, ↓ws_put, ↓ws_expr, ↓ws_retE, ↓ws_retN, ↓ws_pass, ↓ws_raise, szle, szlt, dle_t, dle_f, dlt_t, dlt_f, ibeq_t, ibeq_f, okR_of, isInt_yes, isInt_lo, isInt_hi, isInt_bl, isInt_non, isInt_str, isInt_tup, isInt_lst, nr_int, nr_bl, nr_str, nr_non, nr_tup, nr_lst, ↓compD_F, stepD, ↓compF_map, ↓compF_rng, compF_ret, compF_nil, compF_cons, ite_ok, ite_val, ite_bl, ite_int, fm_ite, fm_dec, rngD_len, st0, st1, see_st, see_sg, sg0, sg1, sg2, sg3, sg4, sg5, sg6, sg7, at_tup, at_lst, cut_tup, cut_lst, at0, at1, at2, at3, at4, at5, at6, at7, eq_non_non, eq_non_bl, eq_non_int, eq_non_str, eq_non_tup, eq_non_lst, eq_bl_non, eq_bl_bl, eq_bl_int, eq_bl_str, eq_bl_tup, eq_bl_lst, eq_int_non, eq_int_bl, eq_int_int, eq_int_str, eq_int_tup, eq_int_lst, eq_str_non, eq_str_bl, eq_str_int, eq_str_str, eq_str_tup, eq_str_lst, eq_tup_non, eq_tup_bl, eq_tup_int, eq_tup_str, eq_tup_tup, eq_tup_lst, eq_lst_non, eq_lst_bl, eq_lst_int, eq_lst_str, eq_lst_tup, eq_lst_lst, dep_non, dep_bl, dep_int, dep_str, dep_tup, dep_lst, deps_nil, deps_cons, it_lst, it_tup, natL_dep, see_natL, natL_items, sg_set, set_name, set_tup, see_noRef, patch_nil, patch_cons, ev, evs, evo, evc, evi, mSet, mRet, mDo, mUnp, mPar, mAug, mApp, mExt, mPut, mOwn, mCell, mFreeze, findH, bs, endOf, mArgs, mAnds, mOrs, mTAnds, mTOrs, mAnd, mOr, mNot, mTAnd, mTOr, mTNot, mTru, mIsB, mIf, mChain, mUn, mBin, mVar, mC, mCons, mNil, mTup, mLst, mCallB, mCall, mCut, mPart, mNoPart, mIter, mRng1_s, mRng2_s, mEnum, mZip, mComp, mYes, bx, notOwn, wipeO, startE, RV.sv, bd, ret, lift, RV.see, see_int, see_bl, see_str, see_non, see_tup, see_lst, see_ref, D.isi, BOp.g, COp.g, Bi.g, D.cmpI, D.add, D.sub, D.mul, D.fdiv, D.mod, D.neg, D.bLen, D.bAbs, D.bTuple, D.bList, D.bInt, allVal, setAll, D.truth, D.isNo, D.notNo, D.nonB, D.toInt, D.eqO, D.neO, D.inO, D.ninO, sz1, sz2, sz3, sz4, sz5, sz6, sz7, sz8, sz9, sz10, sz11, sz12, b__law_week_L1, e0, hv]
    rw [compF_ok fun q => some (wv q.1)]
    rotate_left
    · intro q hm h
      simp (disch := first | assumption | omega | exact nr_int _ | exact nr_bl _ | exact nr_non | exact nr_str _ | exact nr_tup _ | exact nr_lst _ | solve_by_elim (maxDepth := 4)) [-getElem?_pos, -getElem?_neg, List.getElem?_cons_zero, List.getElem?_cons_succ, ↓ws_cons, ↓ws_frz, ↓ws_nil, KS_next, KS_ret, KS_exc, ↓ws_ite, wI_true, wI_false, wI_exc, ↓ws_loop, wL_ok, ↓ws_tr, KT_next, KT_ret, KT_exc, KF_next, KF_ret, KF_exc, KP_ret, KP_exc, ws_for_cons, ws_for_nil, wO_some, ws_some, wp_some, ↓ws_set, ↓ws_own, ↓ws_cell, ↓ws_unp, ↓ws_par, ↓ws_aug, ↓ws_app, ↓ws_ext, ↓ws_put, ↓ws_expr, ↓ws_retE, ↓ws_retN, ↓ws_pass, ↓ws_raise, szle, szlt, dle_t, dle_f, dlt_t, dlt_f, ibeq_t, ibeq_f, okR_of, isInt_yes, isInt_lo, isInt_hi, isInt_bl, isInt_non, isInt_str, isInt_tup, isInt_lst, nr_int, nr_bl, nr_str, nr_non, nr_tup, nr_lst, ↓compD_F, stepD, ↓compF_map, ↓compF_rng, compF_ret, compF_nil, compF_cons, ite_ok, ite_val, ite_bl, ite_int, fm_ite, fm_dec, rngD_len, st0, st1, see_st, see_sg, sg0, sg1, sg2, sg3, sg4, sg5, sg6, sg7, at_tup, at_lst, cut_tup, cut_lst, at0, at1, at2, at3, at4, at5, at6, at7, eq_non_non, eq_non_bl, eq_non_int, eq_non_str, eq_non_tup, eq_non_lst, eq_bl_non, eq_bl_bl, eq_bl_int, eq_bl_str, eq_bl_tup, eq_bl_lst, eq_int_non, eq_int_bl, eq_int_int, eq_int_str, eq_int_tup, eq_int_lst, eq_str_non, eq_str_bl, eq_str_int, eq_str_str, eq_str_tup, eq_str_lst, eq_tup_non, eq_tup_bl, eq_tup_int, eq_tup_str, eq_tup_tup, eq_tup_lst, eq_lst_non, eq_lst_bl, eq_lst_int, eq_lst_str, eq_lst_tup, eq_lst_lst, dep_non, dep_bl, dep_int, dep_str, dep_tup, dep_lst, deps_nil, deps_cons, it_lst, it_tup, natL_dep, see_natL, natL_items, sg_set, set_name, set_tup, see_noRef, patch_nil, patch_cons, ev, evs, evo, evc, evi, mSet, mRet, mDo, mUnp, mPar, mAug, mApp, mExt, mPut, mOwn, mCell, mFreeze, findH, bs, endOf, mArgs, mAnds, mOrs, mTAnds, mTOrs, mAnd, mOr, mNot, mTAnd, mTOr, mTNot, mTru, mIsB, mIf, mChain, mUn, mBin, mVar, mC, mCons, mNil, mTup, mLst, mCallB, mCall, mCut, mPart, mNoPart, mIter, mRng1_s, mRng2_s, mEnum, mZip, mComp, mYes, bx, notOwn, wipeO, startE, RV.sv, bd, ret, lift, RV.see, see_int, see_bl, see_str, see_non, see_tup, see_lst, see_ref, D.isi, BOp.g, COp.g, Bi.g, D.cmpI, D.add, D.sub, D.mul, D.fdiv, D.mod, D.neg, D.bLen, D.bAbs, D.bTuple, D.bList, D.bInt, allVal, setAll, D.truth, D.isNo, D.notNo, D.nonB, D.toInt, D.eqO, D.neO, D.inO, D.ninO, sz1, sz2, sz3, sz4, sz5, sz6, sz7, sz8, sz9, sz10, sz11, sz12, hq q hm, sg_cut6]
    simp (disch := first | assumption | omega | exact nr_int _ | exact nr_bl _ | exact nr_non | exact nr_str _ | exact nr_tup _ | exact nr_lst _ | solve_by_elim (maxDepth := 4)) [-getElem?_pos, -getElem?_neg, List.getElem?_cons_zero, List.getElem?_cons_succ, ↓ws_cons, ↓ws_frz, ↓ws_nil, KS_next, KS_ret, KS_exc, ↓ws_ite, wI_true, wI_false, wI_exc, ↓ws_loop, wL_ok, ↓ws_tr, KT_next, KT_ret, KT_exc, KF_next, KF_ret, KF_exc, KP_ret, KP_exc, ws_for_cons, ws_for_nil, wO_some, ws_some, wp_some, ↓ws_set, ↓ws_own, ↓ws_cell, ↓ws_unp, ↓ws_par, ↓ws_aug, ↓ws_app, ↓ws_ext, ↓ws_put, ↓ws_expr, ↓ws_retE, ↓ws_retN, ↓ws_pass, ↓ws_raise, szle, szlt, dle_t, dle_f, dlt_t, dlt_f, ibeq_t, ibeq_f, okR_of, isInt_yes, isInt_lo, isInt_hi, isInt_bl, isInt_non, isInt_str, isInt_tup, isInt_lst, nr_int, nr_bl, nr_str, nr_non, nr_tup, nr_lst, ↓compD_F, stepD, ↓compF_map, ↓compF_rng, compF_ret, compF_nil, compF_cons, ite_ok, ite_val, ite_bl, ite_int, fm_ite, fm_dec, rngD_len, st0, st1, see_st, see_sg, sg0, sg1, sg2, sg3, sg4, sg5, sg6, sg7, at_tup, at_lst, cut_tup, cut_lst, at0, at1, at2, at3, at4, at5, at6, at7, eq_non_non, eq_non_bl, eq_non_int, eq_non_str, eq_non_tup, eq_non_lst, eq_bl_non, eq_bl_bl, eq_bl_int, eq_bl_str, eq_bl_tup, eq_bl_lst, eq_int_non, eq_int_bl, eq_int_int, eq_int_str, eq_int_tup, eq_int_lst, eq_str_non, eq_str_bl, eq_str_int, eq_str_str, eq_str_tup, eq_str_lst, eq_tup_non, eq_tup_bl, eq_tup_int, eq_tup_str, eq_tup_tup, eq_tup_lst, eq_lst_non, eq_lst_bl, eq_lst_int, eq_lst_str, eq_lst_tup, eq_lst_lst, dep_non, dep_bl, dep_int, dep_str, dep_tup, dep_lst, deps_nil, deps_cons, it_lst, it_tup, natL_dep, see_natL, natL_items, sg_set, set_name, set_tup, see_noRef, patch_nil, patch_cons, ev, evs, evo, evc, evi, mSet, mRet, mDo, mUnp, mPar, mAug, mApp, mExt, mPut, mOwn, mCell, mFreeze, findH, bs, endOf, mArgs, mAnds, mOrs, mTAnds, mTOrs, mAnd, mOr, mNot, mTAnd, mTOr, mTNot, mTru, mIsB, mIf, mChain, mUn, mBin, mVar, mC, mCons, mNil, mTup, mLst, mCallB, mCall, mCut, mPart, mNoPart, mIter, mRng1_s, mRng2_s, mEnum, mZip, mComp, mYes, bx, notOwn, wipeO, startE, RV.sv, bd, ret, lift, RV.see, see_int, see_bl, see_str, see_non, see_tup, see_lst, see_ref, D.isi, BOp.g, COp.g, Bi.g, D.cmpI, D.add, D.sub, D.mul, D.fdiv, D.mod, D.neg, D.bLen, D.bAbs, D.bTuple, D.bList, D.bInt, allVal, setAll, D.truth, D.isNo, D.notNo, D.nonB, D.toInt, D.eqO, D.neO, D.inO, D.ninO, sz1, sz2, sz3, sz4, sz5, sz6, sz7, sz8, sz9, sz10, sz11, sz12, ez2, wv_set, deps_one, eqs_nil, -List.isEmpty_map, ek, -List.isEmpty_iff]
    cases hn : ss.any noneS with
    | true =>
      have en : (ss.filter fun a => decide (a.word = Str.ofString "none")) ≠ [] := by
        rw [List.any_eq_true] at hn
        obtain ⟨s, h1, h2⟩ := hn
        intro z
        have : s ∈ (ss.filter fun a => decide (a.word = Str.ofString "none")) := by
          rw [List.mem_filter]
          simp [noneS] at h2
          exact ⟨h1, by simp [h2.1]⟩
        rw [z] at this
        cases this
      have ek2 : kindsS ss = [] := by unfold kindsS; rw [hn]; rfl
      have en2 : ((ss.filter fun a => decide (a.word = Str.ofString "none")).map fun _ => D.int 1).isEmpty = false := by simpa using en
      simp (disch := first | assumption | omega | exact nr_int _ | exact nr_bl _ | exact nr_non | exact nr_str _ | exact nr_tup _ | exact nr_lst _ | solve_by_elim (maxDepth := 4)) [-getElem?_pos, -getElem?_neg, List.getElem?_cons_zero, List.getElem?_cons_succ, ↓ws_cons, ↓ws_frz, ↓ws_nil, KS_next, KS_ret, KS_exc, ↓ws_ite, wI_true, wI_false, wI_exc, ↓ws_loop, wL_ok, ↓ws_tr, KT_next, KT_ret, KT_exc, KF_next, KF_ret, KF_exc, KP_ret, KP_exc, ws_for_cons, ws_for_nil, wO_some, ws_some, wp_some, ↓ws_set, ↓ws_own, ↓ws_cell, ↓ws_unp, ↓ws_par, ↓ws_aug, ↓ws_app, ↓ws_ext, ↓ws_put, ↓ws_expr, ↓ws_retE, ↓ws_retN, ↓ws_pass, ↓ws_raise, szle, szlt, dle_t, dle_f, dlt_t, dlt_f, ibeq_t, ibeq_f, okR_of, isInt_yes, isInt_lo, isInt_hi, isInt_bl, isInt_non, isInt_str, isInt_tup, isInt_lst, nr_int, nr_bl, nr_str, nr_non, nr_tup, nr_lst, ↓compD_F, stepD, ↓compF_map, ↓compF_rng, compF_ret, compF_nil, compF_cons, ite_ok, ite_val, ite_bl, ite_int, fm_ite, fm_dec, rngD_len, st0, st1, see_st, see_sg, sg0, sg1, sg2, sg3, sg4, sg5, sg6, sg7, at_tup, at_lst, cut_tup, cut_lst, at0, at1, at2, at3, at4, at5, at6, at7, eq_non_non, eq_non_bl, eq_non_int, eq_non_str, eq_non_tup, eq_non_lst, eq_bl_non, eq_bl_bl, eq_bl_int, eq_bl_str, eq_bl_tup, eq_bl_lst, eq_int_non, eq_int_bl, eq_int_int, eq_int_str, eq_int_tup, eq_int_lst, eq_str_non, eq_str_bl, eq_str_int, eq_str_str, eq_str_tup, eq_str_lst, eq_tup_non, eq_tup_bl, eq_tup_int, eq_tup_str, eq_tup_tup, eq_tup_lst, eq_lst_non, eq_lst_bl, eq_lst_int, eq_lst_str, eq_lst_tup, eq_lst_lst, dep_non, dep_bl, dep_int, dep_str, dep_tup, dep_lst, deps_nil, deps_cons, it_lst, it_tup, natL_dep, see_natL, natL_items, sg_set, set_name, set_tup, see_noRef, patch_nil, patch_cons, ev, evs, evo, evc, evi, mSet, mRet, mDo, mUnp, mPar, mAug, mApp, mExt, mPut, mOwn, mCell, mFreeze, findH, bs, endOf, mArgs, mAnds, mOrs, mTAnds, mTOrs, mAnd, mOr, mNot, mTAnd, mTOr, mTNot, mTru, mIsB, mIf, mChain, mUn, mBin, mVar, mC, mCons, mNil, mTup, mLst, mCallB, mCall, mCut, mPart, mNoPart, mIter, mRng1_s, mRng2_s, mEnum, mZip, mComp, mYes, bx, notOwn, wipeO, startE, RV.sv, bd, ret, lift, RV.see, see_int, see_bl, see_str, see_non, see_tup, see_lst, see_ref, D.isi, BOp.g, COp.g, Bi.g, D.cmpI, D.add, D.sub, D.mul, D.fdiv, D.mod, D.neg, D.bLen, D.bAbs, D.bTuple, D.bList, D.bInt, allVal, setAll, D.truth, D.isNo, D.notNo, D.nonB, D.toInt, D.eqO, D.neO, D.inO, D.ninO, sz1, sz2, sz3, sz4, sz5, sz6, sz7, sz8, sz9, sz10, sz11, sz12, en2, wv_set, em, mn2, -List.isEmpty_map, -List.isEmpty_iff]
      refine KP_of rfl ?_
      simp [getV, ofI, iv, hd, ek2, natL]
    | false =>
      have en2 : ((ss.filter fun a => decide (a.word = Str.ofString "none")).map fun _ => D.int 1).isEmpty = true := by
        rw [List.any_eq_false] at hn
        simp
        intro a ha z
        have := word_cases (sg_word (ok a ha))
        rw [z] at this
        apply hn a ha
        simp only [noneS, z, Bool.and_eq_true, beq_iff_eq]
        refine ⟨trivial, ?_⟩
        rcases this with ⟨h1, _⟩ | ⟨h1, _⟩ | ⟨_, h1⟩ | ⟨_, h1⟩
        · exact absurd h1.symm w_on
        · exact absurd h1.symm w_ln
        · exact h1
        · exact h1
      have ek2 : kindsS ss = (List.range 3).filter fun (k : Nat) => ss.all (onlyS (k : Int)) := by unfold kindsS; rw [hn]; rfl
      simp (disch := first | assumption | omega | exact nr_int _ | exact nr_bl _ | exact nr_non | exact nr_str _ | exact nr_tup _ | exact nr_lst _ | solve_by_elim (maxDepth := 4)) [-getElem?_pos, -getElem?_neg, List.getElem?_cons_zero, List.getElem?_cons_succ, ↓ws_cons, ↓ws_frz, ↓ws_nil, KS_next, KS_ret, KS_exc, ↓ws_ite, wI_true, wI_false, wI_exc, ↓ws_loop, wL_ok, ↓ws_tr, KT_next, KT_ret, KT_exc, KF_next, KF_ret, KF_exc, KP_ret, KP_exc, ws_for_cons, ws_for_nil, wO_some, ws_some, wp_some, ↓ws_set, ↓ws_own, ↓ws_cell, ↓ws_unp, ↓ws_par, ↓ws_aug, ↓ws_app, ↓ws_ext, ↓ws_put, ↓ws_expr, ↓ws_retE, ↓ws_retN, ↓ws_pass, ↓ws_raise, szle, szlt, dle_t, dle_f, dlt_t, dlt_f, ibeq_t, ibeq_f, okR_of, isInt_yes, isInt_lo, isInt_hi, isInt_bl, isInt_non, isInt_str, isInt_tup, isInt_lst, nr_int, nr_bl, nr_str, nr_non, nr_tup, nr_lst, ↓compD_F, stepD, ↓compF_map, ↓compF_rng, compF_ret, compF_nil, compF_cons, ite_ok, ite_val, ite_bl, ite_int, fm_ite, fm_dec, rngD_len, st0, st1, see_st, see_sg, sg0, sg1, sg2, sg3, sg4, sg5, sg6, sg7, at_tup, at_lst, cut_tup, cut_lst, at0, at1, at2, at3, at4, at5, at6, at7, eq_non_non, eq_non_bl, eq_non_int, eq_non_str, eq_non_tup, eq_non_lst, eq_bl_non, eq_bl_bl, eq_bl_int, eq_bl_str, eq_bl_tup, eq_bl_lst, eq_int_non, eq_int_bl, eq_int_int, eq_int_str, eq_int_tup, eq_int_lst, eq_str_non, eq_str_bl, eq_str_int, eq_str_str, eq_str_tup, eq_str_lst, eq_tup_non, eq_tup_bl, eq_tup_int, eq_tup_str, eq_tup_tup, eq_tup_lst, eq_lst_non, eq_lst_bl, eq_lst_int, eq_lst_str, eq_lst_tup, eq_lst_lst, dep_non, dep_bl, dep_int, dep_str, dep_tup, dep_lst, deps_nil, deps_cons, it_lst, it_tup, natL_dep, see_natL, natL_items, sg_set, set_name, set_tup, see_noRef, patch_nil, patch_cons, ev, evs, evo, evc, evi, mSet, mRet, mDo, mUnp, mPar, mAug, mApp, mExt, mPut, mOwn, mCell, mFreeze, findH, bs, endOf, mArgs, mAnds, mOrs, mTAnds, mTOrs, mAnd, mOr, mNot, mTAnd, mTOr, mTNot, mTru, mIsB, mIf, mChain, mUn, mBin, mVar, mC, mCons, mNil, mTup, mLst, mCallB, mCall, mCut, mPart, mNoPart, mIter, mRng1_s, mRng2_s, mEnum, mZip, mComp, mYes, bx, notOwn, wipeO, startE, RV.sv, bd, ret, lift, RV.see, see_int, see_bl, see_str, see_non, see_tup, see_lst, see_ref, D.isi, BOp.g, COp.g, Bi.g, D.cmpI, D.add, D.sub, D.mul, D.fdiv, D.mod, D.neg, D.bLen, D.bAbs, D.bTuple, D.bList, D.bInt, allVal, setAll, D.truth, D.isNo, D.notNo, D.nonB, D.toInt, D.eqO, D.neO, D.inO, D.ninO, sz1, sz2, sz3, sz4, sz5, sz6, sz7, sz8, sz9, sz10, sz11, sz12, en2, wv_set, em, mn2, -List.isEmpty_map, -List.isEmpty_iff]
      refine KP_of rfl ?_
      simp [getV, ofI, iv, hd, ek2, natL]
  · intro v hv
    rw [List.nil_append, rng_flat] at hv
    simp (disch := first | assumption | omega | exact nr_int _ | exact nr_bl _ | exact nr_non | exact nr_str _ | exact nr_tup _ | exact nr_lst _ | solve_by_elim (maxDepth := 4)) [-getElem?_pos, -getElem?_neg, List.getElem?_cons_zero, List.getElem?_cons_succ, ↓ws_cons, ↓ws_frz, ↓ws_nil, KS_next, KS_ret, KS_exc, ↓ws_ite, wI_true, wI_false, wI_exc, ↓ws_loop, wL_ok, ↓ws_tr, KT_next, KT_ret, KT_exc, KF_next, KF_ret, KF_exc, KP_ret, KP_exc, ws_for_cons, ws_for_nil, wO_some, ws_some, wp_some, ↓ws_set, ↓ws_own, ↓ws_cell, ↓ws_unp, ↓ws_par, ↓ws_aug, ↓ws_app, ↓ws_ext, ↓ws_put, ↓ws_expr, ↓ws_retE, ↓ws_retN, ↓ws_pass, ↓ws_raise, szle, szlt, dle_t, dle_f, dlt_t, dlt_f, ibeq_t, ibeq_f, okR_of, isInt_yes, isInt_lo, isInt_hi, isInt_bl, isInt_non, isInt_str, isInt_tup, isInt_lst, nr_int, nr_bl, nr_str, nr_non, nr_tup, nr_lst, ↓compD_F, stepD, ↓compF_map, ↓compF_rng, compF_ret, compF_nil, compF_cons, ite_ok, ite_val, ite_bl, ite_int, fm_ite, fm_dec, rngD_len, st0, st1, see_st, see_sg, sg0, sg1, sg2, sg3, sg4, sg5, sg6, sg7, at_tup, at_lst, cut_tup, cut_lst, at0, at1, at2, at3, at4, at5, at6, at7, eq_non_non, eq_non_bl, eq_non_int, eq_non_str, eq_non_tup, eq_non_lst, eq_bl_non, eq_bl_bl, eq_bl_int, eq_bl_str, eq_bl_tup, eq_bl_lst, eq_int_non, eq_int_bl, eq_int_int, eq_int_str, eq_int_tup, eq_int_lst, eq_str_non, eq_str_bl, eq_str_int, eq_str_str, eq_str_tup, eq_str_lst, eq_tup_non, eq_tup_bl, eq_tup_int, eq_tup_str, eq_tup_tup, eq_tup_lst, eq_lst_non, eq_lst_bl, eq_lst_int, eq_lst_str, eq_lst_tup, eq_lst_lst, dep_non, dep_bl, dep_int, dep_str, dep_tup, dep_lst, deps_nil, deps_cons, it_lst, it_tup, natL_dep, see_natL, natL_items, sg_set, set_name, set_tup, see_noRef, patch_nil, patch_cons, ev, evs, evo, evc, evi, mSet, mRet, mDo, mUnp, mPar, mAug, mApp, mExt, mPut, mOwn, mCell, mFreeze, findH, bs, endOf, mArgs, mAnds, mOrs, mTAnds, mTOrs, mAnd, mOr, mNot, mTAnd, mTOr, mTNot, mTru, mIsB, mIf, mChain, mUn, mBin, mVar, mC, mCons, mNil, mTup, mLst, mCallB, mCall, mCut, mPart, mNoPart, mIter, mRng1_s, mRng2_s, mEnum, mZip, mComp, mYes, bx, notOwn, wipeO, startE, RV.sv, bd, ret, lift, RV.see, see_int, see_bl, see_str, see_non, see_tup, see_lst, see_ref, D.isi, BOp.g, COp.g, Bi.g, D.cmpI, D.add, D.sub, D.mul, D.fdiv, D.mod, D.neg, D.bLen, D.bAbs, D.bTuple, D.bList, D.bInt, allVal, setAll, D.truth, D.isNo, D.notNo, D.nonB, D.toInt, D.eqO, D.neO, D.inO, D.ninO, sz1, sz2, sz3, sz4, sz5, sz6, sz7, sz8, sz9, sz10, sz11, sz12, hv, weekD]
abbrev kindsR : List Sg → D := fun ss => natL (kindsS ss)
abbrev limR : List Sg → D := fun ss => optD (limS ss)
theorem week_at {l : List Sg} {place hour : Int} (h0 : 0 ≤ hour) (h1 : hour < 168) : atI (weekD l place) hour = some (hourD l place hour) := by
  obtain ⟨k, rfl⟩ : ∃ k : Nat, hour = k := ⟨hour.toNat, by omega⟩
  rw [atI_nat (by simp [weekD]; omega)]
  simp [weekD]
theorem hour_set (is : List Nat) (l : List Sg) (place hour : Int) (ρ : En) : (Tg.tup is).set (hourD l place hour) ρ = setAll is [natL (kindsS (cntS l place hour)), .int ((limS (cntS l place hour)).getD 168)] ρ := rfl
theorem hour_see (h : List Cell) (l : List Sg) (place hour : Int) : D.see h (hourD l place hour) = hourD l place hour := rfl
theorem lim_lt {p : Int} {l : List Sg} (S : Str8 p l) {place hour z : Int} (h : limS (cntS l place hour) = some z) : 1 ≤ z ∧ z ≤ 24 := by
  unfold limS at h
  have h := (List.min?_eq_some_iff.mp h).1
  obtain ⟨s, hs, rfl⟩ := List.mem_map.mp h
  have hs := List.mem_filter.mp hs
  have h2 : s.word = ("limit" : Str) := by simpa using hs.2
  have := word_cases (sg_word (cnt_ok S hs.1))
  rw [h2] at this
  rcases this with ⟨h1, _⟩ | ⟨_, h1⟩ | ⟨h1, _⟩ | ⟨h1, _⟩
  · exact absurd h1.symm w_ol
  · exact h1
  · exact absurd h1 w_ln
  · exact absurd h1 w_lf
theorem kinds_self (ss : List Sg) : ((List.range 3).filter fun (k : Nat) => decide (k ∈ kindsS ss)) = kindsS ss := by
  unfold kindsS
  split
  · simp
  · apply List.filter_congr
    intro a ha
    rw [Bool.eq_iff_iff]
    simp at ha
    simp [ha]
theorem rng3 : ∀ k ∈ List.range 3, isInt (.int (k : Int)) 0 2 = true := by
  intro k hk
  have := List.mem_range.mp hk
  exact isInt_yes (by omega) (by omega)
theorem natL_is (l : List Nat) : D.lst (l.map fun (i : Nat) => D.int (i : Int)) = natL l := rfl
theorem natL_neq (l : List Nat) : D.eq (natL l) (natL l) = true := by
  rw [natL_ints]
  show D.eqs _ _ = true
  rw [eqs_ints]
  simp
theorem optD_plain (o : Option Int) : (optD o).plain = true := by cases o <;> rfl
theorem optD_dep (o : Option Int) : (optD o).dep = 0 := by cases o <;> rfl
end Kb
namespace Kb
open PySem L2
/-! ### which signs count -/
theorem topOf_max (ns : List Int) : topOf ns ∈ ns ++ [-1] ∧ ∀ n ∈ ns ++ [-1], n ≤ topOf ns := by
  unfold topOf
  cases q : (ns ++ [-1]).max? with
  | none => simp at q
  | some z => exact List.max?_eq_some_iff.mp q
theorem cntB_iff {l : List Sg} {place hour : Int} {s : Sg} (hs : s ∈ l) (h0 : 0 ≤ s.rank) : cntB l place hour s = true ↔ holdsB s place hour = true ∧ ∀ t ∈ l, holdsB t place hour = true → t.rank ≤ s.rank := by
  unfold cntB
  rw [Bool.and_eq_true]
  apply and_congr_right
  intro hh
  have m := topOf_max ((l.filter fun s => holdsB s place hour).map Sg.rank)
  unfold topR
  generalize topOf ((l.filter fun s => holdsB s place hour).map Sg.rank) = z at m
  rw [beq_iff_eq]
  constructor
  · intro e t ht h
    rw [e]
    exact m.2 _ (List.mem_append_left _ (List.mem_map.mpr ⟨t, List.mem_filter.mpr ⟨ht, h⟩, rfl⟩))
  · intro q
    have h1 := m.2 s.rank (List.mem_append_left _ (List.mem_map.mpr ⟨s, List.mem_filter.mpr ⟨hs, hh⟩, rfl⟩))
    rcases List.mem_append.mp m.1 with h2 | h2
    · obtain ⟨t, ht, e⟩ := List.mem_map.mp h2
      have ht := List.mem_filter.mp ht
      have := q t ht.1 ht.2
      omega
    · simp at h2
      omega
theorem Str8.rank {p : Int} {l : List Sg} (S : Str8 p l) {s : Sg} (h : s ∈ l) : 0 ≤ s.rank ∧ s.rank ≤ 3 := by
  have := S.ok s h
  unfold sgOk rngB at this
  simp at this
  omega
theorem Str8.cnt_iff {p : Int} {l : List Sg} (S : Str8 p l) {place hour : Int} {s : Sg} : s ∈ cntS l place hour ↔ s ∈ l ∧ holdsB s place hour = true ∧ ∀ t ∈ l, holdsB t place hour = true → t.rank ≤ s.rank := by
  unfold cntS
  rw [List.mem_filter]
  constructor
  · rintro ⟨h1, h2⟩
    exact ⟨h1, (cntB_iff h1 (S.rank h1).1).mp h2⟩
  · rintro ⟨h1, h2⟩
    exact ⟨h1, (cntB_iff h1 (S.rank h1).1).mpr h2⟩
/-- a part of a street -/
theorem Str8.sub {p : Int} {l m : List Sg} (S : Str8 p l) (h : m.Sublist l) : Str8 p m := ⟨S.p1, S.p4, Nat.le_trans h.length_le S.len, fun s hs => S.ok s (h.subset hs), h.nodup S.nd⟩
/-- signs that don't count may be left out -/
theorem cnt_sub {p : Int} {l m : List Sg} (S : Str8 p l) (h : m.Sublist l) {place hour : Int} (hc : ∀ s ∈ cntS l place hour, s ∈ m) : cntS m place hour = cntS l place hour := by
  have T := S.sub h
  have e : ∀ s ∈ m, cntB m place hour s = cntB l place hour s := by
    intro s hs
    rw [Bool.eq_iff_iff, cntB_iff hs (T.rank hs).1, cntB_iff (h.subset hs) (S.rank (h.subset hs)).1]
    apply and_congr_right
    intro hh
    constructor
    · intro q t ht hb
      -- the greatest one counts, so it is in m
      have m0 := topOf_max ((l.filter fun s => holdsB s place hour).map Sg.rank)
      generalize topOf ((l.filter fun s => holdsB s place hour).map Sg.rank) = z at m0
      have le : ∀ u ∈ l, holdsB u place hour = true → u.rank ≤ z := fun u hu hb => m0.2 _ (List.mem_append_left _ (List.mem_map.mpr ⟨u, List.mem_filter.mpr ⟨hu, hb⟩, rfl⟩))
      have h1 := le t ht hb
      rcases List.mem_append.mp m0.1 with h2 | h2
      · obtain ⟨u, hu, e⟩ := List.mem_map.mp h2
        have hu := List.mem_filter.mp hu
        have cu : u ∈ cntS l place hour := S.cnt_iff.mpr ⟨hu.1, hu.2, fun w hw hwb => by rw [e]; exact le w hw hwb⟩
        have := q u (hc u cu) hu.2
        omega
      · simp at h2
        have := S.rank ht
        omega
    · intro q t ht hb
      exact q t (h.subset ht) hb
  have e2 : cntS m place hour = m.filter (cntB l place hour) := List.filter_congr e
  rw [e2]
  unfold cntS
  -- the filter over a sublist that holds all of them
  apply (h.filter _).eq_of_length_le
  · have hf : (l.filter (cntB l place hour)).Sublist (m.filter (cntB l place hour)) := by
      clear e e2
      have hc2 : ∀ s ∈ l, cntB l place hour s = true → s ∈ m := fun s hs hb => hc s (List.mem_filter.mpr ⟨hs, hb⟩)
      generalize cntB l place hour = P at hc2
      have nd := S.nd
      clear S T hc
      induction h with
      | slnil => exact List.Sublist.refl _
      | cons a h ih =>
        rename_i l1 l2
        have nd2 := List.nodup_cons.mp nd
        have hP : P a = false := by
          cases q : P a with
          | false => rfl
          | true => exact absurd (h.subset (hc2 a List.mem_cons_self q)) nd2.1
        rw [List.filter_cons_of_neg (by rw [hP]; exact Bool.false_ne_true)]
        exact ih (fun s hs hb => hc2 s (List.mem_cons_of_mem _ hs) hb) nd2.2
      | cons_cons a h ih =>
        rename_i l1 l2
        have nd2 := List.nodup_cons.mp nd
        rw [List.filter_cons, List.filter_cons]
        have := ih (fun s hs hb => by
          rcases List.mem_cons.mp (hc2 s (List.mem_cons_of_mem _ hs) hb) with e | e
          · subst e; exact absurd hs nd2.1
          · exact e) nd2.2
        split
        · exact this.cons_cons a
        · exact this
    exact hf.length_le
theorem cut_hi {α : Type} (xs : List α) (i : Nat) : cutD xs none (some (i : Int)) = xs.take i := by
  unfold cutD HT.sIx
  simp only [if_neg (by omega : ¬ (i : Int) < 0), Int.toNat_natCast, Nat.sub_zero, List.drop_zero]
  by_cases h : i ≤ xs.length
  · rw [Nat.min_eq_left h]
  · rw [Nat.min_eq_right (by omega), List.take_of_length_le (by omega), List.take_of_length_le (by omega)]
theorem cut_lo {α : Type} (xs : List α) (i : Nat) : cutD xs (some (i : Int)) none = xs.drop i := by
  unfold cutD HT.sIx
  simp only [if_neg (by omega : ¬ (i : Int) < 0), Int.toNat_natCast]
  by_cases h : i ≤ xs.length
  · rw [Nat.min_eq_left h, List.take_of_length_le (by simp)]
  · rw [Nat.min_eq_right (by omega)]
    simp
    omega
theorem st_map (p : Int) (l : List Sg) : D.tup [.int p, .tup (l.map Sg.d)] = stD p l := rfl
theorem st_app (p : Int) (l m : List Sg) : D.tup [.int p, .tup (l.map Sg.d ++ m.map Sg.d)] = stD p (l ++ m) := by rw [← List.map_append]; rfl
theorem optD_eq (o : Option Int) : D.eq (optD o) (optD o) = true := by cases o <;> simp [optD, D.eq]
theorem erase_sub (l : List Sg) (i : Nat) : (l.take i ++ l.drop (i + 1)).Sublist l := by
  have h : (l.take i ++ l.drop (i + 1)).Sublist (l.take i ++ l.drop i) := List.Sublist.append (List.Sublist.refl _) (by
    have : (l.drop (i + 1)) = (l.drop i).drop 1 := by rw [List.drop_drop]
    rw [this]
    exact List.drop_sublist _ _)
  rw [List.take_append_drop] at h
  exact h
theorem natL_eqs (a b : List Nat) : D.eq (natL a) (natL b) = decide (a = b) := by
  rw [natL_ints, natL_ints]
  show D.eqs _ _ = _
  rw [eqs_ints, Bool.eq_iff_iff, decide_eq_true_eq, decide_eq_true_eq]
  constructor
  · intro h
    have e : ∀ l : List Nat, (l.map fun (i : Nat) => (i : Int)).map Int.toNat = l := fun l => by
      rw [List.map_map]
      exact List.map_id _
    rw [← e a, ← e b, h]
  · intro h; rw [h]
theorem eqs_nat (a b : List Nat) : D.eqs (a.map fun (i : Nat) => D.int (i : Int)) (b.map fun (i : Nat) => D.int (i : Int)) = decide (a = b) := natL_eqs a b
theorem deps_nat (a : List Nat) : D.deps (a.map fun (i : Nat) => D.int (i : Int)) = 0 := by
  have := deps_ints (a.map fun (i : Nat) => (i : Int))
  rw [List.map_map] at this
  exact this
theorem any_natD (l : List Nat) (k : Nat) : (l.any ((fun z => D.eq z (.int (k : Int))) ∘ fun (i : Nat) => D.int (i : Int))) = decide (k ∈ l) := by
  rw [Bool.eq_iff_iff]
  simp only [List.any_eq_true, Function.comp, D.eq, beq_iff_eq, decide_eq_true_eq]
  constructor
  · rintro ⟨x, h, e⟩
    have : x = k := by omega
    rw [← this]
    exact h
  · intro h; exact ⟨k, h, rfl⟩
theorem eqs_nat_nil (a : List Nat) : D.eqs (a.map fun (i : Nat) => D.int (i : Int)) [] = a.isEmpty := by cases a <;> rfl
theorem cut_lo1 {α : Type} (xs : List α) (i : Nat) : cutD xs (some ((i : Int) + 1)) none = xs.drop (i + 1) := cut_lo xs (i + 1)
theorem st_erase (p : Int) (l : List Sg) (i j : Nat) : D.tup [.int p, .tup (List.take i (l.map Sg.d) ++ List.drop j (l.map Sg.d))] = stD p (l.take i ++ l.drop j) := by
  rw [← List.map_take, ← List.map_drop, st_app]
theorem rngB_yes {i a b : Int} (h0 : a ≤ i) (h1 : i ≤ b) : rngB i a b = true := isInt_yes h0 h1
theorem sg_mk {p : Int} {s : Sg} (a0 : 0 ≤ s.rank) (a1 : s.rank ≤ 3) (b0 : 0 ≤ s.start) (b1 : s.start < s.stop) (b2 : s.stop ≤ p) (c : daysOk s.days = true) (d0 : 0 ≤ s.first) (d1 : s.first ≤ 23) (e0 : 0 ≤ s.last) (e1 : s.last ≤ 24) (w : wordD (.str s.word) (.int s.value) = true) : sgOk p s = true := by
  unfold sgOk
  rw [rngB_yes a0 a1, rngB_yes (by omega : 1 ≤ s.stop) b2, rngB_yes b0 (by omega : s.start ≤ s.stop - 1), c, rngB_yes d0 d1, rngB_yes e0 e1, w]
  rfl
theorem sg_parts {p : Int} {s : Sg} (h : sgOk p s = true) : (0 ≤ s.rank ∧ s.rank ≤ 3) ∧ (0 ≤ s.start ∧ s.start < s.stop ∧ s.stop ≤ p) ∧ daysOk s.days = true ∧ (0 ≤ s.first ∧ s.first ≤ 23) ∧ (0 ≤ s.last ∧ s.last ≤ 24) ∧ wordD (.str s.word) (.int s.value) = true := by
  unfold sgOk rngB at h
  simp only [Bool.and_eq_true, decide_eq_true_eq] at h
  obtain ⟨⟨⟨⟨⟨⟨h1, h2⟩, h3⟩, h4⟩, h5⟩, h6⟩, h7⟩ := h
  exact ⟨h1, ⟨h3.1, by omega, h2.2⟩, h4, h5, h6, h7⟩
end Kb
namespace Kb
open PySem L2
abbrev SSameThere (F : FM) : Prop := ∀ p l m (place hour : Int) h, Str8 p l → Str8 p m → 0 ≤ place → place < p → 0 ≤ hour → hour < 168 → cntS l place hour = cntS m place hour → F [.val (stD p l), .val (stD p m), .val (.int place), .val (.int hour)] h = some (.ok (.bl true) h)
theorem same_there_ok {cl : Nat → FM} {n0 n1 xs xp xh : Nat} (h0 : SAtD xs xp xh limR (cl n0)) (h1 : SAtD xs xp xh kindsR (cl n1)) : SSameThere (runF cl 4 (b__law_same_there n0 n1)) := by
  intro p l m place hour h S T a0 a1 b0 b1 e
  apply run_of
  simp (disch := first | assumption | omega | exact nr_int _ | exact nr_bl _ | exact nr_non | exact nr_str _ | exact nr_tup _ | exact nr_lst _ | solve_by_elim (maxDepth := 4)) [-getElem?_pos, -getElem?_neg, List.getElem?_cons_zero, List.getElem?_cons_succ, ↓ws_cons, ↓ws_frz, ↓ws_nil, KS_next, KS_ret, KS_exc, ↓ws_ite, wI_true, wI_false, wI_exc, ↓ws_loop, wL_ok, ↓ws_tr, KT_next, KT_ret, KT_exc, KF_next, KF_ret, KF_exc, KP_ret, KP_exc, ws_for_cons, ws_for_nil, wO_some, ws_some, wp_some, ↓ws_set, ↓ws_own, ↓ws_cell, ↓ws_unp, ↓ws_par, ↓ws_aug, ↓ws_app, ↓ws_ext, ↓ws_put, ↓ws_expr, ↓ws_retE, ↓ws_retN, ↓ws_pass, ↓ws_raise, szle, szlt, dle_t, dle_f, dlt_t, dlt_f, ibeq_t, ibeq_f, okR_of, isInt_yes, isInt_lo, isInt_hi, isInt_bl, isInt_non, isInt_str, isInt_tup, isInt_lst, nr_int, nr_bl, nr_str, nr_non, nr_tup, nr_lst, ↓compD_F, stepD, ↓compF_map, ↓compF_rng, compF_ret, compF_nil, compF_cons, ite_ok, ite_val, ite_bl, ite_int, fm_ite, fm_dec, rngD_len, st0, st1, see_st, see_sg, sg0, sg1, sg2, sg3, sg4, sg5, sg6, sg7, at_tup, at_lst, cut_tup, cut_lst, at0, at1, at2, at3, at4, at5, at6, at7, eq_non_non, eq_non_bl, eq_non_int, eq_non_str, eq_non_tup, eq_non_lst, eq_bl_non, eq_bl_bl, eq_bl_int, eq_bl_str, eq_bl_tup, eq_bl_lst, eq_int_non, eq_int_bl, eq_int_int, eq_int_str, eq_int_tup, eq_int_lst, eq_str_non, eq_str_bl, eq_str_int, eq_str_str, eq_str_tup, eq_str_lst, eq_tup_non, eq_tup_bl, eq_tup_int, eq_tup_str, eq_tup_tup, eq_tup_lst, eq_lst_non, eq_lst_bl, eq_lst_int, eq_lst_str, eq_lst_tup, eq_lst_lst, dep_non, dep_bl, dep_int, dep_str, dep_tup, dep_lst, deps_nil, deps_cons, it_lst, it_tup, natL_dep, see_natL, natL_items, sg_set, set_name, set_tup, see_noRef, patch_nil, patch_cons, ev, evs, evo, evc, evi, mSet, mRet, mDo, mUnp, mPar, mAug, mApp, mExt, mPut, mOwn, mCell, mFreeze, findH, bs, endOf, mArgs, mAnds, mOrs, mTAnds, mTOrs, mAnd, mOr, mNot, mTAnd, mTOr, mTNot, mTru, mIsB, mIf, mChain, mUn, mBin, mVar, mC, mCons, mNil, mTup, mLst, mCallB, mCall, mCut, mPart, mNoPart, mIter, mRng1_s, mRng2_s, mEnum, mZip, mComp, mYes, bx, notOwn, wipeO, startE, RV.sv, bd, ret, lift, RV.see, see_int, see_bl, see_str, see_non, see_tup, see_lst, see_ref, D.isi, BOp.g, COp.g, Bi.g, D.cmpI, D.add, D.sub, D.mul, D.fdiv, D.mod, D.neg, D.bLen, D.bAbs, D.bTuple, D.bList, D.bInt, allVal, setAll, D.truth, D.isNo, D.notNo, D.nonB, D.toInt, D.eqO, D.neO, D.inO, D.ninO, sz1, sz2, sz3, sz4, sz5, sz6, sz7, sz8, sz9, sz10, sz11, sz12, b__law_same_there, h0.1, h1.1, iv, kindsR, limR, e, natL_eqs, optD_see, optD_dep, optD_eq]
theorem holdL_iff {l : List Sg} {place hour : Int} {i : Nat} : i ∈ holdL l place hour ↔ ∃ s, l[i]? = some s ∧ holdsB s place hour = true := by
  unfold holdL
  rw [List.mem_map]
  constructor
  · rintro ⟨q, hq, rfl⟩
    have hq := List.mem_filter.mp hq
    exact ⟨q.1, zi_at hq.1, hq.2⟩
  · rintro ⟨s, h1, h2⟩
    refine ⟨(s, i), List.mem_filter.mpr ⟨?_, h2⟩, rfl⟩
    rw [List.mem_zipIdx_iff_getElem?]
    exact h1
theorem countL_iff {l : List Sg} {place hour : Int} {i : Nat} : i ∈ countL l place hour ↔ ∃ s, l[i]? = some s ∧ cntB l place hour s = true := by
  rw [countL_eq, List.mem_map]
  constructor
  · rintro ⟨q, hq, rfl⟩
    have hq := List.mem_filter.mp hq
    exact ⟨q.1, zi_at hq.1, hq.2⟩
  · rintro ⟨s, h1, h2⟩
    refine ⟨(s, i), List.mem_filter.mpr ⟨?_, h2⟩, rfl⟩
    rw [List.mem_zipIdx_iff_getElem?]
    exact h1
/-- a sign that does not count left out -/
theorem cnt_erase {p : Int} {l : List Sg} (S : Str8 p l) {place hour : Int} {i : Nat} (hi : i ∉ countL l place hour) : cntS (l.take i ++ l.drop (i + 1)) place hour = cntS l place hour := by
  apply cnt_sub S (erase_sub l i)
  intro s hs
  have hs := List.mem_filter.mp hs
  obtain ⟨j, hj⟩ := List.mem_iff_getElem?.mp hs.1
  have ne : j ≠ i := fun e => hi (countL_iff.mpr ⟨s, by rw [← e]; exact hj, hs.2⟩)
  rw [List.mem_append]
  rcases Nat.lt_or_ge j i with h | h
  · left
    rw [List.mem_iff_getElem?]
    exact ⟨j, by rw [List.getElem?_take_of_lt h]; exact hj⟩
  · right
    rw [List.mem_iff_getElem?]
    refine ⟨j - (i + 1), ?_⟩
    rw [List.getElem?_drop]
    have : i + 1 + (j - (i + 1)) = j := by omega
    rw [this]
    exact hj
theorem cnt_cnt {p : Int} {l : List Sg} (S : Str8 p l) (place hour : Int) : cntS (cntS l place hour) place hour = cntS l place hour := cnt_sub S List.filter_sublist fun s hs => hs
theorem count_max {p : Int} {l : List Sg} (S : Str8 p l) {place hour : Int} {z : Int} (hz : ((holdL l place hour).map (rankAt l)).max? = some z) : (holdL l place hour).filter (fun i => rankAt l i == z) = countL l place hour := by
  have ht := top_max hz (fun n hn => by
      obtain ⟨i, hi, rfl⟩ := List.mem_map.mp hn
      rw [rankAt_eq (holdL_lt hi)]
      exact rank_pos (S.ok _ (List.getElem_mem _)))
  unfold countL countOf
  rw [ht]
abbrev SHolds04 (F : FM) : Prop := ∀ p l (place hour : Int) h, Str8 p l → 0 ≤ place → place < p → 0 ≤ hour → hour < 168 → F [.val (stD p l), .val (.int place), .val (.int hour)] h = some (.ok (.bl true) h)
theorem rank_idx {l : List Sg} {i : Nat} (h : i < l.length) : atI (l.map Sg.d) (i : Int) = some (l[i].d) := by
  rw [atI_nat (by rw [List.length_map]; exact h), List.getElem_map]
theorem mem_natD {d : D} {l : List Nat} (h : d ∈ l.map fun (i : Nat) => D.int (i : Int)) : ∃ i ∈ l, d = .int (i : Int) := by
  obtain ⟨i, h1, h2⟩ := List.mem_map.mp h
  exact ⟨i, h1, h2.symm⟩
theorem holds04_ok {cl : Nat → FM} {n0 n1 n2 n3 n4 n5 xs xk xp xh : Nat} (h0 : SMayStand xs xk xp xh (cl n0)) (h1 : SAtD xs xp xh kindsR (cl n1)) (h2 : SSameThere (cl n2)) (h3 : SIsStreetD (cl n3)) (h4 : SAtG xs xp xh (fun l p h => natL (countL l p h)) (cl n4)) (h5 : SAtG xs xp xh (fun l p h => natL (holdL l p h)) (cl n5)) : SHolds04 (runF cl 10 (b__law_holds n0 n1 n2 n3 n4 n5)) := by
  intro p l place hour h S a0 a1 b0 b1
  apply run_of
  have sl := S.len
  have s1 := holdL_len l place hour
  have s2 := countL_len l place hour
  have T := S.sub (m := cntS l place hour) List.filter_sublist
  have k1 := st_ok T
  have k2 := street_is T
  have kk := kinds_self (cntS l place hour)
  have hr : ∀ i ∈ holdL l place hour, atI (l.map Sg.d) (i : Int) = some ((l[i]?.getD ⟨0, 0, 0, [], 0, 0, "", 0⟩).d) := fun i hi => by
    rw [rank_idx (holdL_lt hi), List.getElem?_eq_getElem (holdL_lt hi)]
    rfl
  have hr2 : ∀ i, (l[i]?.getD ⟨0, 0, 0, [], 0, 0, "", 0⟩).rank = rankAt l i := fun i => by
    unfold rankAt
    cases l[i]? <;> rfl
  have hc : ∀ i ∈ countL l place hour, atI (l.map Sg.d) (i : Int) = some ((l[i]?.getD ⟨0, 0, 0, [], 0, 0, "", 0⟩).d) := fun i hi => hr i (List.mem_filter.mp hi).1
  have hc2 : ((countL l place hour).map fun i => (l[i]?.getD ⟨0, 0, 0, [], 0, 0, "", 0⟩).d) = (cntS l place hour).map Sg.d := by
    rw [countL_eq, List.map_map]
    unfold cntS
    rw [← zi_fil l (cntB l place hour) 0, List.map_map]
    apply List.map_congr_left
    intro q hq
    simp only [Function.comp, zi_at (List.mem_filter.mp hq).1, Option.getD_some]
  have ez : ((holdL l place hour).map fun i => D.int (rankAt l i)) = ((holdL l place hour).map (rankAt l)).map D.int := by rw [List.map_map]; rfl
  have ec := (cnt_cnt S place hour).symm
  have hne : ∀ a, a ∈ holdL l place hour → holdL l place hour ≠ [] := fun a ha e => by rw [e] at ha; cases ha
  obtain ⟨z, hm, e5⟩ : ∃ z, (holdL l place hour ≠ [] → D.bMax [.lst ((holdL l place hour).map fun i => D.int (rankAt l i))] = some (.int z)) ∧ ((holdL l place hour).filter fun i => decide (rankAt l i = z)) = countL l place hour := by
    cases hm : ((holdL l place hour).map (rankAt l)).max? with
    | none =>
      rw [List.max?_eq_none_iff, List.map_eq_nil_iff] at hm
      refine ⟨0, fun h => absurd hm h, ?_⟩
      unfold countL countOf
      rw [hm]
      rfl
    | some z =>
      refine ⟨z, fun _ => ?_, ?_⟩
      · rw [ez]
        have e2 : D.bMax [.lst (((holdL l place hour).map (rankAt l)).map D.int)] = (D.ints (((holdL l place hour).map (rankAt l)).map D.int)).bind fun ns => ns.max?.map D.int := rfl
        rw [e2, ints_map]
        simp [hm]
      · rw [← count_max S hm]
        apply List.filter_congr
        intro i _
        rw [Bool.eq_iff_iff]
        simp
  simp (disch := first | assumption | omega | exact nr_int _ | exact nr_bl _ | exact nr_non | exact nr_str _ | exact nr_tup _ | exact nr_lst _ | solve_by_elim (maxDepth := 4)) [-getElem?_pos, -getElem?_neg, List.getElem?_cons_zero, List.getElem?_cons_succ, ↓ws_cons, ↓ws_frz, ↓ws_nil, KS_next, KS_ret, KS_exc, ↓ws_ite, wI_true, wI_false, wI_exc, ↓ws_loop, wL_ok, ↓ws_tr, KT_next, KT_ret, KT_exc, KF_next, KF_ret, KF_exc, KP_ret, KP_exc, ws_for_cons, ws_for_nil, wO_some, ws_some, wp_some, ↓ws_set, ↓ws_own, ↓ws_cell, ↓ws_unp, ↓ws_par, ↓ws_aug, ↓ws_app, ↓ws_ext, ↓ws_put, ↓ws_expr, ↓ws_retE, ↓ws_retN, ↓ws_pass, ↓ws_raise, szle, szlt, dle_t, dle_f, dlt_t, dlt_f, ibeq_t, ibeq_f, okR_of, isInt_yes, isInt_lo, isInt_hi, isInt_bl, isInt_non, isInt_str, isInt_tup, isInt_lst, nr_int, nr_bl, nr_str, nr_non, nr_tup, nr_lst, ↓compD_F, stepD, ↓compF_map, ↓compF_rng, compF_ret, compF_nil, compF_cons, ite_ok, ite_val, ite_bl, ite_int, fm_ite, fm_dec, rngD_len, st0, st1, see_st, see_sg, sg0, sg1, sg2, sg3, sg4, sg5, sg6, sg7, at_tup, at_lst, cut_tup, cut_lst, at0, at1, at2, at3, at4, at5, at6, at7, eq_non_non, eq_non_bl, eq_non_int, eq_non_str, eq_non_tup, eq_non_lst, eq_bl_non, eq_bl_bl, eq_bl_int, eq_bl_str, eq_bl_tup, eq_bl_lst, eq_int_non, eq_int_bl, eq_int_int, eq_int_str, eq_int_tup, eq_int_lst, eq_str_non, eq_str_bl, eq_str_int, eq_str_str, eq_str_tup, eq_str_lst, eq_tup_non, eq_tup_bl, eq_tup_int, eq_tup_str, eq_tup_tup, eq_tup_lst, eq_lst_non, eq_lst_bl, eq_lst_int, eq_lst_str, eq_lst_tup, eq_lst_lst, dep_non, dep_bl, dep_int, dep_str, dep_tup, dep_lst, deps_nil, deps_cons, it_lst, it_tup, natL_dep, see_natL, natL_items, sg_set, set_name, set_tup, see_noRef, patch_nil, patch_cons, ev, evs, evo, evc, evi, mSet, mRet, mDo, mUnp, mPar, mAug, mApp, mExt, mPut, mOwn, mCell, mFreeze, findH, bs, endOf, mArgs, mAnds, mOrs, mTAnds, mTOrs, mAnd, mOr, mNot, mTAnd, mTOr, mTNot, mTru, mIsB, mIf, mChain, mUn, mBin, mVar, mC, mCons, mNil, mTup, mLst, mCallB, mCall, mCut, mPart, mNoPart, mIter, mRng1_s, mRng2_s, mEnum, mZip, mComp, mYes, bx, notOwn, wipeO, startE, RV.sv, bd, ret, lift, RV.see, see_int, see_bl, see_str, see_non, see_tup, see_lst, see_ref, D.isi, BOp.g, COp.g, Bi.g, D.cmpI, D.add, D.sub, D.mul, D.fdiv, D.mod, D.neg, D.bLen, D.bAbs, D.bTuple, D.bList, D.bInt, allVal, setAll, D.truth, D.isNo, D.notNo, D.nonB, D.toInt, D.eqO, D.neO, D.inO, D.ninO, sz1, sz2, sz3, sz4, sz5, sz6, sz7, sz8, sz9, sz10, sz11, sz12, b__law_holds, h4.1, h5.1, iv, natL]
  rw [compF_ok fun i => some (.int (rankAt l i))]
  rotate_left
  · intro i hi h
    simp (disch := first | assumption | omega | exact nr_int _ | exact nr_bl _ | exact nr_non | exact nr_str _ | exact nr_tup _ | exact nr_lst _ | solve_by_elim (maxDepth := 4)) [-getElem?_pos, -getElem?_neg, List.getElem?_cons_zero, List.getElem?_cons_succ, ↓ws_cons, ↓ws_frz, ↓ws_nil, KS_next, KS_ret, KS_exc, ↓ws_ite, wI_true, wI_false, wI_exc, ↓ws_loop, wL_ok, ↓ws_tr, KT_next, KT_ret, KT_exc, KF_next, KF_ret, KF_exc, KP_ret, KP_exc, ws_for_cons, ws_for_nil, wO_some, ws_some, wp_some, ↓ws_set, ↓ws_own, ↓ws_cell, ↓ws_unp, ↓ws_par, ↓ws_aug, ↓ws_app, ↓ws_ext, ↓ws_put, ↓ws_expr, ↓ws_retE, ↓ws_retN, ↓ws_pass, ↓ws_raise, szle, szlt, dle_t, dle_f, dlt_t, dlt_f, ibeq_t, ibeq_f, okR_of, isInt_yes, isInt_lo, isInt_hi, isInt_bl, isInt_non, isInt_str, isInt_tup, isInt_lst, nr_int, nr_bl, nr_str, nr_non, nr_tup, nr_lst, ↓compD_F, stepD, ↓compF_map, ↓compF_rng, compF_ret, compF_nil, compF_cons, ite_ok, ite_val, ite_bl, ite_int, fm_ite, fm_dec, rngD_len, st0, st1, see_st, see_sg, sg0, sg1, sg2, sg3, sg4, sg5, sg6, sg7, at_tup, at_lst, cut_tup, cut_lst, at0, at1, at2, at3, at4, at5, at6, at7, eq_non_non, eq_non_bl, eq_non_int, eq_non_str, eq_non_tup, eq_non_lst, eq_bl_non, eq_bl_bl, eq_bl_int, eq_bl_str, eq_bl_tup, eq_bl_lst, eq_int_non, eq_int_bl, eq_int_int, eq_int_str, eq_int_tup, eq_int_lst, eq_str_non, eq_str_bl, eq_str_int, eq_str_str, eq_str_tup, eq_str_lst, eq_tup_non, eq_tup_bl, eq_tup_int, eq_tup_str, eq_tup_tup, eq_tup_lst, eq_lst_non, eq_lst_bl, eq_lst_int, eq_lst_str, eq_lst_tup, eq_lst_lst, dep_non, dep_bl, dep_int, dep_str, dep_tup, dep_lst, deps_nil, deps_cons, it_lst, it_tup, natL_dep, see_natL, natL_items, sg_set, set_name, set_tup, see_noRef, patch_nil, patch_cons, ev, evs, evo, evc, evi, mSet, mRet, mDo, mUnp, mPar, mAug, mApp, mExt, mPut, mOwn, mCell, mFreeze, findH, bs, endOf, mArgs, mAnds, mOrs, mTAnds, mTOrs, mAnd, mOr, mNot, mTAnd, mTOr, mTNot, mTru, mIsB, mIf, mChain, mUn, mBin, mVar, mC, mCons, mNil, mTup, mLst, mCallB, mCall, mCut, mPart, mNoPart, mIter, mRng1_s, mRng2_s, mEnum, mZip, mComp, mYes, bx, notOwn, wipeO, startE, RV.sv, bd, ret, lift, RV.see, see_int, see_bl, see_str, see_non, see_tup, see_lst, see_ref, D.isi, BOp.g, COp.g, Bi.g, D.cmpI, D.add, D.sub, D.mul, D.fdiv, D.mod, D.neg, D.bLen, D.bAbs, D.bTuple, D.bList, D.bInt, allVal, setAll, D.truth, D.isNo, D.notNo, D.nonB, D.toInt, D.eqO, D.neO, D.inO, D.ninO, sz1, sz2, sz3, sz4, sz5, sz6, sz7, sz8, sz9, sz10, sz11, sz12, hr i hi, hr2]
  simp (disch := first | assumption | omega | exact nr_int _ | exact nr_bl _ | exact nr_non | exact nr_str _ | exact nr_tup _ | exact nr_lst _ | solve_by_elim (maxDepth := 4)) [-getElem?_pos, -getElem?_neg, List.getElem?_cons_zero, List.getElem?_cons_succ, ↓ws_cons, ↓ws_frz, ↓ws_nil, KS_next, KS_ret, KS_exc, ↓ws_ite, wI_true, wI_false, wI_exc, ↓ws_loop, wL_ok, ↓ws_tr, KT_next, KT_ret, KT_exc, KF_next, KF_ret, KF_exc, KP_ret, KP_exc, ws_for_cons, ws_for_nil, wO_some, ws_some, wp_some, ↓ws_set, ↓ws_own, ↓ws_cell, ↓ws_unp, ↓ws_par, ↓ws_aug, ↓ws_app, ↓ws_ext, ↓ws_put, ↓ws_expr, ↓ws_retE, ↓ws_retN, ↓ws_pass, ↓ws_raise, szle, szlt, dle_t, dle_f, dlt_t, dlt_f, ibeq_t, ibeq_f, okR_of, isInt_yes, isInt_lo, isInt_hi, isInt_bl, isInt_non, isInt_str, isInt_tup, isInt_lst, nr_int, nr_bl, nr_str, nr_non, nr_tup, nr_lst, ↓compD_F, stepD, ↓compF_map, ↓compF_rng, compF_ret, compF_nil, compF_cons, ite_ok, ite_val, ite_bl, ite_int, fm_ite, fm_dec, rngD_len, st0, st1, see_st, see_sg, sg0, sg1, sg2, sg3, sg4, sg5, sg6, sg7, at_tup, at_lst, cut_tup, cut_lst, at0, at1, at2, at3, at4, at5, at6, at7, eq_non_non, eq_non_bl, eq_non_int, eq_non_str, eq_non_tup, eq_non_lst, eq_bl_non, eq_bl_bl, eq_bl_int, eq_bl_str, eq_bl_tup, eq_bl_lst, eq_int_non, eq_int_bl, eq_int_int, eq_int_str, eq_int_tup, eq_int_lst, eq_str_non, eq_str_bl, eq_str_int, eq_str_str, eq_str_tup, eq_str_lst, eq_tup_non, eq_tup_bl, eq_tup_int, eq_tup_str, eq_tup_tup, eq_tup_lst, eq_lst_non, eq_lst_bl, eq_lst_int, eq_lst_str, eq_lst_tup, eq_lst_lst, dep_non, dep_bl, dep_int, dep_str, dep_tup, dep_lst, deps_nil, deps_cons, it_lst, it_tup, natL_dep, see_natL, natL_items, sg_set, set_name, set_tup, see_noRef, patch_nil, patch_cons, ev, evs, evo, evc, evi, mSet, mRet, mDo, mUnp, mPar, mAug, mApp, mExt, mPut, mOwn, mCell, mFreeze, findH, bs, endOf, mArgs, mAnds, mOrs, mTAnds, mTOrs, mAnd, mOr, mNot, mTAnd, mTOr, mTNot, mTru, mIsB, mIf, mChain, mUn, mBin, mVar, mC, mCons, mNil, mTup, mLst, mCallB, mCall, mCut, mPart, mNoPart, mIter, mRng1_s, mRng2_s, mEnum, mZip, mComp, mYes, bx, notOwn, wipeO, startE, RV.sv, bd, ret, lift, RV.see, see_int, see_bl, see_str, see_non, see_tup, see_lst, see_ref, D.isi, BOp.g, COp.g, Bi.g, D.cmpI, D.add, D.sub, D.mul, D.fdiv, D.mod, D.neg, D.bLen, D.bAbs, D.bTuple, D.bList, D.bInt, allVal, setAll, D.truth, D.isNo, D.notNo, D.nonB, D.toInt, D.eqO, D.neO, D.inO, D.ninO, sz1, sz2, sz3, sz4, sz5, sz6, sz7, sz8, sz9, sz10, sz11, sz12]
  rw [compF_ok fun i => if rankAt l i = z then some (.int (i : Int)) else none]
  rotate_left
  · intro i hi h
    simp (disch := first | assumption | omega | exact nr_int _ | exact nr_bl _ | exact nr_non | exact nr_str _ | exact nr_tup _ | exact nr_lst _ | solve_by_elim (maxDepth := 4)) [-getElem?_pos, -getElem?_neg, List.getElem?_cons_zero, List.getElem?_cons_succ, ↓ws_cons, ↓ws_frz, ↓ws_nil, KS_next, KS_ret, KS_exc, ↓ws_ite, wI_true, wI_false, wI_exc, ↓ws_loop, wL_ok, ↓ws_tr, KT_next, KT_ret, KT_exc, KF_next, KF_ret, KF_exc, KP_ret, KP_exc, ws_for_cons, ws_for_nil, wO_some, ws_some, wp_some, ↓ws_set, ↓ws_own, ↓ws_cell, ↓ws_unp, ↓ws_par, ↓ws_aug, ↓ws_app, ↓ws_ext, ↓ws_put, ↓ws_expr, ↓ws_retE, ↓ws_retN, ↓ws_pass, ↓ws_raise, szle, szlt, dle_t, dle_f, dlt_t, dlt_f, ibeq_t, ibeq_f, okR_of, isInt_yes, isInt_lo, isInt_hi, isInt_bl, isInt_non, isInt_str, isInt_tup, isInt_lst, nr_int, nr_bl, nr_str, nr_non, nr_tup, nr_lst, ↓compD_F, stepD, ↓compF_map, ↓compF_rng, compF_ret, compF_nil, compF_cons, ite_ok, ite_val, ite_bl, ite_int, fm_ite, fm_dec, rngD_len, st0, st1, see_st, see_sg, sg0, sg1, sg2, sg3, sg4, sg5, sg6, sg7, at_tup, at_lst, cut_tup, cut_lst, at0, at1, at2, at3, at4, at5, at6, at7, eq_non_non, eq_non_bl, eq_non_int, eq_non_str, eq_non_tup, eq_non_lst, eq_bl_non, eq_bl_bl, eq_bl_int, eq_bl_str, eq_bl_tup, eq_bl_lst, eq_int_non, eq_int_bl, eq_int_int, eq_int_str, eq_int_tup, eq_int_lst, eq_str_non, eq_str_bl, eq_str_int, eq_str_str, eq_str_tup, eq_str_lst, eq_tup_non, eq_tup_bl, eq_tup_int, eq_tup_str, eq_tup_tup, eq_tup_lst, eq_lst_non, eq_lst_bl, eq_lst_int, eq_lst_str, eq_lst_tup, eq_lst_lst, dep_non, dep_bl, dep_int, dep_str, dep_tup, dep_lst, deps_nil, deps_cons, it_lst, it_tup, natL_dep, see_natL, natL_items, sg_set, set_name, set_tup, see_noRef, patch_nil, patch_cons, ev, evs, evo, evc, evi, mSet, mRet, mDo, mUnp, mPar, mAug, mApp, mExt, mPut, mOwn, mCell, mFreeze, findH, bs, endOf, mArgs, mAnds, mOrs, mTAnds, mTOrs, mAnd, mOr, mNot, mTAnd, mTOr, mTNot, mTru, mIsB, mIf, mChain, mUn, mBin, mVar, mC, mCons, mNil, mTup, mLst, mCallB, mCall, mCut, mPart, mNoPart, mIter, mRng1_s, mRng2_s, mEnum, mZip, mComp, mYes, bx, notOwn, wipeO, startE, RV.sv, bd, ret, lift, RV.see, see_int, see_bl, see_str, see_non, see_tup, see_lst, see_ref, D.isi, BOp.g, COp.g, Bi.g, D.cmpI, D.add, D.sub, D.mul, D.fdiv, D.mod, D.neg, D.bLen, D.bAbs, D.bTuple, D.bList, D.bInt, allVal, setAll, D.truth, D.isNo, D.notNo, D.nonB, D.toInt, D.eqO, D.neO, D.inO, D.ninO, sz1, sz2, sz3, sz4, sz5, sz6, sz7, sz8, sz9, sz10, sz11, sz12, hr i hi, hr2, hm (hne i hi)]
  simp (disch := first | assumption | omega | exact nr_int _ | exact nr_bl _ | exact nr_non | exact nr_str _ | exact nr_tup _ | exact nr_lst _ | solve_by_elim (maxDepth := 4)) [-getElem?_pos, -getElem?_neg, List.getElem?_cons_zero, List.getElem?_cons_succ, ↓ws_cons, ↓ws_frz, ↓ws_nil, KS_next, KS_ret, KS_exc, ↓ws_ite, wI_true, wI_false, wI_exc, ↓ws_loop, wL_ok, ↓ws_tr, KT_next, KT_ret, KT_exc, KF_next, KF_ret, KF_exc, KP_ret, KP_exc, ws_for_cons, ws_for_nil, wO_some, ws_some, wp_some, ↓ws_set, ↓ws_own, ↓ws_cell, ↓ws_unp, ↓ws_par, ↓ws_aug, ↓ws_app, ↓ws_ext, ↓ws_put, ↓ws_expr, ↓ws_retE, ↓ws_retN, ↓ws_pass, ↓ws_raise, szle, szlt, dle_t, dle_f, dlt_t, dlt_f, ibeq_t, ibeq_f, okR_of, isInt_yes, isInt_lo, isInt_hi, isInt_bl, isInt_non, isInt_str, isInt_tup, isInt_lst, nr_int, nr_bl, nr_str, nr_non, nr_tup, nr_lst, ↓compD_F, stepD, ↓compF_map, ↓compF_rng, compF_ret, compF_nil, compF_cons, ite_ok, ite_val, ite_bl, ite_int, fm_ite, fm_dec, rngD_len, st0, st1, see_st, see_sg, sg0, sg1, sg2, sg3, sg4, sg5, sg6, sg7, at_tup, at_lst, cut_tup, cut_lst, at0, at1, at2, at3, at4, at5, at6, at7, eq_non_non, eq_non_bl, eq_non_int, eq_non_str, eq_non_tup, eq_non_lst, eq_bl_non, eq_bl_bl, eq_bl_int, eq_bl_str, eq_bl_tup, eq_bl_lst, eq_int_non, eq_int_bl, eq_int_int, eq_int_str, eq_int_tup, eq_int_lst, eq_str_non, eq_str_bl, eq_str_int, eq_str_str, eq_str_tup, eq_str_lst, eq_tup_non, eq_tup_bl, eq_tup_int, eq_tup_str, eq_tup_tup, eq_tup_lst, eq_lst_non, eq_lst_bl, eq_lst_int, eq_lst_str, eq_lst_tup, eq_lst_lst, dep_non, dep_bl, dep_int, dep_str, dep_tup, dep_lst, deps_nil, deps_cons, it_lst, it_tup, natL_dep, see_natL, natL_items, sg_set, set_name, set_tup, see_noRef, patch_nil, patch_cons, ev, evs, evo, evc, evi, mSet, mRet, mDo, mUnp, mPar, mAug, mApp, mExt, mPut, mOwn, mCell, mFreeze, findH, bs, endOf, mArgs, mAnds, mOrs, mTAnds, mTOrs, mAnd, mOr, mNot, mTAnd, mTOr, mTNot, mTru, mIsB, mIf, mChain, mUn, mBin, mVar, mC, mCons, mNil, mTup, mLst, mCallB, mCall, mCut, mPart, mNoPart, mIter, mRng1_s, mRng2_s, mEnum, mZip, mComp, mYes, bx, notOwn, wipeO, startE, RV.sv, bd, ret, lift, RV.see, see_int, see_bl, see_str, see_non, see_tup, see_lst, see_ref, D.isi, BOp.g, COp.g, Bi.g, D.cmpI, D.add, D.sub, D.mul, D.fdiv, D.mod, D.neg, D.bLen, D.bAbs, D.bTuple, D.bList, D.bInt, allVal, setAll, D.truth, D.isNo, D.notNo, D.nonB, D.toInt, D.eqO, D.neO, D.inO, D.ninO, sz1, sz2, sz3, sz4, sz5, sz6, sz7, sz8, sz9, sz10, sz11, sz12, e5, eqs_nat, deps_nat]
  refine ws_forP [6, 7] (fun rest v h' => h' = h ∧ (v 6 = none ∨ ∃ d, v 6 = some (.val d)) ∧ ∀ d ∈ rest, ∃ i ∈ holdL l place hour, d = .int (i : Int)) ⟨rfl, .inl rfl, fun d hd => mem_natD hd⟩ ?_ ?_
  · rintro d rest v _ ⟨rfl, _, hd⟩
    obtain ⟨i, hi, rfl⟩ := hd d List.mem_cons_self
    have hl := holdL_lt hi
    have U := S.sub (erase_sub l i)
    by_cases hc : i ∈ countL l place hour
    · simp (disch := first | assumption | omega | exact nr_int _ | exact nr_bl _ | exact nr_non | exact nr_str _ | exact nr_tup _ | exact nr_lst _ | solve_by_elim (maxDepth := 4)) [-getElem?_pos, -getElem?_neg, List.getElem?_cons_zero, List.getElem?_cons_succ, ↓ws_cons, ↓ws_frz, ↓ws_nil, KS_next, KS_ret, KS_exc, ↓ws_ite, wI_true, wI_false, wI_exc, ↓ws_loop, wL_ok, ↓ws_tr, KT_next, KT_ret, KT_exc, KF_next, KF_ret, KF_exc, KP_ret, KP_exc, ws_for_cons, ws_for_nil, wO_some, ws_some, wp_some, ↓ws_set, ↓ws_own, ↓ws_cell, ↓ws_unp, ↓ws_par, ↓ws_aug, ↓ws_app, ↓ws_ext, ↓ws_put, ↓ws_expr, ↓ws_retE, ↓ws_retN, ↓ws_pass, ↓ws_raise, szle, szlt, dle_t, dle_f, dlt_t, dlt_f, ibeq_t, ibeq_f, okR_of, isInt_yes, isInt_lo, isInt_hi, isInt_bl, isInt_non, isInt_str, isInt_tup, isInt_lst, nr_int, nr_bl, nr_str, nr_non, nr_tup, nr_lst, ↓compD_F, stepD, ↓compF_map, ↓compF_rng, compF_ret, compF_nil, compF_cons, ite_ok, ite_val, ite_bl, ite_int, fm_ite, fm_dec, rngD_len, st0, st1, see_st, see_sg, sg0, sg1, sg2, sg3, sg4, sg5, sg6, sg7, at_tup, at_lst, cut_tup, cut_lst, at0, at1, at2, at3, at4, at5, at6, at7, eq_non_non, eq_non_bl, eq_non_int, eq_non_str, eq_non_tup, eq_non_lst, eq_bl_non, eq_bl_bl, eq_bl_int, eq_bl_str, eq_bl_tup, eq_bl_lst, eq_int_non, eq_int_bl, eq_int_int, eq_int_str, eq_int_tup, eq_int_lst, eq_str_non, eq_str_bl, eq_str_int, eq_str_str, eq_str_tup, eq_str_lst, eq_tup_non, eq_tup_bl, eq_tup_int, eq_tup_str, eq_tup_tup, eq_tup_lst, eq_lst_non, eq_lst_bl, eq_lst_int, eq_lst_str, eq_lst_tup, eq_lst_lst, dep_non, dep_bl, dep_int, dep_str, dep_tup, dep_lst, deps_nil, deps_cons, it_lst, it_tup, natL_dep, see_natL, natL_items, sg_set, set_name, set_tup, see_noRef, patch_nil, patch_cons, ev, evs, evo, evc, evi, mSet, mRet, mDo, mUnp, mPar, mAug, mApp, mExt, mPut, mOwn, mCell, mFreeze, findH, bs, endOf, mArgs, mAnds, mOrs, mTAnds, mTOrs, mAnd, mOr, mNot, mTAnd, mTOr, mTNot, mTru, mIsB, mIf, mChain, mUn, mBin, mVar, mC, mCons, mNil, mTup, mLst, mCallB, mCall, mCut, mPart, mNoPart, mIter, mRng1_s, mRng2_s, mEnum, mZip, mComp, mYes, bx, notOwn, wipeO, startE, RV.sv, bd, ret, lift, RV.see, see_int, see_bl, see_str, see_non, see_tup, see_lst, see_ref, D.isi, BOp.g, COp.g, Bi.g, D.cmpI, D.add, D.sub, D.mul, D.fdiv, D.mod, D.neg, D.bLen, D.bAbs, D.bTuple, D.bList, D.bInt, allVal, setAll, D.truth, D.isNo, D.notNo, D.nonB, D.toInt, D.eqO, D.neO, D.inO, D.ninO, sz1, sz2, sz3, sz4, sz5, sz6, sz7, sz8, sz9, sz10, sz11, sz12, b__law_holds_L1, deps_nat, any_natD, hc]
      exact KP_of rfl ⟨rfl, .inr ⟨_, rfl⟩, fun d h => hd d (List.mem_cons_of_mem _ h)⟩
    · have e := (cnt_erase S hc).symm
      have c1 := cut_hi (l.map Sg.d) i
      have c2 := cut_lo1 (l.map Sg.d) i
      have t1 : (l.take i).length ≤ l.length := by simp; omega
      have t2 : (l.drop (i + 1)).length ≤ l.length := by simp
      simp (disch := first | assumption | omega | exact nr_int _ | exact nr_bl _ | exact nr_non | exact nr_str _ | exact nr_tup _ | exact nr_lst _ | solve_by_elim (maxDepth := 4)) [-getElem?_pos, -getElem?_neg, List.getElem?_cons_zero, List.getElem?_cons_succ, ↓ws_cons, ↓ws_frz, ↓ws_nil, KS_next, KS_ret, KS_exc, ↓ws_ite, wI_true, wI_false, wI_exc, ↓ws_loop, wL_ok, ↓ws_tr, KT_next, KT_ret, KT_exc, KF_next, KF_ret, KF_exc, KP_ret, KP_exc, ws_for_cons, ws_for_nil, wO_some, ws_some, wp_some, ↓ws_set, ↓ws_own, ↓ws_cell, ↓ws_unp, ↓ws_par, ↓ws_aug, ↓ws_app, ↓ws_ext, ↓ws_put, ↓ws_expr, ↓ws_retE, ↓ws_retN, ↓ws_pass, ↓ws_raise, szle, szlt, dle_t, dle_f, dlt_t, dlt_f, ibeq_t, ibeq_f, okR_of, isInt_yes, isInt_lo, isInt_hi, isInt_bl, isInt_non, isInt_str, isInt_tup, isInt_lst, nr_int, nr_bl, nr_str, nr_non, nr_tup, nr_lst, ↓compD_F, stepD, ↓compF_map, ↓compF_rng, compF_ret, compF_nil, compF_cons, ite_ok, ite_val, ite_bl, ite_int, fm_ite, fm_dec, rngD_len, st0, st1, see_st, see_sg, sg0, sg1, sg2, sg3, sg4, sg5, sg6, sg7, at_tup, at_lst, cut_tup, cut_lst, at0, at1, at2, at3, at4, at5, at6, at7, eq_non_non, eq_non_bl, eq_non_int, eq_non_str, eq_non_tup, eq_non_lst, eq_bl_non, eq_bl_bl, eq_bl_int, eq_bl_str, eq_bl_tup, eq_bl_lst, eq_int_non, eq_int_bl, eq_int_int, eq_int_str, eq_int_tup, eq_int_lst, eq_str_non, eq_str_bl, eq_str_int, eq_str_str, eq_str_tup, eq_str_lst, eq_tup_non, eq_tup_bl, eq_tup_int, eq_tup_str, eq_tup_tup, eq_tup_lst, eq_lst_non, eq_lst_bl, eq_lst_int, eq_lst_str, eq_lst_tup, eq_lst_lst, dep_non, dep_bl, dep_int, dep_str, dep_tup, dep_lst, deps_nil, deps_cons, it_lst, it_tup, natL_dep, see_natL, natL_items, sg_set, set_name, set_tup, see_noRef, patch_nil, patch_cons, ev, evs, evo, evc, evi, mSet, mRet, mDo, mUnp, mPar, mAug, mApp, mExt, mPut, mOwn, mCell, mFreeze, findH, bs, endOf, mArgs, mAnds, mOrs, mTAnds, mTOrs, mAnd, mOr, mNot, mTAnd, mTOr, mTNot, mTru, mIsB, mIf, mChain, mUn, mBin, mVar, mC, mCons, mNil, mTup, mLst, mCallB, mCall, mCut, mPart, mNoPart, mIter, mRng1_s, mRng2_s, mEnum, mZip, mComp, mYes, bx, notOwn, wipeO, startE, RV.sv, bd, ret, lift, RV.see, see_int, see_bl, see_str, see_non, see_tup, see_lst, see_ref, D.isi, BOp.g, COp.g, Bi.g, D.cmpI, D.add, D.sub, D.mul, D.fdiv, D.mod, D.neg, D.bLen, D.bAbs, D.bTuple, D.bList, D.bInt, allVal, setAll, D.truth, D.isNo, D.notNo, D.nonB, D.toInt, D.eqO, D.neO, D.inO, D.ninO, sz1, sz2, sz3, sz4, sz5, sz6, sz7, sz8, sz9, sz10, sz11, sz12, b__law_holds_L1, deps_nat, any_natD, hc, c1, c2, st_erase, h2]
      exact KP_of rfl ⟨rfl, .inr ⟨_, rfl⟩, fun d h => hd d (List.mem_cons_of_mem _ h)⟩
  · rintro v _ ⟨rfl, h6, _⟩
    rcases h6 with h6 | ⟨d, h6⟩
    all_goals
      simp (disch := first | assumption | omega | exact nr_int _ | exact nr_bl _ | exact nr_non | exact nr_str _ | exact nr_tup _ | exact nr_lst _ | solve_by_elim (maxDepth := 4)) [-getElem?_pos, -getElem?_neg, List.getElem?_cons_zero, List.getElem?_cons_succ, ↓ws_cons, ↓ws_frz, ↓ws_nil, KS_next, KS_ret, KS_exc, ↓ws_ite, wI_true, wI_false, wI_exc, ↓ws_loop, wL_ok, ↓ws_tr, KT_next, KT_ret, KT_exc, KF_next, KF_ret, KF_exc, KP_ret, KP_exc, ws_for_cons, ws_for_nil, wO_some, ws_some, wp_some, ↓ws_set, ↓ws_own, ↓ws_cell, ↓ws_unp, ↓ws_par, ↓ws_aug, ↓ws_app, ↓ws_ext, ↓ws_put, ↓ws_expr, ↓ws_retE, ↓ws_retN, ↓ws_pass, ↓ws_raise, szle, szlt, dle_t, dle_f, dlt_t, dlt_f, ibeq_t, ibeq_f, okR_of, isInt_yes, isInt_lo, isInt_hi, isInt_bl, isInt_non, isInt_str, isInt_tup, isInt_lst, nr_int, nr_bl, nr_str, nr_non, nr_tup, nr_lst, ↓compD_F, stepD, ↓compF_map, ↓compF_rng, compF_ret, compF_nil, compF_cons, ite_ok, ite_val, ite_bl, ite_int, fm_ite, fm_dec, rngD_len, st0, st1, see_st, see_sg, sg0, sg1, sg2, sg3, sg4, sg5, sg6, sg7, at_tup, at_lst, cut_tup, cut_lst, at0, at1, at2, at3, at4, at5, at6, at7, eq_non_non, eq_non_bl, eq_non_int, eq_non_str, eq_non_tup, eq_non_lst, eq_bl_non, eq_bl_bl, eq_bl_int, eq_bl_str, eq_bl_tup, eq_bl_lst, eq_int_non, eq_int_bl, eq_int_int, eq_int_str, eq_int_tup, eq_int_lst, eq_str_non, eq_str_bl, eq_str_int, eq_str_str, eq_str_tup, eq_str_lst, eq_tup_non, eq_tup_bl, eq_tup_int, eq_tup_str, eq_tup_tup, eq_tup_lst, eq_lst_non, eq_lst_bl, eq_lst_int, eq_lst_str, eq_lst_tup, eq_lst_lst, dep_non, dep_bl, dep_int, dep_str, dep_tup, dep_lst, deps_nil, deps_cons, it_lst, it_tup, natL_dep, see_natL, natL_items, sg_set, set_name, set_tup, see_noRef, patch_nil, patch_cons, ev, evs, evo, evc, evi, mSet, mRet, mDo, mUnp, mPar, mAug, mApp, mExt, mPut, mOwn, mCell, mFreeze, findH, bs, endOf, mArgs, mAnds, mOrs, mTAnds, mTOrs, mAnd, mOr, mNot, mTAnd, mTOr, mTNot, mTru, mIsB, mIf, mChain, mUn, mBin, mVar, mC, mCons, mNil, mTup, mLst, mCallB, mCall, mCut, mPart, mNoPart, mIter, mRng1_s, mRng2_s, mEnum, mZip, mComp, mYes, bx, notOwn, wipeO, startE, RV.sv, bd, ret, lift, RV.see, see_int, see_bl, see_str, see_non, see_tup, see_lst, see_ref, D.isi, BOp.g, COp.g, Bi.g, D.cmpI, D.add, D.sub, D.mul, D.fdiv, D.mod, D.neg, D.bLen, D.bAbs, D.bTuple, D.bList, D.bInt, allVal, setAll, D.truth, D.isNo, D.notNo, D.nonB, D.toInt, D.eqO, D.neO, D.inO, D.ninO, sz1, sz2, sz3, sz4, sz5, sz6, sz7, sz8, sz9, sz10, sz11, sz12, h6]
      rw [compF_ok fun i => some ((l[i]?.getD ⟨0, 0, 0, [], 0, 0, "", 0⟩).d)]
      rotate_left
      · intro i hi h
        simp (disch := first | assumption | omega | exact nr_int _ | exact nr_bl _ | exact nr_non | exact nr_str _ | exact nr_tup _ | exact nr_lst _ | solve_by_elim (maxDepth := 4)) [-getElem?_pos, -getElem?_neg, List.getElem?_cons_zero, List.getElem?_cons_succ, ↓ws_cons, ↓ws_frz, ↓ws_nil, KS_next, KS_ret, KS_exc, ↓ws_ite, wI_true, wI_false, wI_exc, ↓ws_loop, wL_ok, ↓ws_tr, KT_next, KT_ret, KT_exc, KF_next, KF_ret, KF_exc, KP_ret, KP_exc, ws_for_cons, ws_for_nil, wO_some, ws_some, wp_some, ↓ws_set, ↓ws_own, ↓ws_cell, ↓ws_unp, ↓ws_par, ↓ws_aug, ↓ws_app, ↓ws_ext, ↓ws_put, ↓ws_expr, ↓ws_retE, ↓ws_retN, ↓ws_pass, ↓ws_raise, szle, szlt, dle_t, dle_f, dlt_t, dlt_f, ibeq_t, ibeq_f, okR_of, isInt_yes, isInt_lo, isInt_hi, isInt_bl, isInt_non, isInt_str, isInt_tup, isInt_lst, nr_int, nr_bl, nr_str, nr_non, nr_tup, nr_lst, ↓compD_F, stepD, ↓compF_map, ↓compF_rng, compF_ret, compF_nil, compF_cons, ite_ok, ite_val, ite_bl, ite_int, fm_ite, fm_dec, rngD_len, st0, st1, see_st, see_sg, sg0, sg1, sg2, sg3, sg4, sg5, sg6, sg7, at_tup, at_lst, cut_tup, cut_lst, at0, at1, at2, at3, at4, at5, at6, at7, eq_non_non, eq_non_bl, eq_non_int, eq_non_str, eq_non_tup, eq_non_lst, eq_bl_non, eq_bl_bl, eq_bl_int, eq_bl_str, eq_bl_tup, eq_bl_lst, eq_int_non, eq_int_bl, eq_int_int, eq_int_str, eq_int_tup, eq_int_lst, eq_str_non, eq_str_bl, eq_str_int, eq_str_str, eq_str_tup, eq_str_lst, eq_tup_non, eq_tup_bl, eq_tup_int, eq_tup_str, eq_tup_tup, eq_tup_lst, eq_lst_non, eq_lst_bl, eq_lst_int, eq_lst_str, eq_lst_tup, eq_lst_lst, dep_non, dep_bl, dep_int, dep_str, dep_tup, dep_lst, deps_nil, deps_cons, it_lst, it_tup, natL_dep, see_natL, natL_items, sg_set, set_name, set_tup, see_noRef, patch_nil, patch_cons, ev, evs, evo, evc, evi, mSet, mRet, mDo, mUnp, mPar, mAug, mApp, mExt, mPut, mOwn, mCell, mFreeze, findH, bs, endOf, mArgs, mAnds, mOrs, mTAnds, mTOrs, mAnd, mOr, mNot, mTAnd, mTOr, mTNot, mTru, mIsB, mIf, mChain, mUn, mBin, mVar, mC, mCons, mNil, mTup, mLst, mCallB, mCall, mCut, mPart, mNoPart, mIter, mRng1_s, mRng2_s, mEnum, mZip, mComp, mYes, bx, notOwn, wipeO, startE, RV.sv, bd, ret, lift, RV.see, see_int, see_bl, see_str, see_non, see_tup, see_lst, see_ref, D.isi, BOp.g, COp.g, Bi.g, D.cmpI, D.add, D.sub, D.mul, D.fdiv, D.mod, D.neg, D.bLen, D.bAbs, D.bTuple, D.bList, D.bInt, allVal, setAll, D.truth, D.isNo, D.notNo, D.nonB, D.toInt, D.eqO, D.neO, D.inO, D.ninO, sz1, sz2, sz3, sz4, sz5, sz6, sz7, sz8, sz9, sz10, sz11, sz12, hc i hi]
      simp (disch := first | assumption | omega | exact nr_int _ | exact nr_bl _ | exact nr_non | exact nr_str _ | exact nr_tup _ | exact nr_lst _ | solve_by_elim (maxDepth := 4)) [-getElem?_pos, -getElem?_neg, List.getElem?_cons_zero, List.getElem?_cons_succ, ↓ws_cons, ↓ws_frz, ↓ws_nil, KS_next, KS_ret, KS_exc, ↓ws_ite, wI_true, wI_false, wI_exc, ↓ws_loop, wL_ok, ↓ws_tr, KT_next, KT_ret, KT_exc, KF_next, KF_ret, KF_exc, KP_ret, KP_exc, ws_for_cons, ws_for_nil, wO_some, ws_some, wp_some, ↓ws_set, ↓ws_own, ↓ws_cell, ↓ws_unp, ↓ws_par, ↓ws_aug, ↓ws_app, ↓ws_ext, ↓ws_put, ↓ws_expr, ↓ws_retE, ↓ws_retN, ↓ws_pass, ↓ws_raise, szle, szlt, dle_t, dle_f, dlt_t, dlt_f, ibeq_t, ibeq_f, okR_of, isInt_yes, isInt_lo, isInt_hi, isInt_bl, isInt_non, isInt_str, isInt_tup, isInt_lst, nr_int, nr_bl, nr_str, nr_non, nr_tup, nr_lst, ↓compD_F, stepD, ↓compF_map, ↓compF_rng, compF_ret, compF_nil, compF_cons, ite_ok, ite_val, ite_bl, ite_int, fm_ite, fm_dec, rngD_len, st0, st1, see_st, see_sg, sg0, sg1, sg2, sg3, sg4, sg5, sg6, sg7, at_tup, at_lst, cut_tup, cut_lst, at0, at1, at2, at3, at4, at5, at6, at7, eq_non_non, eq_non_bl, eq_non_int, eq_non_str, eq_non_tup, eq_non_lst, eq_bl_non, eq_bl_bl, eq_bl_int, eq_bl_str, eq_bl_tup, eq_bl_lst, eq_int_non, eq_int_bl, eq_int_int, eq_int_str, eq_int_tup, eq_int_lst, eq_str_non, eq_str_bl, eq_str_int, eq_str_str, eq_str_tup, eq_str_lst, eq_tup_non, eq_tup_bl, eq_tup_int, eq_tup_str, eq_tup_tup, eq_tup_lst, eq_lst_non, eq_lst_bl, eq_lst_int, eq_lst_str, eq_lst_tup, eq_lst_lst, dep_non, dep_bl, dep_int, dep_str, dep_tup, dep_lst, deps_nil, deps_cons, it_lst, it_tup, natL_dep, see_natL, natL_items, sg_set, set_name, set_tup, see_noRef, patch_nil, patch_cons, ev, evs, evo, evc, evi, mSet, mRet, mDo, mUnp, mPar, mAug, mApp, mExt, mPut, mOwn, mCell, mFreeze, findH, bs, endOf, mArgs, mAnds, mOrs, mTAnds, mTOrs, mAnd, mOr, mNot, mTAnd, mTOr, mTNot, mTru, mIsB, mIf, mChain, mUn, mBin, mVar, mC, mCons, mNil, mTup, mLst, mCallB, mCall, mCut, mPart, mNoPart, mIter, mRng1_s, mRng2_s, mEnum, mZip, mComp, mYes, bx, notOwn, wipeO, startE, RV.sv, bd, ret, lift, RV.see, see_int, see_bl, see_str, see_non, see_tup, see_lst, see_ref, D.isi, BOp.g, COp.g, Bi.g, D.cmpI, D.add, D.sub, D.mul, D.fdiv, D.mod, D.neg, D.bLen, D.bAbs, D.bTuple, D.bList, D.bInt, allVal, setAll, D.truth, D.isNo, D.notNo, D.nonB, D.toInt, D.eqO, D.neO, D.inO, D.ninO, sz1, sz2, sz3, sz4, sz5, sz6, sz7, sz8, sz9, sz10, sz11, sz12, hc2, st_map, h3, k2, h2, h1.1, iv, kindsR, natL]
      rw [compF_ok fun k => if k ∈ kindsS (cntS l place hour) then some (.int (k : Int)) else none]
      rotate_left
      · intro k hk h
        simp (disch := first | assumption | omega | exact nr_int _ | exact nr_bl _ | exact nr_non | exact nr_str _ | exact nr_tup _ | exact nr_lst _ | solve_by_elim (maxDepth := 4)) [-getElem?_pos, -getElem?_neg, List.getElem?_cons_zero, List.getElem?_cons_succ, ↓ws_cons, ↓ws_frz, ↓ws_nil, KS_next, KS_ret, KS_exc, ↓ws_ite, wI_true, wI_false, wI_exc, ↓ws_loop, wL_ok, ↓ws_tr, KT_next, KT_ret, KT_exc, KF_next, KF_ret, KF_exc, KP_ret, KP_exc, ws_for_cons, ws_for_nil, wO_some, ws_some, wp_some, ↓ws_set, ↓ws_own, ↓ws_cell, ↓ws_unp, ↓ws_par, ↓ws_aug, ↓ws_app, ↓ws_ext, ↓ws_put, ↓ws_expr, ↓ws_retE, ↓ws_retN, ↓ws_pass, ↓ws_raise, szle, szlt, dle_t, dle_f, dlt_t, dlt_f, ibeq_t, ibeq_f, okR_of, isInt_yes, isInt_lo, isInt_hi, isInt_bl, isInt_non, isInt_str, isInt_tup, isInt_lst, nr_int, nr_bl, nr_str, nr_non, nr_tup, nr_lst, ↓compD_F, stepD, ↓compF_map, ↓compF_rng, compF_ret, compF_nil, compF_cons, ite_ok, ite_val, ite_bl, ite_int, fm_ite, fm_dec, rngD_len, st0, st1, see_st, see_sg, sg0, sg1, sg2, sg3, sg4, sg5, sg6, sg7, at_tup, at_lst, cut_tup, cut_lst, at0, at1, at2, at3, at4, at5, at6, at7, eq_non_non, eq_non_bl, eq_non_int, eq_non_str, eq_non_tup, eq_non_lst, eq_bl_non, eq_bl_bl, eq_bl_int, eq_bl_str, eq_bl_tup, eq_bl_lst, eq_int_non, eq_int_bl, eq_int_int, eq_int_str, eq_int_tup, eq_int_lst, eq_str_non, eq_str_bl, eq_str_int, eq_str_str, eq_str_tup, eq_str_lst, eq_tup_non, eq_tup_bl, eq_tup_int, eq_tup_str, eq_tup_tup, eq_tup_lst, eq_lst_non, eq_lst_bl, eq_lst_int, eq_lst_str, eq_lst_tup, eq_lst_lst, dep_non, dep_bl, dep_int, dep_str, dep_tup, dep_lst, deps_nil, deps_cons, it_lst, it_tup, natL_dep, see_natL, natL_items, sg_set, set_name, set_tup, see_noRef, patch_nil, patch_cons, ev, evs, evo, evc, evi, mSet, mRet, mDo, mUnp, mPar, mAug, mApp, mExt, mPut, mOwn, mCell, mFreeze, findH, bs, endOf, mArgs, mAnds, mOrs, mTAnds, mTOrs, mAnd, mOr, mNot, mTAnd, mTOr, mTNot, mTru, mIsB, mIf, mChain, mUn, mBin, mVar, mC, mCons, mNil, mTup, mLst, mCallB, mCall, mCut, mPart, mNoPart, mIter, mRng1_s, mRng2_s, mEnum, mZip, mComp, mYes, bx, notOwn, wipeO, startE, RV.sv, bd, ret, lift, RV.see, see_int, see_bl, see_str, see_non, see_tup, see_lst, see_ref, D.isi, BOp.g, COp.g, Bi.g, D.cmpI, D.add, D.sub, D.mul, D.fdiv, D.mod, D.neg, D.bLen, D.bAbs, D.bTuple, D.bList, D.bInt, allVal, setAll, D.truth, D.isNo, D.notNo, D.nonB, D.toInt, D.eqO, D.neO, D.inO, D.ninO, sz1, sz2, sz3, sz4, sz5, sz6, sz7, sz8, sz9, sz10, sz11, sz12, h0.1, iv, rng3 k hk]
      simp (disch := first | assumption | omega | exact nr_int _ | exact nr_bl _ | exact nr_non | exact nr_str _ | exact nr_tup _ | exact nr_lst _ | solve_by_elim (maxDepth := 4)) [-getElem?_pos, -getElem?_neg, List.getElem?_cons_zero, List.getElem?_cons_succ, ↓ws_cons, ↓ws_frz, ↓ws_nil, KS_next, KS_ret, KS_exc, ↓ws_ite, wI_true, wI_false, wI_exc, ↓ws_loop, wL_ok, ↓ws_tr, KT_next, KT_ret, KT_exc, KF_next, KF_ret, KF_exc, KP_ret, KP_exc, ws_for_cons, ws_for_nil, wO_some, ws_some, wp_some, ↓ws_set, ↓ws_own, ↓ws_cell, ↓ws_unp, ↓ws_par, ↓ws_aug, ↓ws_app, ↓ws_ext, ↓ws_put, ↓ws_expr, ↓ws_retE, ↓ws_retN, ↓ws_pass, ↓ws_raise, szle, szlt, dle_t, dle_f, dlt_t, dlt_f, ibeq_t, ibeq_f, okR_of, isInt_yes, isInt_lo, isInt_hi, isInt_bl, isInt_non, isInt_str, isInt_tup, isInt_lst, nr_int, nr_bl, nr_str, nr_non, nr_tup, nr_lst, ↓compD_F, stepD, ↓compF_map, ↓compF_rng, compF_ret, compF_nil, compF_cons, ite_ok, ite_val, ite_bl, ite_int, fm_ite, fm_dec, rngD_len, st0, st1, see_st, see_sg, sg0, sg1, sg2, sg3, sg4, sg5, sg6, sg7, at_tup, at_lst, cut_tup, cut_lst, at0, at1, at2, at3, at4, at5, at6, at7, eq_non_non, eq_non_bl, eq_non_int, eq_non_str, eq_non_tup, eq_non_lst, eq_bl_non, eq_bl_bl, eq_bl_int, eq_bl_str, eq_bl_tup, eq_bl_lst, eq_int_non, eq_int_bl, eq_int_int, eq_int_str, eq_int_tup, eq_int_lst, eq_str_non, eq_str_bl, eq_str_int, eq_str_str, eq_str_tup, eq_str_lst, eq_tup_non, eq_tup_bl, eq_tup_int, eq_tup_str, eq_tup_tup, eq_tup_lst, eq_lst_non, eq_lst_bl, eq_lst_int, eq_lst_str, eq_lst_tup, eq_lst_lst, dep_non, dep_bl, dep_int, dep_str, dep_tup, dep_lst, deps_nil, deps_cons, it_lst, it_tup, natL_dep, see_natL, natL_items, sg_set, set_name, set_tup, see_noRef, patch_nil, patch_cons, ev, evs, evo, evc, evi, mSet, mRet, mDo, mUnp, mPar, mAug, mApp, mExt, mPut, mOwn, mCell, mFreeze, findH, bs, endOf, mArgs, mAnds, mOrs, mTAnds, mTOrs, mAnd, mOr, mNot, mTAnd, mTOr, mTNot, mTru, mIsB, mIf, mChain, mUn, mBin, mVar, mC, mCons, mNil, mTup, mLst, mCallB, mCall, mCut, mPart, mNoPart, mIter, mRng1_s, mRng2_s, mEnum, mZip, mComp, mYes, bx, notOwn, wipeO, startE, RV.sv, bd, ret, lift, RV.see, see_int, see_bl, see_str, see_non, see_tup, see_lst, see_ref, D.isi, BOp.g, COp.g, Bi.g, D.cmpI, D.add, D.sub, D.mul, D.fdiv, D.mod, D.neg, D.bLen, D.bAbs, D.bTuple, D.bList, D.bInt, allVal, setAll, D.truth, D.isNo, D.notNo, D.nonB, D.toInt, D.eqO, D.neO, D.inO, D.ninO, sz1, sz2, sz3, sz4, sz5, sz6, sz7, sz8, sz9, sz10, sz11, sz12, kk, eqs_nat, deps_nat]
def barS (place : Int) : Sg := ⟨3, place, place + 1, [0, 1, 2, 3, 4, 5, 6], 0, 24, "none", 0⟩
theorem bar_ok {p place : Int} (h0 : 0 ≤ place) (h1 : place < p) : sgOk p (barS place) = true := by
  have w : wordD (.str "none") (.int 0) = true := by simp [wordD, f1, f2, isInt]
  have d : daysOk [0, 1, 2, 3, 4, 5, 6] = true := by decide
  exact sg_mk (by simp [barS]) (by simp [barS]) h0 (by simp [barS]; omega) (by simp [barS]; omega) d (by simp [barS]) (by simp [barS]) (by simp [barS]) (by simp [barS]) w
theorem bar_holds (place hour : Int) (h0 : 0 ≤ hour) (h1 : hour < 168) : holdsB (barS place) place hour = true := by
  unfold holdsB barS Sg.len
  simp
  omega
theorem bar_st {p place : Int} {l : List Sg} (S : Str8 p l) (hl : l.length ≤ 5) (hr : ∀ s ∈ l, s.rank ≤ 2) (h0 : 0 ≤ place) (h1 : place < p) : Str8 p (l ++ [barS place]) := by
  refine ⟨S.p1, S.p4, by simp; omega, fun s hs => ?_, ?_⟩
  · rcases List.mem_append.mp hs with hs | hs
    · exact S.ok s hs
    · simp at hs; subst hs; exact bar_ok h0 h1
  · rw [List.nodup_append]
    refine ⟨S.nd, by simp, fun a ha b hb e => ?_⟩
    simp at hb
    subst hb
    subst e
    have := hr _ ha
    simp [barS] at this
theorem bar_cnt {p place hour : Int} {l : List Sg} (S : Str8 p l) (hl : l.length ≤ 5) (hr : ∀ s ∈ l, s.rank ≤ 2) (h0 : 0 ≤ place) (h1 : place < p) (k0 : 0 ≤ hour) (k1 : hour < 168) : cntS (l ++ [barS place]) place hour = [barS place] := by
  have T := bar_st S hl hr h0 h1
  have hb := bar_holds place hour k0 k1
  unfold cntS
  rw [List.filter_append]
  have e1 : l.filter (cntB (l ++ [barS place]) place hour) = [] := by
    rw [List.filter_eq_nil_iff]
    intro s hs hc
    have := (cntB_iff (List.mem_append_left _ hs) (S.rank hs).1).mp hc
    have := this.2 (barS place) (by simp) hb
    have := hr s hs
    simp [barS] at *
    omega
  have e2 : [barS place].filter (cntB (l ++ [barS place]) place hour) = [barS place] := by
    rw [List.filter_cons_of_pos, List.filter_nil]
    rw [cntB_iff (by simp) (by simp [barS])]
    refine ⟨hb, fun t ht _ => ?_⟩
    rcases List.mem_append.mp ht with ht | ht
    · have := hr t ht
      simp [barS]
      omega
    · simp at ht; subst ht; omega
  rw [e1, e2]
  rfl
theorem law04_ok {cl : Nat → FM} {nL nK nH nD nS xs xp xh : Nat} (h2 : SAtD xs xp xh limR (cl nL)) (h3 : SAtD xs xp xh kindsR (cl nK)) (h4 : SHolds04 (cl nH)) (h5 : SDraw (cl nD)) (h7 : SStreet (cl nS))
    (ns : List Int) (hn : ns.length ≤ 63) : ∃ h, runF cl 10 (b_law_04 nL nK nH nD nS) [.bor (ns.map D.int)] [] = some (.ok (.bl true) h) := by
  have : ∃ r, runF cl 10 (b_law_04 nL nK nH nD nS) [.bor (ns.map D.int)] [] = some r ∧ ∃ h, r = .ok (.bl true) h := by
    apply run_wp
    simp (disch := first | assumption | omega | exact nr_int _ | exact nr_bl _ | exact nr_non | exact nr_str _ | exact nr_tup _ | exact nr_lst _ | solve_by_elim (maxDepth := 4)) [-getElem?_pos, -getElem?_neg, List.getElem?_cons_zero, List.getElem?_cons_succ, ↓ws_cons, ↓ws_frz, ↓ws_nil, KS_next, KS_ret, KS_exc, ↓ws_ite, wI_true, wI_false, wI_exc, ↓ws_loop, wL_ok, ↓ws_tr, KT_next, KT_ret, KT_exc, KF_next, KF_ret, KF_exc, KP_ret, KP_exc, ws_for_cons, ws_for_nil, wO_some, ws_some, wp_some, ↓ws_set, ↓ws_own, ↓ws_cell, ↓ws_unp, ↓ws_par, ↓ws_aug, ↓ws_app, ↓ws_ext, ↓ws_put, ↓ws_expr, ↓ws_retE, ↓ws_retN, ↓ws_pass, ↓ws_raise, szle, szlt, dle_t, dle_f, dlt_t, dlt_f, ibeq_t, ibeq_f, okR_of, isInt_yes, isInt_lo, isInt_hi, isInt_bl, isInt_non, isInt_str, isInt_tup, isInt_lst, nr_int, nr_bl, nr_str, nr_non, nr_tup, nr_lst, ↓compD_F, stepD, ↓compF_map, ↓compF_rng, compF_ret, compF_nil, compF_cons, ite_ok, ite_val, ite_bl, ite_int, fm_ite, fm_dec, rngD_len, st0, st1, see_st, see_sg, sg0, sg1, sg2, sg3, sg4, sg5, sg6, sg7, at_tup, at_lst, cut_tup, cut_lst, at0, at1, at2, at3, at4, at5, at6, at7, eq_non_non, eq_non_bl, eq_non_int, eq_non_str, eq_non_tup, eq_non_lst, eq_bl_non, eq_bl_bl, eq_bl_int, eq_bl_str, eq_bl_tup, eq_bl_lst, eq_int_non, eq_int_bl, eq_int_int, eq_int_str, eq_int_tup, eq_int_lst, eq_str_non, eq_str_bl, eq_str_int, eq_str_str, eq_str_tup, eq_str_lst, eq_tup_non, eq_tup_bl, eq_tup_int, eq_tup_str, eq_tup_tup, eq_tup_lst, eq_lst_non, eq_lst_bl, eq_lst_int, eq_lst_str, eq_lst_tup, eq_lst_lst, dep_non, dep_bl, dep_int, dep_str, dep_tup, dep_lst, deps_nil, deps_cons, it_lst, it_tup, natL_dep, see_natL, natL_items, sg_set, set_name, set_tup, see_noRef, patch_nil, patch_cons, ev, evs, evo, evc, evi, mSet, mRet, mDo, mUnp, mPar, mAug, mApp, mExt, mPut, mOwn, mCell, mFreeze, findH, bs, endOf, mArgs, mAnds, mOrs, mTAnds, mTOrs, mAnd, mOr, mNot, mTAnd, mTOr, mTNot, mTru, mIsB, mIf, mChain, mUn, mBin, mVar, mC, mCons, mNil, mTup, mLst, mCallB, mCall, mCut, mPart, mNoPart, mIter, mRng1_s, mRng2_s, mEnum, mZip, mComp, mYes, bx, notOwn, wipeO, startE, RV.sv, bd, ret, lift, RV.see, see_int, see_bl, see_str, see_non, see_tup, see_lst, see_ref, D.isi, BOp.g, COp.g, Bi.g, D.cmpI, D.add, D.sub, D.mul, D.fdiv, D.mod, D.neg, D.bLen, D.bAbs, D.bTuple, D.bList, D.bInt, allVal, setAll, D.truth, D.isNo, D.notNo, D.nonB, D.toInt, D.eqO, D.neO, D.inO, D.ninO, sz1, sz2, sz3, sz4, sz5, sz6, sz7, sz8, sz9, sz10, sz11, sz12, b_law_04]
    refine ws_forS [2, 3, 4, 5, 6, 7, 8, 9] 0 600 St.new (by simp [rngD_len]) ?_ ?_
    · intro d hd v h n s hl
      obtain ⟨r, h1', e1, r1, r2, t1⟩ := dr h5 3 hn (by omega) s (by omega)
      obtain ⟨l, h2', e2, S, ll, lr, t2⟩ := strt h7 (1 + r) 5 hn (by omega) (by omega) (by omega) t1 (by omega)
      simp at e2
      simp (disch := first | assumption | omega | exact nr_int _ | exact nr_bl _ | exact nr_non | exact nr_str _ | exact nr_tup _ | exact nr_lst _ | solve_by_elim (maxDepth := 4)) [-getElem?_pos, -getElem?_neg, List.getElem?_cons_zero, List.getElem?_cons_succ, ↓ws_cons, ↓ws_frz, ↓ws_nil, KS_next, KS_ret, KS_exc, ↓ws_ite, wI_true, wI_false, wI_exc, ↓ws_loop, wL_ok, ↓ws_tr, KT_next, KT_ret, KT_exc, KF_next, KF_ret, KF_exc, KP_ret, KP_exc, ws_for_cons, ws_for_nil, wO_some, ws_some, wp_some, ↓ws_set, ↓ws_own, ↓ws_cell, ↓ws_unp, ↓ws_par, ↓ws_aug, ↓ws_app, ↓ws_ext, ↓ws_put, ↓ws_expr, ↓ws_retE, ↓ws_retN, ↓ws_pass, ↓ws_raise, szle, szlt, dle_t, dle_f, dlt_t, dlt_f, ibeq_t, ibeq_f, okR_of, isInt_yes, isInt_lo, isInt_hi, isInt_bl, isInt_non, isInt_str, isInt_tup, isInt_lst, nr_int, nr_bl, nr_str, nr_non, nr_tup, nr_lst, ↓compD_F, stepD, ↓compF_map, ↓compF_rng, compF_ret, compF_nil, compF_cons, ite_ok, ite_val, ite_bl, ite_int, fm_ite, fm_dec, rngD_len, st0, st1, see_st, see_sg, sg0, sg1, sg2, sg3, sg4, sg5, sg6, sg7, at_tup, at_lst, cut_tup, cut_lst, at0, at1, at2, at3, at4, at5, at6, at7, eq_non_non, eq_non_bl, eq_non_int, eq_non_str, eq_non_tup, eq_non_lst, eq_bl_non, eq_bl_bl, eq_bl_int, eq_bl_str, eq_bl_tup, eq_bl_lst, eq_int_non, eq_int_bl, eq_int_int, eq_int_str, eq_int_tup, eq_int_lst, eq_str_non, eq_str_bl, eq_str_int, eq_str_str, eq_str_tup, eq_str_lst, eq_tup_non, eq_tup_bl, eq_tup_int, eq_tup_str, eq_tup_tup, eq_tup_lst, eq_lst_non, eq_lst_bl, eq_lst_int, eq_lst_str, eq_lst_tup, eq_lst_lst, dep_non, dep_bl, dep_int, dep_str, dep_tup, dep_lst, deps_nil, deps_cons, it_lst, it_tup, natL_dep, see_natL, natL_items, sg_set, set_name, set_tup, see_noRef, patch_nil, patch_cons, ev, evs, evo, evc, evi, mSet, mRet, mDo, mUnp, mPar, mAug, mApp, mExt, mPut, mOwn, mCell, mFreeze, findH, bs, endOf, mArgs, mAnds, mOrs, mTAnds, mTOrs, mAnd, mOr, mNot, mTAnd, mTOr, mTNot, mTru, mIsB, mIf, mChain, mUn, mBin, mVar, mC, mCons, mNil, mTup, mLst, mCallB, mCall, mCut, mPart, mNoPart, mIter, mRng1_s, mRng2_s, mEnum, mZip, mComp, mYes, bx, notOwn, wipeO, startE, RV.sv, bd, ret, lift, RV.see, see_int, see_bl, see_str, see_non, see_tup, see_lst, see_ref, D.isi, BOp.g, COp.g, Bi.g, D.cmpI, D.add, D.sub, D.mul, D.fdiv, D.mod, D.neg, D.bLen, D.bAbs, D.bTuple, D.bList, D.bInt, allVal, setAll, D.truth, D.isNo, D.notNo, D.nonB, D.toInt, D.eqO, D.neO, D.inO, D.ninO, sz1, sz2, sz3, sz4, sz5, sz6, sz7, sz8, sz9, sz10, sz11, sz12, b_law_04_L1, e1, e2]
      refine ws_forS [5, 6, 7, 8, 9] (n + 2 + 400) 4 t2 (by simp [rngD_len]; omega) ?_ ?_
      · intro d hd v2 h n' s hl
        obtain ⟨place, h1', e1, r1, r2, t1⟩ := dr h5 (1 + r) hn (by omega) s (by omega)
        obtain ⟨hour, h2', e2, r3, r4, t2⟩ := dr h5 168 hn (by omega) t1 (by omega)
        have T := bar_st S ll lr r1 r2
        have e3 := bar_cnt S ll lr r1 r2 r3 r4
        have e4 : D.tup [.int 3, .int place, .int (place + 1), .tup [.int 0, .int 1, .int 2, .int 3, .int 4, .int 5, .int 6], .int 0, .int 24, .str (Str.ofString "none"), .int 0] = (barS place).d := rfl
        have e5 : D.tup [D.int (1 + r), D.tup (l.map Sg.d ++ [(barS place).d])] = stD (1 + r) (l ++ [barS place]) := st_app (1 + r) l [barS place]
        have e6 : kindsS [barS place] = [] := rfl
        have e7 : limS [barS place] = none := by simp [limS, barS]; exact Ne.symm w_ln
        simp (disch := first | assumption | omega | exact nr_int _ | exact nr_bl _ | exact nr_non | exact nr_str _ | exact nr_tup _ | exact nr_lst _ | solve_by_elim (maxDepth := 4)) [-getElem?_pos, -getElem?_neg, List.getElem?_cons_zero, List.getElem?_cons_succ, ↓ws_cons, ↓ws_frz, ↓ws_nil, KS_next, KS_ret, KS_exc, ↓ws_ite, wI_true, wI_false, wI_exc, ↓ws_loop, wL_ok, ↓ws_tr, KT_next, KT_ret, KT_exc, KF_next, KF_ret, KF_exc, KP_ret, KP_exc, ws_for_cons, ws_for_nil, wO_some, ws_some, wp_some, ↓ws_set, ↓ws_own, ↓ws_cell, ↓ws_unp, ↓ws_par, ↓ws_aug, ↓ws_app, ↓ws_ext, ↓ws_put, ↓ws_expr, ↓ws_retE, ↓ws_retN, ↓ws_pass, ↓ws_raise, szle, szlt, dle_t, dle_f, dlt_t, dlt_f, ibeq_t, ibeq_f, okR_of, isInt_yes, isInt_lo, isInt_hi, isInt_bl, isInt_non, isInt_str, isInt_tup, isInt_lst, nr_int, nr_bl, nr_str, nr_non, nr_tup, nr_lst, ↓compD_F, stepD, ↓compF_map, ↓compF_rng, compF_ret, compF_nil, compF_cons, ite_ok, ite_val, ite_bl, ite_int, fm_ite, fm_dec, rngD_len, st0, st1, see_st, see_sg, sg0, sg1, sg2, sg3, sg4, sg5, sg6, sg7, at_tup, at_lst, cut_tup, cut_lst, at0, at1, at2, at3, at4, at5, at6, at7, eq_non_non, eq_non_bl, eq_non_int, eq_non_str, eq_non_tup, eq_non_lst, eq_bl_non, eq_bl_bl, eq_bl_int, eq_bl_str, eq_bl_tup, eq_bl_lst, eq_int_non, eq_int_bl, eq_int_int, eq_int_str, eq_int_tup, eq_int_lst, eq_str_non, eq_str_bl, eq_str_int, eq_str_str, eq_str_tup, eq_str_lst, eq_tup_non, eq_tup_bl, eq_tup_int, eq_tup_str, eq_tup_tup, eq_tup_lst, eq_lst_non, eq_lst_bl, eq_lst_int, eq_lst_str, eq_lst_tup, eq_lst_lst, dep_non, dep_bl, dep_int, dep_str, dep_tup, dep_lst, deps_nil, deps_cons, it_lst, it_tup, natL_dep, see_natL, natL_items, sg_set, set_name, set_tup, see_noRef, patch_nil, patch_cons, ev, evs, evo, evc, evi, mSet, mRet, mDo, mUnp, mPar, mAug, mApp, mExt, mPut, mOwn, mCell, mFreeze, findH, bs, endOf, mArgs, mAnds, mOrs, mTAnds, mTOrs, mAnd, mOr, mNot, mTAnd, mTOr, mTNot, mTru, mIsB, mIf, mChain, mUn, mBin, mVar, mC, mCons, mNil, mTup, mLst, mCallB, mCall, mCut, mPart, mNoPart, mIter, mRng1_s, mRng2_s, mEnum, mZip, mComp, mYes, bx, notOwn, wipeO, startE, RV.sv, bd, ret, lift, RV.see, see_int, see_bl, see_str, see_non, see_tup, see_lst, see_ref, D.isi, BOp.g, COp.g, Bi.g, D.cmpI, D.add, D.sub, D.mul, D.fdiv, D.mod, D.neg, D.bLen, D.bAbs, D.bTuple, D.bList, D.bInt, allVal, setAll, D.truth, D.isNo, D.notNo, D.nonB, D.toInt, D.eqO, D.neO, D.inO, D.ninO, sz1, sz2, sz3, sz4, sz5, sz6, sz7, sz8, sz9, sz10, sz11, sz12, b_law_04_L2, e1, e2, h4, e4, e5, h2.1, h3.1, iv, kindsR, limR, e3, e6, e7, optD, natL, D.eqs]
        exact KP_of rfl t2
      · intro v2 h' t
        simp (disch := first | assumption | omega | exact nr_int _ | exact nr_bl _ | exact nr_non | exact nr_str _ | exact nr_tup _ | exact nr_lst _ | solve_by_elim (maxDepth := 4)) [-getElem?_pos, -getElem?_neg, List.getElem?_cons_zero, List.getElem?_cons_succ, ↓ws_cons, ↓ws_frz, ↓ws_nil, KS_next, KS_ret, KS_exc, ↓ws_ite, wI_true, wI_false, wI_exc, ↓ws_loop, wL_ok, ↓ws_tr, KT_next, KT_ret, KT_exc, KF_next, KF_ret, KF_exc, KP_ret, KP_exc, ws_for_cons, ws_for_nil, wO_some, ws_some, wp_some, ↓ws_set, ↓ws_own, ↓ws_cell, ↓ws_unp, ↓ws_par, ↓ws_aug, ↓ws_app, ↓ws_ext, ↓ws_put, ↓ws_expr, ↓ws_retE, ↓ws_retN, ↓ws_pass, ↓ws_raise, szle, szlt, dle_t, dle_f, dlt_t, dlt_f, ibeq_t, ibeq_f, okR_of, isInt_yes, isInt_lo, isInt_hi, isInt_bl, isInt_non, isInt_str, isInt_tup, isInt_lst, nr_int, nr_bl, nr_str, nr_non, nr_tup, nr_lst, ↓compD_F, stepD, ↓compF_map, ↓compF_rng, compF_ret, compF_nil, compF_cons, ite_ok, ite_val, ite_bl, ite_int, fm_ite, fm_dec, rngD_len, st0, st1, see_st, see_sg, sg0, sg1, sg2, sg3, sg4, sg5, sg6, sg7, at_tup, at_lst, cut_tup, cut_lst, at0, at1, at2, at3, at4, at5, at6, at7, eq_non_non, eq_non_bl, eq_non_int, eq_non_str, eq_non_tup, eq_non_lst, eq_bl_non, eq_bl_bl, eq_bl_int, eq_bl_str, eq_bl_tup, eq_bl_lst, eq_int_non, eq_int_bl, eq_int_int, eq_int_str, eq_int_tup, eq_int_lst, eq_str_non, eq_str_bl, eq_str_int, eq_str_str, eq_str_tup, eq_str_lst, eq_tup_non, eq_tup_bl, eq_tup_int, eq_tup_str, eq_tup_tup, eq_tup_lst, eq_lst_non, eq_lst_bl, eq_lst_int, eq_lst_str, eq_lst_tup, eq_lst_lst, dep_non, dep_bl, dep_int, dep_str, dep_tup, dep_lst, deps_nil, deps_cons, it_lst, it_tup, natL_dep, see_natL, natL_items, sg_set, set_name, set_tup, see_noRef, patch_nil, patch_cons, ev, evs, evo, evc, evi, mSet, mRet, mDo, mUnp, mPar, mAug, mApp, mExt, mPut, mOwn, mCell, mFreeze, findH, bs, endOf, mArgs, mAnds, mOrs, mTAnds, mTOrs, mAnd, mOr, mNot, mTAnd, mTOr, mTNot, mTru, mIsB, mIf, mChain, mUn, mBin, mVar, mC, mCons, mNil, mTup, mLst, mCallB, mCall, mCut, mPart, mNoPart, mIter, mRng1_s, mRng2_s, mEnum, mZip, mComp, mYes, bx, notOwn, wipeO, startE, RV.sv, bd, ret, lift, RV.see, see_int, see_bl, see_str, see_non, see_tup, see_lst, see_ref, D.isi, BOp.g, COp.g, Bi.g, D.cmpI, D.add, D.sub, D.mul, D.fdiv, D.mod, D.neg, D.bLen, D.bAbs, D.bTuple, D.bList, D.bInt, allVal, setAll, D.truth, D.isNo, D.notNo, D.nonB, D.toInt, D.eqO, D.neO, D.inO, D.ninO, sz1, sz2, sz3, sz4, sz5, sz6, sz7, sz8, sz9, sz10, sz11, sz12]
        refine KP_of rfl (t.mono ?_)
        simp [rngD_len]
    · intro v h t
      simp (disch := first | assumption | omega | exact nr_int _ | exact nr_bl _ | exact nr_non | exact nr_str _ | exact nr_tup _ | exact nr_lst _ | solve_by_elim (maxDepth := 4)) [-getElem?_pos, -getElem?_neg, List.getElem?_cons_zero, List.getElem?_cons_succ, ↓ws_cons, ↓ws_frz, ↓ws_nil, KS_next, KS_ret, KS_exc, ↓ws_ite, wI_true, wI_false, wI_exc, ↓ws_loop, wL_ok, ↓ws_tr, KT_next, KT_ret, KT_exc, KF_next, KF_ret, KF_exc, KP_ret, KP_exc, ws_for_cons, ws_for_nil, wO_some, ws_some, wp_some, ↓ws_set, ↓ws_own, ↓ws_cell, ↓ws_unp, ↓ws_par, ↓ws_aug, ↓ws_app, ↓ws_ext, ↓ws_put, ↓ws_expr, ↓ws_retE, ↓ws_retN, ↓ws_pass, ↓ws_raise, szle, szlt, dle_t, dle_f, dlt_t, dlt_f, ibeq_t, ibeq_f, okR_of, isInt_yes, isInt_lo, isInt_hi, isInt_bl, isInt_non, isInt_str, isInt_tup, isInt_lst, nr_int, nr_bl, nr_str, nr_non, nr_tup, nr_lst, ↓compD_F, stepD, ↓compF_map, ↓compF_rng, compF_ret, compF_nil, compF_cons, ite_ok, ite_val, ite_bl, ite_int, fm_ite, fm_dec, rngD_len, st0, st1, see_st, see_sg, sg0, sg1, sg2, sg3, sg4, sg5, sg6, sg7, at_tup, at_lst, cut_tup, cut_lst, at0, at1, at2, at3, at4, at5, at6, at7, eq_non_non, eq_non_bl, eq_non_int, eq_non_str, eq_non_tup, eq_non_lst, eq_bl_non, eq_bl_bl, eq_bl_int, eq_bl_str, eq_bl_tup, eq_bl_lst, eq_int_non, eq_int_bl, eq_int_int, eq_int_str, eq_int_tup, eq_int_lst, eq_str_non, eq_str_bl, eq_str_int, eq_str_str, eq_str_tup, eq_str_lst, eq_tup_non, eq_tup_bl, eq_tup_int, eq_tup_str, eq_tup_tup, eq_tup_lst, eq_lst_non, eq_lst_bl, eq_lst_int, eq_lst_str, eq_lst_tup, eq_lst_lst, dep_non, dep_bl, dep_int, dep_str, dep_tup, dep_lst, deps_nil, deps_cons, it_lst, it_tup, natL_dep, see_natL, natL_items, sg_set, set_name, set_tup, see_noRef, patch_nil, patch_cons, ev, evs, evo, evc, evi, mSet, mRet, mDo, mUnp, mPar, mAug, mApp, mExt, mPut, mOwn, mCell, mFreeze, findH, bs, endOf, mArgs, mAnds, mOrs, mTAnds, mTOrs, mAnd, mOr, mNot, mTAnd, mTOr, mTNot, mTru, mIsB, mIf, mChain, mUn, mBin, mVar, mC, mCons, mNil, mTup, mLst, mCallB, mCall, mCut, mPart, mNoPart, mIter, mRng1_s, mRng2_s, mEnum, mZip, mComp, mYes, bx, notOwn, wipeO, startE, RV.sv, bd, ret, lift, RV.see, see_int, see_bl, see_str, see_non, see_tup, see_lst, see_ref, D.isi, BOp.g, COp.g, Bi.g, D.cmpI, D.add, D.sub, D.mul, D.fdiv, D.mod, D.neg, D.bLen, D.bAbs, D.bTuple, D.bList, D.bInt, allVal, setAll, D.truth, D.isNo, D.notNo, D.nonB, D.toInt, D.eqO, D.neO, D.inO, D.ninO, sz1, sz2, sz3, sz4, sz5, sz6, sz7, sz8, sz9, sz10, sz11, sz12]
  obtain ⟨_, e, h, rfl⟩ := this
  exact ⟨h, e⟩
end Kb
namespace Kb
open PySem L2
namespace K04
theorem s_holds (k : Nat) : SHolds (clAt tb.T (k + 1) 8) := by rw [at_holds]; exact holds_ok  
theorem s_find_holding (k : Nat) : SFind holdL (clAt tb.T (k + 2) 9) := by rw [at_find_holding]; exact find_holding_ok  (s_holds k)
theorem s_find_counting (k : Nat) : SFind countL (clAt tb.T (k + 3) 10) := by rw [at_find_counting]; exact find_counting_ok  (s_find_holding k)
theorem s_words_at (k : Nat) : SWords (clAt tb.T (k + 4) 15) := by rw [at_words_at]; exact words_at_ok  (s_find_counting k)
theorem s_find_limit (k : Nat) : SFindD limR (clAt tb.T (k + 5) 17) := by rw [at_find_limit]; exact find_limit_ok  (s_words_at k)
theorem s_is_integer (k : Nat) : SIsInteger (clAt tb.T (k + 1) 0) := by rw [at_is_integer]; exact is_integer_ok  
theorem s_require_hour (k : Nat) : SReqInt 0 167 3 (clAt tb.T (k + 2) 6) := by rw [at_require_hour]; exact require_hourD_ok  (s_is_integer k)
theorem s_require_place (k : Nat) : SReqPlace 2 (clAt tb.T (k + 2) 7) := by rw [at_require_place]; exact require_place_ok  (s_is_integer k)
theorem s_is_word (k : Nat) : SIsWord (clAt tb.T (k + 2) 1) := by rw [at_is_word]; exact is_word_ok  (s_is_integer k)
theorem s_are_days (k : Nat) : SAreDaysD (clAt tb.T (k + 2) 2) := by rw [at_are_days]; exact are_daysD_ok  (s_is_integer k)
theorem s_is_sign (k : Nat) : SIsSignD (clAt tb.T (k + 3) 3) := by rw [at_is_sign]; exact is_signD_ok  (s_is_word k) (s_is_integer (k + 1)) (s_are_days k)
theorem s_is_street (k : Nat) : SIsStreetD (clAt tb.T (k + 4) 4) := by rw [at_is_street]; exact is_streetD_ok  (s_is_sign k) (s_is_integer (k + 2))
theorem s_require_street (k : Nat) : SReqStreetD 0 (clAt tb.T (k + 5) 5) := by rw [at_require_street]; exact require_streetD_ok  (s_is_street k)
theorem s_require_spot (k : Nat) : SReqSpotD 0 2 3 (clAt tb.T (k + 6) 11) := by rw [at_require_spot]; exact require_spotD_ok  (s_require_hour (k + 3)) (s_require_place (k + 3)) (s_require_street k)
theorem s_limit (k : Nat) : SAtD 0 2 3 limR (clAt tb.T (k + 7) 20) := by rw [at_limit]; exact limit_ok  (s_find_limit (k + 1)) (s_require_spot k)
theorem s_find_kinds (k : Nat) : SFindD kindsR (clAt tb.T (k + 5) 16) := by rw [at_find_kinds]; exact find_kinds_ok  (s_words_at k)
theorem s_kinds_at (k : Nat) : SAtD 0 2 3 kindsR (clAt tb.T (k + 7) 19) := by rw [at_kinds_at]; exact kinds_at_ok  (s_find_kinds (k + 1)) (s_require_spot k)
theorem s_require_kind (k : Nat) : SReqInt 0 2 1 (clAt tb.T (k + 2) 14) := by rw [at_require_kind]; exact require_kind_ok  (s_is_integer k)
theorem s_may_stand (k : Nat) : SMayStand 0 1 2 3 (clAt tb.T (k + 6) 18) := by rw [at_may_stand]; exact may_stand_ok  (s_find_kinds k) (s_require_hour (k + 3)) (s_require_place (k + 3)) (s_require_kind (k + 3)) (s_require_street k)
theorem s__law_same_there (k : Nat) : SSameThere (clAt tb.T (k + 8) 25) := by rw [at__law_same_there]; exact same_there_ok  (s_limit k) (s_kinds_at k)
theorem s_counting (k : Nat) : SAtG 0 2 3 (fun l p h => natL (countL l p h)) (clAt tb.T (k + 7) 13) := by rw [at_counting]; exact countingD_ok  (s_find_counting (k + 3)) (s_require_spot k)
theorem s_holding (k : Nat) : SAtG 0 2 3 (fun l p h => natL (holdL l p h)) (clAt tb.T (k + 7) 12) := by rw [at_holding]; exact holdingD_ok  (s_find_holding (k + 4)) (s_require_spot k)
theorem s__law_holds (k : Nat) : SHolds04 (clAt tb.T (k + 9) 26) := by rw [at__law_holds]; exact holds04_ok  (s_may_stand (k + 2)) (s_kinds_at (k + 1)) (s__law_same_there k) (s_is_street (k + 4)) (s_counting (k + 1)) (s_holding (k + 1))
theorem s__law_draw (k : Nat) : SDraw (clAt tb.T (k + 1) 21) := by rw [at__law_draw]; exact draw_ok  
theorem s__law_pick (k : Nat) : SPick (clAt tb.T (k + 2) 22) := by rw [at__law_pick]; exact pick_ok  (s__law_draw k)
theorem s__law_sign (k : Nat) : SSign (clAt tb.T (k + 3) 23) := by rw [at__law_sign]; exact sign_ok  (s__law_draw (k + 1)) (s__law_pick k)
theorem s__law_street (k : Nat) : SStreet (clAt tb.T (k + 4) 24) := by rw [at__law_street]; exact street_ok  (s__law_draw (k + 2)) (s__law_sign k)
theorem law_true : ∀ ns : List Int, ns.length ≤ 63 → ∃ h, clAt tb.T (9 + 1) 27 [.bor (ns.map D.int)] [] = some (.ok (.bl true) h) := by
  intro ns hn
  rw [at_law]
  exact law04_ok  (s_limit 2) (s_kinds_at 2) (s__law_holds 0) (s__law_draw 8) (s__law_street 5) ns hn
end K04
end Kb
open PySem PySem.W PySem.Calls PyProof.Rows
theorem PySem.Challenge.cw_kerbsigns_k04_whole_ranks_holds : PySem.Challenge.rw_kerbsigns_k04_whole_ranks.Holds := by
  w_on; o_law
  refine HandSHeadRun.head_any (r := OpenLaw.row PySem.Challenge.rw_kerbsigns_k04_whole_ranks) (q := view (OpenLaw.row PySem.Challenge.rw_kerbsigns_k04_whole_ranks).prog [36]) (H := Kb.K04.hk) (ob := Kb.K04.ob) (M := 4000) (loose := Kb.K04.names) (d := HandSHeadRun.topDef (OpenLaw.row PySem.Challenge.rw_kerbsigns_k04_whole_ranks).prog 36) (kwd := []) Kb.K04.ob_eq
    (by kernel_rfl) (fun s => by kernel_rfl) Kb.K04.run (by kernel_rfl) (by kernel_rfl) (by kernel_rfl) (by rfl) (by first | assumption | decide +kernel) (by decide +kernel) ⟨rfl, rfl, rfl, rfl, rfl, by decide +kernel⟩ ?hw ?hc
  case hw => w_witness2
  case hc =>
    refine L2.walk_ofE (l := PySem.Challenge.rw_kerbsigns_k04_whole_ranks) (n := 63) (k := 9 + 1) (x := "script") (CX := fun outer H s E e s' => ∃ w, L2.CX (PySem.Challenge.rw_kerbsigns_k04_whole_ranks).prog w outer H s E e s') rfl (by decide) (by kernel_rfl) ⟨rfl, by decide, by decide⟩ ?F (fun _ _ _ _ ⟨_, z⟩ => by obtain ⟨_, _, _, _, _, _, _, _, _, _, _, _, z⟩ := z; exact z)
    intro w mg fa h Y G hmg0
    obtain ⟨K, KX, c, hK⟩ := Y
    have hmg : mg ("law" : PySem.Str) = some (.ref fa) := by
      have e : (HandSHeadRun.topDef (OpenLaw.row PySem.Challenge.rw_kerbsigns_k04_whole_ranks).prog 36).name = ("law" : PySem.Str) := by kernel_rfl
      rw [← e]
      exact hmg0
    obtain ⟨fd, sp, hb, hs, hF⟩ := Kb.Tb.Ok.law (w := w) (k := 9) Kb.K04.tb_ok Kb.K04.law_at.2.1 Kb.K04.law_at.2.2.1 Kb.K04.law_true KX G (by rw [Kb.K04.law_at.1]; exact hmg) c hK
    rw [Kb.K04.law_at.2.2.2] at hb hF
    exact ⟨K, fd, sp, KX, hb, hs, fun base h1 h2 => Kb.fnOk_cx (hF base h1 h2) fun _ _ _ _ _ _ z => ⟨w, z⟩⟩
