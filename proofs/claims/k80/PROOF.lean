import PyProof.Rows.All
import HandS.ForMost
import HandS.Exc
import HandS.ExcOwn
import HandS.TryOnly
import HandS.TryMany
import HandS.WordsExc
import HandS.IsInst
import HandS.Wide
import HandS.CallSlots
import HandS.Deep
import HandS.Style
import HandS.TupAny
import PySem.Challenge.RW_listworks_k80_trees_of_heights
set_option Elab.async false
set_option linter.all false
set_option maxRecDepth 100000
namespace VL
open PySem PySem.Spec PyProof.Rows L2

inductive D where
  | non | bl (b : Bool) | int (i : Int) | str (x : Str) | ref (a : Addr) | ty (n : String)
  | lst (xs : List D) | scr (xs : List D) | tup (xs : List D)
  | dk (kvs : List (Key × D)) | dt (kvs : List (List Key × D))
  | ins (C : Addr) (fs : List (Str × D))
instance : Inhabited D := ⟨.non⟩
mutual
def D.py : D → PyData
  | .non => .none
  | .bl b => .bool b
  | .int i => .int i
  | .str x => .str x
  | .lst xs => .list (D.pys xs)
  | .scr xs => .list (D.pys xs)
  | .tup xs => .tuple (D.pys xs)
  | .ref _ => .dict []
  | .ty _ => .dict []
  | .dk _ => .dict []
  | .dt _ => .dict []
  | .ins _ _ => .dict []
def D.pys : List D → List PyData
  | [] => []
  | x :: xs => D.py x :: D.pys xs
end
theorem D.pys_eq : ∀ xs : List D, D.pys xs = xs.map D.py
  | [] => by rw [D.pys]; rfl
  | x :: xs => by rw [D.pys, D.pys_eq xs]; rfl

/-- what a slot holds: nothing known, data that stays, a list of its own (its items stay), an instance of its own -/
inductive O where
  | un | d (x : D) | fl (xs : List D) | ob (C : Addr) (fs : List (Str × D))
instance : Inhabited O := ⟨.un⟩
def O.toD : O → D
  | .un => .non
  | .d x => x
  | .fl xs => .lst xs
  | .ob C fs => .ins C fs
abbrev Ev := List O
/-- what an evaluation comes to -/
inductive ER (α : Type) where
  | ok (a : α) | ex (c : Str) (x : D) (env : Ev) | st

/-- a tuple of the written part -/
def KTup (K : PySem.W.Frag) (a : Addr) (xs : List V) : Prop :=
  ∃ (o : Obj) (its : Array Value) (n : Nat), K.lookup a = some o ∧ o.cls = .type "tuple" ∧ o.data = .seq its n ∧ its.size ≤ sizeLine ∧ Vals xs its.toList
def KLst (K : PySem.W.Frag) (a : Addr) (xs : List V) : Prop :=
  ∃ (o : Obj) (its : Array Value) (n : Nat), K.lookup a = some o ∧ o.cls = .type "list" ∧ o.dict = none ∧ o.data = .seq its n ∧ its.size ≤ sizeLine ∧ Vals xs its.toList
mutual
inductive RD (K : PySem.W.Frag) (av : Addr → Prop) (H : Hp) : V → D → Prop
  | non : RD K av H .non .non
  | bl (b : Bool) : RD K av H (.bl b) (.bl b)
  | int (i : Int) : RD K av H (.int i) (.int i)
  | str (x : Str) : RD K av H (.str x) (.str x)
  | ref (a : Addr) : RD K av H (.ref a) (.ref a)
  | ty (n : String) : RD K av H (.ty n) (.ty n)
  | lst {a : Addr} {vs : List V} {ds : List D} : ¬ av a → H a = some (.lst vs) → RDs K av H vs ds → RD K av H (.ref a) (.lst ds)
  | scr {a : Addr} {vs : List V} {ds : List D} : ¬ av a → Rd H a (.lst vs) → RDs K av H vs ds → RD K av H (.ref a) (.scr ds)
  | kscr {a : Addr} {vs : List V} {ds : List D} : KLst K a vs → RDs K av H vs ds → RD K av H (.ref a) (.scr ds)
  | tup {a : Addr} {vs : List V} {ds : List D} : ¬ av a → H a = some (.tup vs) → RDs K av H vs ds → RD K av H (.ref a) (.tup ds)
  | ktup {a : Addr} {vs : List V} {ds : List D} : KTup K a vs → RDs K av H vs ds → RD K av H (.ref a) (.tup ds)
  | dk {a : Addr} {kvs : List (Key × V)} {ds : List (Key × D)} : ¬ av a → H a = some (.dK kvs) → RDk K av H kvs ds → RD K av H (.ref a) (.dk ds)
  | dt {a : Addr} {kvs : List (List Key × V)} {ds : List (List Key × D)} : ¬ av a → H a = some (.dT kvs) → RDt K av H kvs ds → RD K av H (.ref a) (.dt ds)
  | ins {a C dx : Addr} {fs : List (Str × V)} {ds : List (Str × D)} : ¬ av a → H a = some (.ins C dx fs) → RDf K av H fs ds → RD K av H (.ref a) (.ins C ds)
inductive RDs (K : PySem.W.Frag) (av : Addr → Prop) (H : Hp) : List V → List D → Prop
  | nil : RDs K av H [] []
  | cons {v : V} {d : D} {vs : List V} {ds : List D} : RD K av H v d → RDs K av H vs ds → RDs K av H (v :: vs) (d :: ds)
inductive RDk (K : PySem.W.Frag) (av : Addr → Prop) (H : Hp) : List (Key × V) → List (Key × D) → Prop
  | nil : RDk K av H [] []
  | cons {k : Key} {v : V} {d : D} {vs : List (Key × V)} {ds : List (Key × D)} : RD K av H v d → RDk K av H vs ds → RDk K av H ((k, v) :: vs) ((k, d) :: ds)
inductive RDt (K : PySem.W.Frag) (av : Addr → Prop) (H : Hp) : List (List Key × V) → List (List Key × D) → Prop
  | nil : RDt K av H [] []
  | cons {k : List Key} {v : V} {d : D} {vs : List (List Key × V)} {ds : List (List Key × D)} : RD K av H v d → RDt K av H vs ds → RDt K av H ((k, v) :: vs) ((k, d) :: ds)
inductive RDf (K : PySem.W.Frag) (av : Addr → Prop) (H : Hp) : List (Str × V) → List (Str × D) → Prop
  | nil : RDf K av H [] []
  | cons {k : Str} {v : V} {d : D} {vs : List (Str × V)} {ds : List (Str × D)} : RD K av H v d → RDf K av H vs ds → RDf K av H ((k, v) :: vs) ((k, d) :: ds)
end

section
variable {K : PySem.W.Frag} {av av' : Addr → Prop} {H H' : Hp}
/-- what is kept for data: nothing that it leans on is owned now, all of it stands as before -/
structure Keep (av av' : Addr → Prop) (H H' : Hp) : Prop where
  own : ∀ a, ¬ av a → (H a).isSome = true → ¬ av' a
  at_ : ∀ a o, ¬ av a → H a = some o → H' a = some o
theorem Keep.rd {a : Addr} {u : HO} (k : Keep av av' H H') (n : ¬ av a) (h : Rd H a u) : ¬ av' a ∧ Rd H' a u := by
  rcases h with h | ⟨o, h⟩
  · exact ⟨k.own a n (by rw [h]; rfl), .inl (k.at_ _ _ n h)⟩
  · exact ⟨k.own a n (by rw [h]; rfl), .inr ⟨o, k.at_ _ _ n h⟩⟩
mutual
theorem RD.keep (k : Keep av av' H H') : ∀ {v : V} {d : D}, RD K av H v d → RD K av' H' v d
  | _, _, .non => .non
  | _, _, .bl b => .bl b
  | _, _, .int i => .int i
  | _, _, .str x => .str x
  | _, _, .ref a => .ref a
  | _, _, .ty n => .ty n
  | _, _, .lst n h r => .lst (k.own _ n (by rw [h]; rfl)) (k.at_ _ _ n h) (RDs.keep k r)
  | _, _, .scr n h r => .scr (k.rd n h).1 (k.rd n h).2 (RDs.keep k r)
  | _, _, .kscr h r => .kscr h (RDs.keep k r)
  | _, _, .tup n h r => .tup (k.own _ n (by rw [h]; rfl)) (k.at_ _ _ n h) (RDs.keep k r)
  | _, _, .ktup h r => .ktup h (RDs.keep k r)
  | _, _, .dk n h r => .dk (k.own _ n (by rw [h]; rfl)) (k.at_ _ _ n h) (RDk.keep k r)
  | _, _, .dt n h r => .dt (k.own _ n (by rw [h]; rfl)) (k.at_ _ _ n h) (RDt.keep k r)
  | _, _, .ins n h r => .ins (k.own _ n (by rw [h]; rfl)) (k.at_ _ _ n h) (RDf.keep k r)
theorem RDs.keep (k : Keep av av' H H') : ∀ {v : List V} {d : List D}, RDs K av H v d → RDs K av' H' v d
  | _, _, .nil => .nil
  | _, _, .cons h r => .cons (RD.keep k h) (RDs.keep k r)
theorem RDk.keep (k : Keep av av' H H') : ∀ {v : List (Key × V)} {d : List (Key × D)}, RDk K av H v d → RDk K av' H' v d
  | _, _, .nil => .nil
  | _, _, .cons h r => .cons (RD.keep k h) (RDk.keep k r)
theorem RDt.keep (k : Keep av av' H H') : ∀ {v : List (List Key × V)} {d : List (List Key × D)}, RDt K av H v d → RDt K av' H' v d
  | _, _, .nil => .nil
  | _, _, .cons h r => .cons (RD.keep k h) (RDt.keep k r)
theorem RDf.keep (k : Keep av av' H H') : ∀ {v : List (Str × V)} {d : List (Str × D)}, RDf K av H v d → RDf K av' H' v d
  | _, _, .nil => .nil
  | _, _, .cons h r => .cons (RD.keep k h) (RDf.keep k r)
end
/-- fewer are owned, all stands -/
def Grow (H H' : Hp) : Prop := ∀ a o, H a = some o → H' a = some o
theorem Grow.refl (H : Hp) : Grow H H := fun _ _ h => h
theorem Grow.trans {H H1 H2 : Hp} (a : Grow H H1) (b : Grow H1 H2) : Grow H H2 := fun x o h => b x o (a x o h)
theorem Grow.new {H : Hp} {p : Addr} {o : HO} (h : H p = none) : Grow H (upd H p o) := fun a u e => by
  rw [upd_ne (ne_of_none e h)]
  exact e
theorem Keep.grow (g : Grow H H') (s : ∀ a, av' a → av a) : Keep av av' H H' := ⟨fun a n _ h => n (s a h), fun a o _ h => g a o h⟩
theorem RDs.length : ∀ {vs : List V} {ds : List D}, RDs K av H vs ds → vs.length = ds.length
  | _, _, .nil => rfl
  | _, _, .cons _ r => by rw [List.length_cons, List.length_cons, r.length]
theorem RDs.get : ∀ {vs : List V} {ds : List D} {i : Nat} {v : V}, RDs K av H vs ds → vs[i]? = some v → ∃ d, ds[i]? = some d ∧ RD K av H v d
  | _, _, _, _, .nil, e => by simp at e
  | _, _, 0, _, .cons h _, e => by
    simp only [List.getElem?_cons_zero, Option.some.injEq] at e
    subst e
    exact ⟨_, rfl, h⟩
  | _, _, i + 1, _, .cons _ r, e => by
    simp only [List.getElem?_cons_succ] at e ⊢
    exact RDs.get r e
theorem RDs.getD : ∀ {vs : List V} {ds : List D} {i : Nat} {d : D}, RDs K av H vs ds → ds[i]? = some d → ∃ v, vs[i]? = some v ∧ RD K av H v d
  | _, _, _, _, .nil, e => by simp at e
  | _, _, 0, _, .cons h _, e => by
    simp only [List.getElem?_cons_zero, Option.some.injEq] at e
    subst e
    exact ⟨_, rfl, h⟩
  | _, _, i + 1, _, .cons _ r, e => by
    simp only [List.getElem?_cons_succ] at e ⊢
    exact RDs.getD r e
theorem RDs.append : ∀ {vs ws : List V} {ds es : List D}, RDs K av H vs ds → RDs K av H ws es → RDs K av H (vs ++ ws) (ds ++ es)
  | _, _, _, _, .nil, r => r
  | _, _, _, _, .cons h t, r => .cons h (RDs.append t r)
theorem RDs.set {v : V} {d : D} (q : RD K av H v d) : ∀ {vs : List V} {ds : List D} (i : Nat), RDs K av H vs ds → RDs K av H (vs.set i v) (ds.set i d)
  | _, _, _, .nil => .nil
  | _, _, 0, .cons _ r => .cons q r
  | _, _, i + 1, .cons h r => .cons h (RDs.set q i r)
theorem RDs.take : ∀ {vs : List V} {ds : List D} (n : Nat), RDs K av H vs ds → RDs K av H (vs.take n) (ds.take n)
  | _, _, 0, _ => .nil
  | _, _, _ + 1, .nil => .nil
  | _, _, n + 1, .cons h r => .cons h (RDs.take n r)
theorem RDs.drop : ∀ {vs : List V} {ds : List D} (n : Nat), RDs K av H vs ds → RDs K av H (vs.drop n) (ds.drop n)
  | _, _, 0, r => r
  | _, _, _ + 1, .nil => .nil
  | _, _, n + 1, .cons _ r => RDs.drop n r
theorem RDs.eraseIdx : ∀ {vs : List V} {ds : List D} (i : Nat), RDs K av H vs ds → RDs K av H (vs.eraseIdx i) (ds.eraseIdx i)
  | _, _, _, .nil => .nil
  | _, _, 0, .cons _ r => r
  | _, _, i + 1, .cons h r => .cons h (RDs.eraseIdx i r)
theorem RDs.reverse : ∀ {vs : List V} {ds : List D}, RDs K av H vs ds → RDs K av H vs.reverse ds.reverse
  | _, _, .nil => .nil
  | _, _, .cons h r => by
    rw [List.reverse_cons, List.reverse_cons]
    exact (RDs.reverse r).append (.cons h .nil)
theorem RDs.dropLast {vs : List V} {ds : List D} (r : RDs K av H vs ds) : RDs K av H vs.dropLast ds.dropLast := by
  rw [List.dropLast_eq_take, List.dropLast_eq_take, r.length]
  exact r.take _
end

inductive SR (K : PySem.W.Frag) (av : Addr → Prop) (H : Hp) : Option V → O → List Addr → Prop
  | un {s : Option V} : SR K av H s .un []
  | d {v : V} {x : D} : RD K av H v x → SR K av H (some v) (.d x) []
  | fl {a : Addr} {vs : List V} {ds : List D} : H a = some (.lst vs) → RDs K av H vs ds → SR K av H (some (.ref a)) (.fl ds) [a]
  | ob {a C dx : Addr} {fs : List (Str × V)} {ds : List (Str × D)} : H a = some (.ins C dx fs) → RDf K av H fs ds → SR K av H (some (.ref a)) (.ob C ds) [a]
inductive Slots (K : PySem.W.Frag) (av : Addr → Prop) (H : Hp) : L2.St → Ev → List Addr → Prop
  | nil : Slots K av H [] [] []
  | cons {s : Option V} {o : O} {fp own : List Addr} {σ : L2.St} {env : Ev} : SR K av H s o fp → Slots K av H σ env own → Slots K av H (s :: σ) (o :: env) (fp ++ own)
/-- the state goes on: own was owned here, own' is -/
structure Adv (av : Addr → Prop) (H : Hp) (own : List Addr) (av' : Addr → Prop) (H' : Hp) (own' : List Addr) : Prop where
  av_ : ∀ a, av' a ↔ (av a ∧ a ∉ own) ∨ a ∈ own'
  fresh : ∀ a, a ∈ own' → a ∈ own ∨ H a = none
  ext : ∀ a o, H a = some o → a ∉ own → H' a = some o
  there : ∀ a, (H a).isSome = true → (H' a).isSome = true
structure OkW (av : Addr → Prop) (H : Hp) (own : List Addr) : Prop where
  nodup : own.Nodup
  sub : ∀ a, a ∈ own → av a
  dom : ∀ a, av a → (H a).isSome = true
section
variable {K : PySem.W.Frag} {av av' av1 av2 : Addr → Prop} {H H' H1 H2 : Hp} {own own' own1 own2 t u fp : List Addr}
theorem Adv.refl (w : OkW av H own) : Adv av H own av H own :=
  ⟨fun a => ⟨fun h => by
      by_cases q : a ∈ own
      · exact .inr q
      · exact .inl ⟨h, q⟩, fun h => h.elim (·.1) (w.sub a)⟩, fun _ h => .inl h, fun _ _ h _ => h, fun _ h => h⟩
theorem Adv.keep (w : OkW av H own) (A : Adv av H own av' H' own') : Keep av av' H H' where
  own := fun a n h q => by
    rcases (A.av_ a).mp q with q | q
    · exact n q.1
    · rcases A.fresh a q with q | q
      · exact n (w.sub a q)
      · rw [q] at h; cases h
  at_ := fun a o n h => A.ext a o h fun q => n (w.sub a q)
theorem OkW.tail (w : OkW av H (t ++ own)) : OkW av H own := ⟨(List.nodup_append.mp w.nodup).2.1, fun a h => w.sub a (List.mem_append_right _ h), w.dom⟩
theorem OkW.apart (w : OkW av H (t ++ own)) : ∀ a, a ∈ t → a ∉ own := fun a h q => (List.nodup_append.mp w.nodup).2.2 a h a q rfl
/-- one step behind another, with t left over from the first -/
theorem Adv.trans (w0 : OkW av H own) (w : OkW av1 H1 (t ++ own1)) (A : Adv av H own av1 H1 (t ++ own1)) (B : Adv av1 H1 own1 av2 H2 (u ++ own2)) : Adv av H own av2 H2 ((t ++ u) ++ own2) where
  av_ := fun a => by
    constructor
    · intro h
      rcases (B.av_ a).mp h with ⟨h1, h2⟩ | h
      · rcases (A.av_ a).mp h1 with h | h
        · exact .inl h
        · rcases List.mem_append.mp h with h | h
          · exact .inr (by simp [h])
          · exact absurd h h2
      · exact .inr (by
          rcases List.mem_append.mp h with h | h
          · simp [h]
          · simp [h])
    · intro h
      rcases h with h | h
      · refine (B.av_ a).mpr (.inl ⟨(A.av_ a).mpr (.inl h), fun q => ?_⟩)
        rcases A.fresh a (List.mem_append_right _ q) with z | z
        · exact h.2 z
        · have := w0.dom a h.1
          rw [z] at this; cases this
      · rw [List.append_assoc] at h
        rcases List.mem_append.mp h with h | h
        · exact (B.av_ a).mpr (.inl ⟨w.sub a (List.mem_append_left _ h), w.apart a h⟩)
        · exact (B.av_ a).mpr (.inr h)
  fresh := fun a h => by
    rw [List.append_assoc] at h
    rcases List.mem_append.mp h with h | h
    · exact A.fresh a (List.mem_append_left _ h)
    · rcases B.fresh a h with h | h
      · exact A.fresh a (List.mem_append_right _ h)
      · right
        cases q : H a with
        | none => rfl
        | some o =>
          have := A.there a (by rw [q]; rfl)
          rw [h] at this; cases this
  ext := fun a o h n => B.ext a o (A.ext a o h n) fun q => by
    rcases A.fresh a (List.mem_append_right _ q) with z | z
    · exact n z
    · rw [h] at z; cases z
  there := fun a h => B.there a (A.there a h)
theorem OkW.trans (w : OkW av1 H1 (t ++ own1)) (B : Adv av1 H1 own1 av2 H2 (u ++ own2)) (w2 : OkW av2 H2 (u ++ own2)) : OkW av2 H2 ((t ++ u) ++ own2) where
  nodup := by
    rw [List.append_assoc]
    refine List.nodup_append.mpr ⟨(List.nodup_append.mp w.nodup).1, w2.nodup, fun a h b h2 e => ?_⟩
    subst e
    rcases B.fresh a h2 with q | q
    · exact w.apart a h q
    · have := w.dom a (w.sub a (List.mem_append_left _ h))
      rw [q] at this; cases this
  sub := fun a h => by
    rw [List.append_assoc] at h
    rcases List.mem_append.mp h with h | h
    · exact (B.av_ a).mpr (.inl ⟨w.sub a (List.mem_append_left _ h), w.apart a h⟩)
    · exact w2.sub a h
  dom := w2.dom
/-- t is given up -/
def drp (av : Addr → Prop) (own own' : List Addr) : Addr → Prop := fun a => (av a ∧ a ∉ own) ∨ a ∈ own'
theorem Adv.drop (A : Adv av H own av1 H1 (t ++ own1)) : Adv av H own (drp av own own1) H1 own1 :=
  ⟨fun _ => Iff.rfl, fun a h => A.fresh a (List.mem_append_right _ h), A.ext, A.there⟩
theorem drp_sub (A : Adv av H own av1 H1 (t ++ own1)) : ∀ a, drp av own own1 a → av1 a := fun a h => by
  rcases h with h | h
  · exact (A.av_ a).mpr (.inl h)
  · exact (A.av_ a).mpr (.inr (List.mem_append_right _ h))
theorem OkW.drop (A : Adv av H own av1 H1 (t ++ own1)) (w : OkW av1 H1 (t ++ own1)) : OkW (drp av own own1) H1 own1 :=
  ⟨w.tail.nodup, fun a h => .inr h, fun a h => w.dom a (drp_sub A a h)⟩
/-- the heap grows, nothing of it owned -/
theorem Adv.grow (A : Adv av H own av1 H1 own1) (g : Grow H1 H2) : Adv av H own av1 H2 own1 :=
  ⟨A.av_, A.fresh, fun a o h n => g a o (A.ext a o h n), fun a h => by
    obtain ⟨o, e⟩ := Option.isSome_iff_exists.mp (A.there a h)
    rw [g a o e]; rfl⟩
theorem OkW.grow (w : OkW av H own) (g : Grow H H') : OkW av H' own := ⟨w.nodup, w.sub, fun a h => by
  obtain ⟨o, e⟩ := Option.isSome_iff_exists.mp (w.dom a h)
  rw [g a o e]; rfl⟩
/-- a new object at p, owned -/
theorem Adv.new {p : Addr} {o : HO} (A : Adv av H own av1 H1 own1) (hp : H1 p = none) : Adv av H own (drp av own (p :: own1)) (upd H1 p o) (p :: own1) :=
  ⟨fun _ => Iff.rfl, fun a h => by
    rcases List.mem_cons.mp h with e | h
    · subst e
      right
      cases q : H a with
      | none => rfl
      | some o =>
        have := A.there a (by rw [q]; rfl)
        rw [hp] at this; cases this
    · exact A.fresh a h, fun a u h n => Grow.new hp a u (A.ext a u h n), fun a h => by
    obtain ⟨u, e⟩ := Option.isSome_iff_exists.mp (A.there a h)
    rw [Grow.new hp a u e]; rfl⟩
theorem OkW.new {p : Addr} {o : HO} (A : Adv av H own av1 H1 own1) (w : OkW av1 H1 own1) (hp : H1 p = none) : OkW (drp av own (p :: own1)) (upd H1 p o) (p :: own1) where
  nodup := List.nodup_cons.mpr ⟨fun h => (by
    have := w.dom p (w.sub p h)
    rw [hp] at this
    cases this), w.nodup⟩
  sub := fun a h => .inr h
  dom := fun a h => by
    by_cases e : a = p
    · subst e
      rw [upd_same]; rfl
    · rw [upd_ne e]
      refine w.dom a ?_
      rcases h with h | h
      · exact (A.av_ a).mpr (.inl h)
      · rcases List.mem_cons.mp h with z | z
        · exact absurd z e
        · exact (A.av_ a).mpr (.inr z)
theorem keep_new {p : Addr} {o : HO} (A : Adv av H own av1 H1 own1) (hp : H1 p = none) : Keep av1 (drp av own (p :: own1)) H1 (upd H1 p o) where
  own := fun a n h q => by
    rcases q with q | q
    · exact n ((A.av_ a).mpr (.inl q))
    · rcases List.mem_cons.mp q with z | z
      · subst z
        rw [hp] at h; cases h
      · exact n ((A.av_ a).mpr (.inr z))
  at_ := fun a u _ h => Grow.new hp a u h

theorem SR.keep {s : Option V} {o : O} (k : Keep av av' H H') (h : SR K av H s o fp) (f : ∀ a u, a ∈ fp → H a = some u → H' a = some u) : SR K av' H' s o fp := by
  cases h with
  | un => exact .un
  | d r => exact .d (r.keep k)
  | fl e r => exact .fl (f _ _ (by simp) e) (r.keep k)
  | ob e r => exact .ob (f _ _ (by simp) e) (r.keep k)
theorem Slots.keep {σ : L2.St} {env : Ev} (k : Keep av av' H H') : ∀ {σ : L2.St} {env : Ev} {own : List Addr}, Slots K av H σ env own → (∀ a u, a ∈ own → H a = some u → H' a = some u) → Slots K av' H' σ env own
  | _, _, _, .nil, _ => .nil
  | _, _, _, .cons h r, f => .cons (h.keep k fun a u m => f a u (List.mem_append_left _ m)) (Slots.keep (σ := σ) (env := env) k r fun a u m => f a u (List.mem_append_right _ m))
/-- a value left over from an evaluation ahead -/
theorem SR.over {s : Option V} {o : O} (w : OkW av H (fp ++ own)) (A : Adv av H own av' H' own') (h : SR K av H s o fp) : SR K av' H' s o fp :=
  h.keep (A.keep w.tail) fun a u m e => A.ext a u e (w.apart a m)
theorem Slots.grow {σ : L2.St} {env : Ev} (g : Grow H H') (s : ∀ a, av' a → av a) (h : Slots K av H σ env own) : Slots K av' H' σ env own :=
  Slots.keep (σ := σ) (env := env) (Keep.grow g s) h fun a u _ e => g a u e
theorem Slots.length : ∀ {σ : L2.St} {env : Ev} {own : List Addr}, Slots K av H σ env own → σ.length = env.length
  | _, _, _, .nil => rfl
  | _, _, _, .cons _ r => by rw [List.length_cons, List.length_cons, Slots.length r]
theorem Slots.get : ∀ {σ : L2.St} {env : Ev} {own : List Addr} {i : Nat} {o : O}, Slots K av H σ env own → env[i]? = some o → ∃ s fp, σ[i]? = some s ∧ SR K av H s o fp ∧ ∀ a, a ∈ fp → a ∈ own
  | _, _, _, _, _, .nil, e => by simp at e
  | _, _, _, 0, _, .cons h _, e => by
    simp only [List.getElem?_cons_zero, Option.some.injEq] at e
    subst e
    exact ⟨_, _, rfl, h, fun a m => List.mem_append_left _ m⟩
  | _, _, _, i + 1, _, .cons _ r, e => by
    simp only [List.getElem?_cons_succ] at e ⊢
    obtain ⟨s, fp, h1, h2, h3⟩ := Slots.get r e
    exact ⟨s, fp, h1, h2, fun a m => List.mem_append_right _ (h3 a m)⟩
end
end VL

set_option Elab.async false
set_option linter.all false
set_option maxRecDepth 100000
namespace VL
open PySem PySem.Spec PyProof.Rows L2

def ER.bind {α β : Type} (x : ER α) (k : α → ER β) : ER β := match x with
  | .ok a => k a
  | .ex c y e => .ex c y e
  | .st => .st
@[simp] theorem ER.bind_ok {α β : Type} (a : α) (k : α → ER β) : (ER.ok a).bind k = k a := (rfl)
@[simp] theorem ER.bind_ex {α β : Type} (c : Str) (y : D) (e : Ev) (k : α → ER β) : (ER.ex c y e : ER α).bind k = .ex c y e := (rfl)
@[simp] theorem ER.bind_st {α β : Type} (k : α → ER β) : (ER.st : ER α).bind k = .st := (rfl)
/-- an expression, a test -/
abbrev Fe := Ev → ER (O × Ev)
abbrev Ft := Ev → ER (Bool × Ev)

/-- what the heap of a state bears -/
structure Sane (H : Hp) : Prop where
  lst : ∀ a xs, Rd H a (.lst xs) → xs.length ≤ sizeLine
  tup : ∀ a xs, Rd H a (.tup xs) → xs.length ≤ sizeLine
theorem sane_of {X : Cx} {pins : List (Addr × Obj)} {σ : L2.St} {H : Hp} {s : Shared} (I : Inv X pins σ H s) : Sane H :=
  ⟨fun a xs h => by
    obtain ⟨_, _, _, z⟩ := I.list (.inl h)
    exact z, fun a xs h => by
    obtain ⟨_, _, _, z⟩ := I.tuple (.inl h)
    exact z⟩

section
variable (K : PySem.W.Frag) (mg : Str → Option Value) (W : WX)
/-- an exception of the class that is called c, with the value x -/
def XPost (av : Addr → Prop) (H : Hp) (own : List Addr) (σ : L2.St) (c : Str) (x : D) (env' : Ev) : Prop :=
  ∀ (cls : Value) (dd : Addr) (v : V) (H' : Hp) (av' : Addr → Prop) (own' : List Addr), mg c = some cls → Adv av H own av' H' own' → OkW av' H' own' → H' dd = some (.xd [("value", v)]) → RD K av' H' v x → Slots K av' H' σ env' own' → W cls (some dd) σ H'
def EPost (av : Addr → Prop) (H : Hp) (own : List Addr) (σ : L2.St) (Q : VK) : ER (O × Ev) → Prop
  | .ok (o, env') => ∀ (v : V) (H' : Hp) (av' : Addr → Prop) (fp own' : List Addr), Adv av H own av' H' (fp ++ own') → OkW av' H' (fp ++ own') → SR K av' H' (some v) o fp → Slots K av' H' σ env' own' → Q v H'
  | .ex c x env' => XPost K mg W av H own σ c x env'
  | .st => False
def TPost (av : Addr → Prop) (H : Hp) (own : List Addr) (σ : L2.St) (Q : Bool → Hp → Prop) : ER (Bool × Ev) → Prop
  | .ok (b, env') => ∀ (H' : Hp) (av' : Addr → Prop) (own' : List Addr), Adv av H own av' H' own' → OkW av' H' own' → Slots K av' H' σ env' own' → Q b H'
  | .ex c x env' => XPost K mg W av H own σ c x env'
  | .st => False
def tOf (f : Fe) : TE := fun σ H Q => ∃ (env : Ev) (av : Addr → Prop) (own : List Addr), Slots K av H σ env own ∧ OkW av H own ∧ EPost K mg W av H own σ Q (f env)
def tTs (f : Ft) : TT := fun σ H Q => ∃ (env : Ev) (av : Addr → Prop) (own : List Addr), Slots K av H σ env own ∧ OkW av H own ∧ TPost K mg W av H own σ Q (f env)

/-- an operand: an expression, or the name of a slot whose content is only looked at -/
inductive Opd where
  | val (f : Fe) | pk (i : Nat)
inductive Arg where
  | tmp (o : O) | sl (i : Nat)
def tOpd : Opd → TE
  | .val f => tOf K mg W f
  | .pk i => tVar i
def tArg : List Opd → TA
  | [] => tNil
  | a :: as => tCons (tOpd K mg W a) (tArg as)
end
def O.isUn : O → Bool
  | .un => true
  | _ => false
def evA : List Opd → Ev → ER (List Arg × Ev)
  | [], env => .ok ([], env)
  | .val f :: as, env => (f env).bind fun p => (evA as p.2).bind fun q => .ok (.tmp p.1 :: q.1, q.2)
  | .pk i :: as, env => if (env.getD i .un).isUn then .st else (evA as env).bind fun q => .ok (.sl i :: q.1, q.2)
def Arg.look (env : Ev) : Arg → D
  | .tmp o => o.toD
  | .sl i => (env.getD i .un).toD

section
variable {K : PySem.W.Frag} {mg : Str → Option Value} {W : WX} {av av1 : Addr → Prop} {H H1 : Hp} {own own1 t : List Addr} {σ : L2.St}
theorem XPost.step {c : Str} {x : D} {env' : Ev} (w0 : OkW av H own) (w : OkW av1 H1 (t ++ own1)) (A : Adv av H own av1 H1 (t ++ own1)) (h : XPost K mg W av H own σ c x env') : XPost K mg W av1 H1 own1 σ c x env' := by
  intro cls dd v H2 av2 own2 hc B w2 hd hr hs
  have C := Adv.trans (u := []) w0 w A B
  have w3 := OkW.trans (u := []) w B w2
  have C' := Adv.drop (t := t ++ []) C
  exact h cls dd v H2 _ own2 hc C' (OkW.drop C w3) hd (hr.keep (.grow (Grow.refl _) (drp_sub C))) (hs.grow (env := env') (σ := σ) (Grow.refl _) (drp_sub C))

inductive ARep (K : PySem.W.Frag) (av : Addr → Prop) (H : Hp) (σ : L2.St) : List V → List Arg → List Addr → Prop
  | nil : ARep K av H σ [] [] []
  | tmp {v : V} {o : O} {fp t : List Addr} {vs : List V} {as : List Arg} : SR K av H (some v) o fp → ARep K av H σ vs as t → ARep K av H σ (v :: vs) (.tmp o :: as) (fp ++ t)
  | sl {v : V} {i : Nat} {t : List Addr} {vs : List V} {as : List Arg} : σ[i]? = some (some v) → ARep K av H σ vs as t → ARep K av H σ (v :: vs) (.sl i :: as) t
def APost (K : PySem.W.Frag) (mg : Str → Option Value) (W : WX) (av : Addr → Prop) (H : Hp) (own : List Addr) (σ : L2.St) (Q : List V → Hp → Prop) : ER (List Arg × Ev) → Prop
  | .ok (l, env') => ∀ (vs : List V) (H' : Hp) (av' : Addr → Prop) (t own' : List Addr), Adv av H own av' H' (t ++ own') → OkW av' H' (t ++ own') → ARep K av' H' σ vs l t → Slots K av' H' σ env' own' → Q vs H'
  | .ex c x env' => XPost K mg W av H own σ c x env'
  | .st => False

theorem slot_some {env : Ev} {i : Nat} (hs : Slots K av H σ env own) (h : (env.getD i .un).isUn = false) : ∃ v fp, σ[i]? = some (some v) ∧ SR K av H (some v) (env.getD i .un) fp ∧ ∀ a, a ∈ fp → a ∈ own := by
  rw [List.getD_eq_getElem?_getD] at h ⊢
  cases e : env[i]? with
  | none => rw [e] at h; cases h
  | some o =>
    rw [e] at h
    obtain ⟨s, fp, h1, h2, h3⟩ := hs.get e
    simp only [Option.getD_some] at h ⊢
    cases h2 with
    | un => cases h
    | d r => exact ⟨_, _, h1, .d r, h3⟩
    | fl a b => exact ⟨_, _, h1, .fl a b, h3⟩
    | ob a b => exact ⟨_, _, h1, .ob a b, h3⟩

theorem args_ok : ∀ (as : List Opd) {H : Hp} {av : Addr → Prop} {own : List Addr} {env : Ev} {Q : List V → Hp → Prop}, Slots K av H σ env own → OkW av H own → APost K mg W av H own σ Q (evA as env) → tArg K mg W as σ H Q
  | [], H, av, own, env, Q, hs, w, h => h [] H av [] own (Adv.refl w) w .nil hs
  | .pk i :: as, H, av, own, env, Q, hs, w, h => by
    unfold evA at h
    cases hu : (env.getD i .un).isUn with
    | true =>
      rw [hu, if_pos rfl] at h
      exact h.elim
    | false =>
      rw [hu, if_neg Bool.false_ne_true] at h
      obtain ⟨v, fp, e1, _⟩ := slot_some hs hu
      show ∃ v, σ[i]? = some (some v) ∧ tArg K mg W as σ H fun xs H2 => Q (v :: xs) H2
      refine ⟨v, e1, args_ok as hs w ?_⟩
      cases q : evA as env with
      | st => rw [q] at h; exact h
      | ex c x e => rw [q] at h; exact h
      | ok p =>
        obtain ⟨l, env'⟩ := p
        rw [q] at h
        intro vs H' av' t own' A w' hr hs'
        exact h (v :: vs) H' av' t own' A w' (.sl e1 hr) hs'
  | .val f :: as, H, av, own, env, Q, hs, w, h => by
    unfold evA at h
    show tOf K mg W f σ H fun x H1 => tArg K mg W as σ H1 fun xs H2 => Q (x :: xs) H2
    refine ⟨env, av, own, hs, w, ?_⟩
    cases q : f env with
    | st => rw [q] at h; exact h
    | ex c x e => rw [q] at h; exact h
    | ok p =>
      obtain ⟨o, env1⟩ := p
      rw [q] at h
      intro v H1 av1 fp own1 A w1 hr hs1
      refine args_ok as hs1 w1.tail ?_
      have h' : APost K mg W av H own σ Q ((evA as env1).bind fun q => .ok (.tmp o :: q.1, q.2)) := h
      cases q2 : evA as env1 with
      | st => rw [q2] at h'; exact h'
      | ex c x e =>
        rw [q2] at h'
        exact XPost.step w w1 A h'
      | ok p2 =>
        obtain ⟨l, env2⟩ := p2
        rw [q2] at h'
        intro vs H2 av2 t own2 B w2 ha hs2
        exact h' (v :: vs) H2 av2 (fp ++ t) own2 (Adv.trans w w1 A B) (OkW.trans w1 B w2) (.tmp (hr.over w1 B) ha) hs2

/-- data, or a list or instance of one's own whose items are data -/
inductive RV (K : PySem.W.Frag) (av : Addr → Prop) (H : Hp) : V → D → Prop
  | d {v : V} {x : D} : RD K av H v x → RV K av H v x
  | fl {a : Addr} {vs : List V} {ds : List D} : H a = some (.lst vs) → RDs K av H vs ds → RV K av H (.ref a) (.lst ds)
  | ob {a C dx : Addr} {fs : List (Str × V)} {ds : List (Str × D)} : H a = some (.ins C dx fs) → RDf K av H fs ds → RV K av H (.ref a) (.ins C ds)
inductive RVs (K : PySem.W.Frag) (av : Addr → Prop) (H : Hp) : List V → List D → Prop
  | nil : RVs K av H [] []
  | cons {v : V} {d : D} {vs : List V} {ds : List D} : RV K av H v d → RVs K av H vs ds → RVs K av H (v :: vs) (d :: ds)
theorem SR.view {v : V} {o : O} {fp : List Addr} (h : SR K av H (some v) o fp) (hu : o.isUn = false) : RV K av H v o.toD := by
  cases h with
  | un => cases hu
  | d r => exact .d r
  | fl a b => exact .fl a b
  | ob a b => exact .ob a b
/-- operands that are worth something -/
def Arg.good (env : Ev) : Arg → Bool
  | .tmp o => !o.isUn
  | .sl i => !(env.getD i .un).isUn
theorem ARep.view {env : Ev} (hs : Slots K av H σ env own) : ∀ {vs : List V} {l : List Arg} {t : List Addr}, ARep K av H σ vs l t → l.all (Arg.good env) = true → RVs K av H vs (l.map (Arg.look env))
  | _, _, _, .nil, _ => .nil
  | _, _, _, .tmp (o := o) h r, g => by
    rw [List.all_cons, Bool.and_eq_true] at g
    have g1 : (!o.isUn) = true := g.1
    exact .cons (h.view (by simpa using g1)) (ARep.view hs r g.2)
  | _, _, _, .sl (i := i) h r, g => by
    rw [List.all_cons, Bool.and_eq_true] at g
    have g1 : (!(env.getD i .un).isUn) = true := g.1
    have g2 : (env.getD i .un).isUn = false := by simpa using g1
    obtain ⟨v, fp, e1, e2, _⟩ := slot_some hs g2
    rw [h] at e1
    cases e1
    exact .cons (e2.view g2) (ARep.view hs r g.2)

/-- what an operation on values is to reach -/
def Fin (K : PySem.W.Frag) (av : Addr → Prop) (H : Hp) (r : Option O) (Q : VK) : Prop := match r with
  | some (.d z) => ∀ (v : V) (H' : Hp), Grow H H' → RD K av H' v z → Q v H'
  | some (.fl zs) => ∀ (p : Addr) (vs : List V) (H1 : Hp), Grow H H1 → RDs K av H1 vs zs → H1 p = none → Q (.ref p) (upd H1 p (.lst vs))
  | _ => False
def Dom (av : Addr → Prop) (H : Hp) : Prop := ∀ a, av a → (H a).isSome = true
/-- the readings of operations on values -/
def RN (K : PySem.W.Frag) (g : List D → Option O) : List V → Hp → VK → Prop := fun vs H Q => ∃ (av : Addr → Prop) (ds : List D), Dom av H ∧ RVs K av H vs ds ∧ Fin K av H (g ds) Q
def RB (K : PySem.W.Frag) (g : D → D → Option O) : R2 := fun x y H Q => ∃ (av : Addr → Prop) (dx dy : D), Dom av H ∧ RV K av H x dx ∧ RV K av H y dy ∧ Fin K av H (g dx dy) Q
def RU (K : PySem.W.Frag) (g : D → Option O) : V → Hp → VK → Prop := fun x H Q => ∃ (av : Addr → Prop) (dx : D), Dom av H ∧ RV K av H x dx ∧ Fin K av H (g dx) Q
def res (r : Option O) (env : Ev) : ER (O × Ev) := match r with
  | some (.d z) => .ok (.d z, env)
  | some (.fl zs) => .ok (.fl zs, env)
  | _ => .st
def opN (g : List D → Option O) (as : List Opd) : Fe := fun env => (evA as env).bind fun p =>
  if p.1.all (Arg.good p.2) then res (g (p.1.map (Arg.look p.2))) p.2 else .st
theorem opN_ok {g : List D → Option O} {as : List Opd} {Q : VK} (h : tOf K mg W (opN g as) σ H Q) : tArg K mg W as σ H fun vs H1 => RN K g vs H1 Q := by
  obtain ⟨env, av, own, hs, w, h⟩ := h
  refine args_ok as hs w ?_
  unfold opN at h
  cases q : evA as env with
  | st => rw [q] at h; exact h
  | ex c x e => rw [q] at h; exact h
  | ok p =>
    obtain ⟨l, env'⟩ := p
    rw [q] at h
    intro vs H1 av1 t own1 A w1 ha hs1
    have h' : EPost K mg W av H own σ Q (if l.all (Arg.good env') then res (g (l.map (Arg.look env'))) env' else .st) := h
    cases hg : l.all (Arg.good env') with
    | false => rw [hg, if_neg Bool.false_ne_true] at h'; exact h'.elim
    | true =>
      rw [hg, if_pos rfl] at h'
      refine ⟨av1, _, w1.dom, ha.view hs1 hg, ?_⟩
      cases hr : g (l.map (Arg.look env')) with
      | none => rw [hr] at h'; exact h'.elim
      | some o =>
        rw [hr] at h'
        have A2 := Adv.drop A
        have w2 := OkW.drop A w1
        have s2 := drp_sub A
        cases o with
        | un => exact h'.elim
        | ob C fs => exact h'.elim
        | d z =>
          intro v H' gr r
          exact h' v H' _ [] own1 (A2.grow gr) (w2.grow gr) (.d (r.keep (.grow (Grow.refl _) s2))) (hs1.grow (σ := σ) (env := env') gr s2)
        | fl zs =>
          intro p vs' H2 gr r hp
          have A3 := A2.grow gr
          have w3 := w2.grow gr
          refine h' (.ref p) (upd H2 p (.lst vs')) _ [p] own1 (A3.new hp) (w3.new A3 hp) (.fl upd_same ?_) ?_
          · exact (r.keep (.grow (Grow.refl _) s2)).keep (keep_new A3 hp)
          · exact Slots.keep (σ := σ) (env := env') (keep_new A3 hp) (hs1.grow (σ := σ) (env := env') gr s2) fun a u _ e => Grow.new hp a u e
end
end VL

set_option Elab.async false
set_option linter.all false
set_option maxRecDepth 100000
namespace VL
open PySem PySem.Spec PyProof.Rows L2

section
variable {K : PySem.W.Frag} {av : Addr → Prop} {H H' : Hp}
theorem RV.int {v : V} {i : Int} (h : RV K av H v (.int i)) : v = .int i := by cases h with | d r => cases r; rfl
theorem RV.bl {v : V} {i : Bool} (h : RV K av H v (.bl i)) : v = .bl i := by cases h with | d r => cases r; rfl
theorem RV.non {v : V} (h : RV K av H v .non) : v = .non := by cases h with | d r => cases r; rfl
theorem RV.str {v : V} {i : Str} (h : RV K av H v (.str i)) : v = .str i := by cases h with | d r => cases r; rfl
theorem RV.ty {v : V} {n : String} (h : RV K av H v (.ty n)) : v = .ty n := by cases h with | d r => cases r; rfl
theorem RV.lst {v : V} {ds : List D} (h : RV K av H v (.lst ds)) : ∃ a vs, v = .ref a ∧ H a = some (.lst vs) ∧ RDs K av H vs ds := by
  cases h with
  | d r => cases r with | lst n e r => exact ⟨_, _, rfl, e, r⟩
  | fl e r => exact ⟨_, _, rfl, e, r⟩
/-- the items of a list, the script too -/
def D.seqL : D → Option (List D)
  | .lst xs => some xs
  | .scr xs => some xs
  | _ => none
theorem RV.seqL {v : V} {d : D} {ds : List D} (h : RV K av H v d) (e : d.seqL = some ds) : ∃ a vs, v = .ref a ∧ SqL K H a vs ∧ RDs K av H vs ds := by
  cases d <;> simp only [D.seqL, Option.some.injEq, reduceCtorEq] at e
  · subst e
    obtain ⟨a, vs, h1, h2, h3⟩ := h.lst
    exact ⟨a, vs, h1, SqL.of h2, h3⟩
  · subst e
    cases h with
    | d r => cases r with
      | scr n e r => exact ⟨_, _, rfl, .inl e, r⟩
      | kscr e r => exact ⟨_, _, rfl, .inr e, r⟩
theorem RV.tup {v : V} {ds : List D} (h : RV K av H v (.tup ds)) : ∃ a vs, v = .ref a ∧ SqT K H a vs ∧ RDs K av H vs ds := by
  cases h with
  | d r => cases r with
    | tup n e r => exact ⟨_, _, rfl, SqT.of e, r⟩
    | ktup e r => exact ⟨_, _, rfl, .inr e, r⟩
theorem RV.tupD {v : V} {ds : List D} (h : RV K av H v (.tup ds)) : RD K av H v (.tup ds) := by cases h with | d r => exact r
theorem RVs.one {vs : List V} {d : D} (h : RVs K av H vs [d]) : ∃ v, vs = [v] ∧ RV K av H v d := by
  cases h with | cons a b => cases b; exact ⟨_, rfl, a⟩
theorem RVs.two {vs : List V} {d e : D} (h : RVs K av H vs [d, e]) : ∃ v w, vs = [v, w] ∧ RV K av H v d ∧ RV K av H w e := by
  cases h with | cons a b => cases b with | cons b c => cases c; exact ⟨_, _, rfl, a, b⟩
theorem RVs.three {vs : List V} {d e f : D} (h : RVs K av H vs [d, e, f]) : ∃ v w x, vs = [v, w, x] ∧ RV K av H v d ∧ RV K av H w e ∧ RV K av H x f := by
  cases h with | cons a b => cases b with | cons b c => cases c with | cons c d => cases d; exact ⟨_, _, _, rfl, a, b, c⟩
/-- the end with data without addresses -/
theorem Fin.bl {Q : VK} {b : Bool} (h : Fin K av H (some (.d (.bl b))) Q) : Q (.bl b) H := h _ H (Grow.refl H) (.bl b)
theorem Fin.int {Q : VK} {i : Int} (h : Fin K av H (some (.d (.int i))) Q) : Q (.int i) H := h _ H (Grow.refl H) (.int i)
theorem Fin.str {Q : VK} {i : Str} (h : Fin K av H (some (.d (.str i))) Q) : Q (.str i) H := h _ H (Grow.refl H) (.str i)
theorem Fin.non {Q : VK} (h : Fin K av H (some (.d .non)) Q) : Q .non H := h _ H (Grow.refl H) .non
theorem Fin.data {Q : VK} {v : V} {x : D} (h : Fin K av H (some (.d x)) Q) (r : RD K av H v x) : Q v H := h _ H (Grow.refl H) r
theorem Fin.list {Q : VK} {ds : List D} {vs : List V} (h : Fin K av H (some (.fl ds)) Q) (r : RDs K av H vs ds) : ∀ p, H p = none → Q (.ref p) (upd H p (.lst vs)) := fun p hp => h p vs H (Grow.refl H) r hp
theorem Fin.tuple {Q : VK} {ds : List D} {vs : List V} (dm : Dom av H) (h : Fin K av H (some (.d (.tup ds))) Q) (r : RDs K av H vs ds) : ∀ p, H p = none → Q (.ref p) (upd H p (.tup vs)) := fun p hp => by
  refine h (.ref p) _ (Grow.new hp) (.tup (fun z => ?_) upd_same (r.keep (.grow (Grow.new hp) fun _ z => z)))
  have := dm p z
  rw [hp] at this; cases this
end

/-- in the rules of operations the heap is sane -/
theorem opR_sane {X : Cx} {f : Value → Value → Sem Value} {r r' : R2} (h : OpR X f r) (i : ∀ x y H Q, Sane H → r' x y H Q → r x y H Q) : OpR X f r' := fun pins s σ H x y v u Q I rx ry q =>
  h pins s σ H x y v u Q I rx ry (i x y H Q (sane_of I) q)
theorem unR_sane {X : Cx} {f : Value → Sem Value} {r r' : V → Hp → VK → Prop} (h : UnR X f r) (i : ∀ x H Q, Sane H → r' x H Q → r x H Q) : UnR X f r' := fun pins s σ H x v Q I rx q =>
  h pins s σ H x v Q I rx (i x H Q (sane_of I) q)
theorem callR_sane {X : Cx} {f : Value} {r r' : List V → Hp → VK → Prop} (h : CallR X f r) (i : ∀ vs H Q, Sane H → r' vs H Q → r vs H Q) : CallR X f r' := fun pins s σ H xs us Q I rx q =>
  h pins s σ H xs us Q I rx (i xs H Q (sane_of I) q)
theorem ixR_sane {X : Cx} {r r' : R2} (h : IxR X r) (i : ∀ x y H Q, Sane H → r' x y H Q → r x y H Q) : IxR X r' := fun value slice pins s σ H x y v u Q I rx ry q e =>
  h value slice pins s σ H x y v u Q I rx ry (i x y H Q (sane_of I) q) e
theorem slR_sane {X : Cx} {r r' : V → Option Int → Option Int → Hp → VK → Prop} (h : SlR X r) (i : ∀ x a b H Q, Sane H → r' x a b H Q → r x a b H Q) : SlR X r' := by
  unfold SlR at *
  intros
  apply h <;> first | assumption | skip
  apply i <;> first | assumption | exact sane_of (by assumption)
theorem mtR_sane {X : Cx} {id : String} {r r' : V → List V → Hp → VK → Prop} (h : MtR X id r) (i : ∀ x xs H Q, Sane H → r' x xs H Q → r x xs H Q) : MtR X id r' := by
  unfold MtR at *
  intros
  apply h <;> first | assumption | skip
  apply i <;> first | assumption | exact sane_of (by assumption)

def addD : D → D → Option O
  | .int i, .int j => some (.d (.int (i + j)))
  | .int i, .bl b => some (.d (.int (i + b2i b)))
  | .str x, .str y => if x.length + y.length ≤ 16777216 then some (.d (.str (x ++ y))) else none
  | .lst xs, .lst ys => if xs.length + ys.length ≤ 16777216 then some (.fl (xs ++ ys)) else none
  | .tup xs, .tup ys => if xs.length + ys.length ≤ 16777216 then some (.d (.tup (xs ++ ys))) else none
  | _, _ => none
def subD : D → D → Option O
  | .int i, .int j => some (.d (.int (i - j)))
  | _, _ => none
def mulOk (i j : Int) : Bool := (decide (i.natAbs < 2 ^ 64) || decide (j.natAbs < 2 ^ 64)) || decide (i.natAbs.log2 + j.natAbs.log2 < 1000000)
def mulD : D → D → Option O
  | .int i, .int j => if mulOk i j then some (.d (.int (i * j))) else none
  | _, _ => none
def fdivD : D → D → Option O
  | .int i, .int j => if 0 < j ∧ j.natAbs.log2 < 9000 then some (.d (.int (i / j))) else none
  | _, _ => none
def modD : D → D → Option O
  | .int i, .int j => if 0 < j then some (.d (.int (i % j))) else none
  | _, _ => none
def powD : D → D → Option O
  | .int i, .int j => if 0 ≤ j ∧ j ≤ 1000 ∧ i.natAbs < 2 ^ 1000 then some (.d (.int (i ^ j.toNat))) else none
  | _, _ => none
def negD : D → Option O
  | .int i => some (.d (.int (-i)))
  | _ => none
section
variable {X : Cx}
theorem line_eq : sizeLine = 16777216 := sizeLine_eq
theorem log2_lt {n k : Nat} (h : n < 2 ^ k) (hk : 0 < k) : n.log2 < k := by
  rcases Nat.eq_zero_or_pos n with h0 | hp
  · subst h0
    rw [Nat.log2_zero]
    exact hk
  · exact (Nat.log2_lt (Nat.ne_of_gt hp)).mpr h
theorem mulOk_ok {i j : Int} (h : mulOk i j = true) : PySem.IntMulOk i j := by
  unfold mulOk at h
  rw [Bool.or_eq_true, Bool.or_eq_true, decide_eq_true_iff, decide_eq_true_iff, decide_eq_true_iff] at h
  rcases h with (h | h) | h
  · exact .of_left (PySem.intBits_le_64 (by omega) (by omega))
  · exact .of_right (PySem.intBits_le_64 (by omega) (by omega))
  · exact CMulW.ok h
theorem op_addD : OpR X (binaryOp .Add) (RB X.K addD) := by
  refine opR_sane (OpR.or op_add (OpR.or op_add_ib (OpR.or op_add_str (OpR.or op_cat op_catA)))) fun x y H Q sn h => ?_
  obtain ⟨av, dx, dy, dm, hx, hy, f⟩ := h
  unfold addD at f
  split at f
  · rw [hx.int, hy.int]
    exact .inl ⟨_, _, rfl, rfl, f.int⟩
  · rw [hx.int, hy.bl]
    exact .inr (.inl ⟨_, _, rfl, rfl, f.int⟩)
  · split at f
    · rename_i hz
      rw [hx.str, hy.str]
      exact .inr (.inr (.inl ⟨_, _, rfl, rfl, by rw [line_eq]; exact hz, f.str⟩))
    · exact f.elim
  · split at f
    · rename_i hz
      obtain ⟨a, vs, rfl, e1, r1⟩ := hx.lst
      obtain ⟨b, ws, rfl, e2, r2⟩ := hy.lst
      refine .inr (.inr (.inr (.inl ⟨a, b, vs, ws, rfl, rfl, e1, e2, ?_, f.list (r1.append r2)⟩)))
      rw [r1.length, r2.length, line_eq]
      exact hz
    · exact f.elim
  · split at f
    · rename_i hz
      obtain ⟨a, vs, rfl, e1, r1⟩ := hx.tup
      obtain ⟨b, ws, rfl, e2, r2⟩ := hy.tup
      refine .inr (.inr (.inr (.inr ?_)))
      have hl : vs.length + ws.length ≤ sizeLine := by
        rw [r1.length, r2.length, line_eq]
        exact hz
      refine ⟨a, b, vs, ws, rfl, rfl, e1, e2, hl, fun z => ?_, fun _ z => ?_, fun _ _ => f.tuple dm (r1.append r2)⟩
      · subst z
        cases r1
        exact f.data hy.tupD
      · subst z
        cases r2
        rw [List.append_nil] at f
        exact f.data hx.tupD
    · exact f.elim
  · exact f.elim
theorem op_subD : OpR X (binaryOp .Sub) (RB X.K subD) := by
  refine opR_sane op_sub fun x y H Q sn h => ?_
  obtain ⟨av, dx, dy, dm, hx, hy, f⟩ := h
  unfold subD at f
  split at f
  · rw [hx.int, hy.int]
    exact ⟨_, _, rfl, rfl, f.int⟩
  · exact f.elim
theorem op_mulI : OpR X (binaryOp .Mult) (rI (fun i j => mulOk i j = true) fun i j => .int (i * j)) := opI fun _ _ _ _ _ _ _ hc q => PyProof.Rows.mul_int q (mulOk_ok hc)
theorem op_mulD : OpR X (binaryOp .Mult) (RB X.K mulD) := by
  refine opR_sane op_mulI fun x y H Q sn h => ?_
  obtain ⟨av, dx, dy, dm, hx, hy, f⟩ := h
  unfold mulD at f
  split at f
  · split at f
    · rename_i hm
      rw [hx.int, hy.int]
      exact ⟨_, _, rfl, rfl, hm, f.int⟩
    · exact f.elim
  · exact f.elim
theorem op_fdivD : OpR X (binaryOp .FloorDiv) (RB X.K fdivD) := by
  refine opR_sane op_fdivW fun x y H Q sn h => ?_
  obtain ⟨av, dx, dy, dm, hx, hy, f⟩ := h
  unfold fdivD at f
  split at f
  · split at f
    · rename_i hm
      rw [hx.int, hy.int]
      exact ⟨_, _, rfl, rfl, hm, f.int⟩
    · exact f.elim
  · exact f.elim
theorem op_modD : OpR X (binaryOp .Mod) (RB X.K modD) := by
  refine opR_sane op_mod fun x y H Q sn h => ?_
  obtain ⟨av, dx, dy, dm, hx, hy, f⟩ := h
  unfold modD at f
  split at f
  · split at f
    · rename_i hm
      rw [hx.int, hy.int]
      exact ⟨_, _, rfl, rfl, hm, f.int⟩
    · exact f.elim
  · exact f.elim
theorem powBits {i j : Int} (h0 : 0 ≤ j) (h1 : j ≤ 1000) (h2 : i.natAbs < 2 ^ 1000) : (Builtin.Int.intBits i : Int) * j ≤ 2 ^ 27 := by
  have hb : Builtin.Int.intBits i ≤ 1000 := by
    unfold Builtin.Int.intBits
    split
    · exact Nat.zero_le _
    · have := log2_lt h2 (by decide)
      omega
  have : (Builtin.Int.intBits i : Int) * j ≤ 1000 * 1000 := Int.mul_le_mul (by omega) h1 h0 (by decide)
  have z : (1000 : Int) * 1000 ≤ 2 ^ 27 := by decide
  omega
theorem op_powI : OpR X (binaryOp .Pow) (rI (fun i j => 0 ≤ j ∧ j ≤ 1000 ∧ i.natAbs < 2 ^ 1000) fun i j => .int (i ^ j.toNat)) := opI fun _ _ _ _ _ _ _ hc q => PyProof.Rows.pow_int hc.1 (powBits hc.1 hc.2.1 hc.2.2) q
theorem op_powD : OpR X (binaryOp .Pow) (RB X.K powD) := by
  refine opR_sane op_powI fun x y H Q sn h => ?_
  obtain ⟨av, dx, dy, dm, hx, hy, f⟩ := h
  unfold powD at f
  split at f
  · split at f
    · rename_i hm
      rw [hx.int, hy.int]
      exact ⟨_, _, rfl, rfl, hm, f.int⟩
    · exact f.elim
  · exact f.elim
theorem un_negD : UnR X (unaryOp .USub) (RU X.K negD) := by
  refine unR_sane un_neg fun x H Q sn h => ?_
  obtain ⟨av, dx, dm, hx, f⟩ := h
  unfold negD at f
  split at f
  · rw [hx.int]
    exact ⟨_, rfl, f.int⟩
  · exact f.elim

end
section
variable {K : PySem.W.Frag} {av : Addr → Prop} {H H' : Hp}
theorem nolay {d : PyData} {ds : List (PyData × PyData)} (e : d = .dict ds) (h : d.canLay0 = true) : False := by
  subst e
  simp [PyData.canLay0] at h
mutual
theorem RD.dp : ∀ {v : V} {d : D}, RD K av H v d → d.py.canLay0 = true → Dp K H v d.py
  | _, _, .non, _ => by rw [D.py]; exact .non
  | _, _, .bl b, _ => by rw [D.py]; exact .bl b
  | _, _, .int i, _ => by rw [D.py]; exact .int i
  | _, _, .str x, _ => by rw [D.py]; exact .str x
  | _, _, .ref a, h => (nolay (by rw [D.py]) h).elim
  | _, _, .ty n, h => (nolay (by rw [D.py]) h).elim
  | _, _, .dk _ _ _, h => (nolay (by rw [D.py]) h).elim
  | _, _, .dt _ _ _, h => (nolay (by rw [D.py]) h).elim
  | _, _, .ins _ _ _, h => (nolay (by rw [D.py]) h).elim
  | _, _, .lst n e r, h => by
    rw [D.py] at h ⊢
    exact .lst (SqL.of e) (RDs.dp r (by simpa [PyData.canLay0] using h))
  | _, _, .scr n e r, h => by
    rw [D.py] at h ⊢
    exact .lst (.inl e) (RDs.dp r (by simpa [PyData.canLay0] using h))
  | _, _, .kscr e r, h => by
    rw [D.py] at h ⊢
    exact .lst (.inr e) (RDs.dp r (by simpa [PyData.canLay0] using h))
  | _, _, .tup n e r, h => by
    rw [D.py] at h ⊢
    exact .tup (SqT.of e) (RDs.dp r (by simpa [PyData.canLay0] using h))
  | _, _, .ktup e r, h => by
    rw [D.py] at h ⊢
    exact .tup (.inr e) (RDs.dp r (by simpa [PyData.canLay0] using h))
theorem RDs.dp : ∀ {v : List V} {d : List D}, RDs K av H v d → PyData.canLayAll0 (D.pys d) = true → DpAll K H v (D.pys d)
  | _, _, .nil, _ => by rw [D.pys]; exact .nil
  | _, _, .cons h r, q => by
    rw [D.pys] at q ⊢
    rw [PyData.canLayAll0, Bool.and_eq_true] at q
    exact .cons (RD.dp h q.1) (RDs.dp r q.2)
end
theorem RV.dp {v : V} {d : D} (h : RV K av H v d) (q : d.py.canLay0 = true) : Dp K H v d.py := by
  cases h with
  | d r => exact r.dp q
  | fl e r =>
    rw [D.py] at q ⊢
    exact .lst (SqL.of e) (r.dp (by simpa [PyData.canLay0] using q))
  | ob e r => exact (nolay (by rw [D.py]) q).elim
end
def eqD (x y : D) : Option O := if SeqAt.shaped x.py && SeqAt.shaped y.py then some (.d (.bl (PyData.eqv x.py y.py))) else none
def neD (x y : D) : Option O := if SeqAt.shaped x.py && SeqAt.shaped y.py then some (.d (.bl (!PyData.eqv x.py y.py))) else none
def cmpI (p : Int → Int → Bool) : D → D → Option O
  | .int i, .int j => some (.d (.bl (p i j)))
  | _, _ => none
/-- int among ints, text among texts -/
def ltD : D → D → Option O
  | .int i, .int j => some (.d (.bl (decide (i < j))))
  | .str x, .str y => some (.d (.bl (decide (x.cps.toList < y.cps.toList))))
  | _, _ => none
def D.isNon : D → Bool
  | .non => true
  | _ => false
def isNonD (x : D) : D → Option O
  | .non => some (.d (.bl x.isNon))
  | _ => none
def notNonD (x : D) : D → Option O
  | .non => some (.d (.bl (!x.isNon)))
  | _ => none
section
variable {X : Cx}
theorem op_eqDD (hu : X.A.units + 64 < cLine) : OpR X (compareOp .Eq) (RB X.K eqD) := by
  refine opR_sane (op_eqD hu) fun x y H Q sn h => ?_
  obtain ⟨av, dx, dy, dm, hx, hy, f⟩ := h
  unfold eqD at f
  split at f
  · rename_i hs
    rw [Bool.and_eq_true] at hs
    exact ⟨_, _, hx.dp (SeqAt.canLay_of_shaped hs.1), hy.dp (SeqAt.canLay_of_shaped hs.2), hs.1, hs.2, f.bl⟩
  · exact f.elim
theorem op_neDD (hu : X.A.units + 64 < cLine) : OpR X (compareOp .NotEq) (RB X.K neD) := by
  refine opR_sane (op_neD hu) fun x y H Q sn h => ?_
  obtain ⟨av, dx, dy, dm, hx, hy, f⟩ := h
  unfold neD at f
  split at f
  · rename_i hs
    rw [Bool.and_eq_true] at hs
    exact ⟨_, _, hx.dp (SeqAt.canLay_of_shaped hs.1), hy.dp (SeqAt.canLay_of_shaped hs.2), hs.1, hs.2, f.bl⟩
  · exact f.elim
theorem op_cmpI {op : CmpOp} {p : Int → Int → Bool} (ho : OpR X (compareOp op) (rI0 fun i j => .bl (p i j))) : OpR X (compareOp op) (RB X.K (cmpI p)) := by
  refine opR_sane ho fun x y H Q sn h => ?_
  obtain ⟨av, dx, dy, dm, hx, hy, f⟩ := h
  unfold cmpI at f
  split at f
  · rw [hx.int, hy.int]
    exact ⟨_, _, rfl, rfl, f.bl⟩
  · exact f.elim
theorem op_leD : OpR X (compareOp .LtE) (RB X.K (cmpI fun i j => decide (i ≤ j))) := op_cmpI op_le
theorem op_gtD : OpR X (compareOp .Gt) (RB X.K (cmpI fun i j => decide (j < i))) := op_cmpI op_gt
theorem op_geD : OpR X (compareOp .GtE) (RB X.K (cmpI fun i j => decide (j ≤ i))) := op_cmpI op_ge
theorem op_ltD : OpR X (compareOp .Lt) (RB X.K ltD) := by
  refine opR_sane (OpR.or op_lt op_lt_str) fun x y H Q sn h => ?_
  obtain ⟨av, dx, dy, dm, hx, hy, f⟩ := h
  unfold ltD at f
  split at f
  · rw [hx.int, hy.int]
    exact .inl ⟨_, _, rfl, rfl, f.bl⟩
  · rw [hx.str, hy.str]
    exact .inr ⟨_, _, rfl, rfl, f.bl⟩
  · exact f.elim
theorem rv_non {K : PySem.W.Frag} {av : Addr → Prop} {H : Hp} {v : V} {d : D} (h : RV K av H v d) : decide (v = .non) = d.isNon := by
  cases h with
  | d r => cases r <;> simp [D.isNon]
  | fl e r => simp [D.isNon]
  | ob e r => simp [D.isNon]
theorem op_isNonD : OpR X (compareOp .Is) (RB X.K isNonD) := by
  refine opR_sane op_isN fun x y H Q sn h => ?_
  obtain ⟨av, dx, dy, dm, hx, hy, f⟩ := h
  unfold isNonD at f
  split at f
  · refine ⟨hy.non, ?_⟩
    rw [rv_non hx]
    exact f.bl
  · exact f.elim
theorem op_notNonD : OpR X (compareOp .IsNot) (RB X.K notNonD) := by
  refine opR_sane op_notN fun x y H Q sn h => ?_
  obtain ⟨av, dx, dy, dm, hx, hy, f⟩ := h
  unfold notNonD at f
  split at f
  · refine ⟨hy.non, ?_⟩
    rw [rv_non hx]
    exact f.bl
  · exact f.elim
end

def tyName : D → Option String
  | .non => some "NoneType"
  | .bl _ => some "bool"
  | .int _ => some "int"
  | .str _ => some "str"
  | .lst _ => some "list"
  | .scr _ => some "list"
  | .tup _ => some "tuple"
  | .dk _ => some "dict"
  | .dt _ => some "dict"
  | _ => none
def kinds : List String := ["int", "bool", "str", "list", "tuple", "dict"]
/-- a is b or below it -/
def subTy (a b : String) : Bool := a == b || (a == "bool" && b == "int")
theorem kit_all : (["NoneType", "bool", "int", "str", "list", "tuple", "dict"].all fun a => kinds.all fun b => decide (kitB a b = some (subTy a b))) = true := by decide +kernel
theorem tyName_in {d : D} {a : String} (h : tyName d = some a) : a ∈ ["NoneType", "bool", "int", "str", "list", "tuple", "dict"] := by
  cases d <;> simp only [tyName, Option.some.injEq, reduceCtorEq] at h <;> subst h <;> simp
theorem kit_sub {K : PySem.W.Frag} {d : D} {a b : String} (h : tyName d = some a) (hb : kinds.contains b = true) : PySem.W.kitOne K (.type a) (.type b) = some (subTy a b) := by
  have h1 := List.all_eq_true.mp kit_all a (tyName_in h)
  have h2 := List.all_eq_true.mp h1 b (List.contains_iff_mem.mp hb)
  exact kit_ty (of_decide_eq_true h2)
def tyStr : D → Option String
  | .ty n => some n
  | _ => none
def isiD (ds : List D) : Option O := match ds with
  | [x, .ty t] => match tyName x with
    | some a => if kinds.contains t then some (.d (.bl (subTy a t))) else none
    | none => none
  | [x, .tup [.ty t, .ty u]] => match tyName x with
    | some a => if kinds.contains t && kinds.contains u then some (.d (.bl (subTy a t || subTy a u))) else none
    | none => none
  | _ => none
section
variable {X : Cx}
theorem RV.tyx {K : PySem.W.Frag} {av : Addr → Prop} {H : Hp} {v : V} {d : D} {a : String} (h : RV K av H v d) (e : tyName d = some a) : TyX K H v (.type a) := by
  cases h with
  | fl e1 r =>
    simp only [tyName, Option.some.injEq] at e
    subst e
    exact .base (.lst e1)
  | ob e1 r => simp only [tyName, reduceCtorEq] at e
  | d r =>
    cases r <;> simp only [tyName, Option.some.injEq, reduceCtorEq] at e <;> subst e
    · exact .base .non
    · exact .base (.bl _)
    · exact .base (.int _)
    · exact .base (.str _)
    · rename_i e1 _
      exact .base (.lst e1)
    · rename_i e1 _
      rcases e1 with e1 | ⟨o, e1⟩
      · exact .base (.lst e1)
      · exact .base (.frz e1)
    · rename_i e1 _
      obtain ⟨o, its, n, h1, h2, _⟩ := e1
      exact .kList h1 h2
    · rename_i e1 _
      exact .base (.tup e1)
    · rename_i e1 _
      obtain ⟨o, its, n, h1, h2, _⟩ := e1
      exact .kTuple h1 h2
    · rename_i e1 _
      exact .base (.dK e1)
    · rename_i e1 _
      exact .base (.dT e1)
theorem cr_isi : CallR X (.builtin "isinstance") (RN X.K isiD) := by
  refine callR_sane (CallR.or call_isi (CallR.or call_isiT call_isiK)) fun vs H Q sn h => ?_
  obtain ⟨av, ds, dm, hv, f⟩ := h
  unfold isiD at f
  split at f
  · rename_i x t
    split at f
    · rename_i a ea
      split at f
      · rename_i hk
        obtain ⟨v, w, rfl, h1, h2⟩ := hv.two
        rw [h2.ty]
        exact .inl ⟨v, .ty t, .type a, .type t, _, rfl, .ty t, h1.tyx ea, kit_sub ea hk, f.bl⟩
      · exact f.elim
    · exact f.elim
  · rename_i x t u
    split at f
    · rename_i a ea
      split at f
      · rename_i hk
        rw [Bool.and_eq_true] at hk
        obtain ⟨v, w, rfl, h1, h2⟩ := hv.two
        have ka : PySem.W.kitAny X.K (.type a) [.type t, .type u] = some (subTy a t || subTy a u) := by
          refine kitAny_cons (kit_sub ea hk.1) (fun e => ?_) fun e => by rw [e, Bool.true_or]
          rw [e, Bool.false_or]
          exact kitAny_cons (kit_sub ea hk.2) (fun e => by rw [e]; exact kitAny_nil) fun e => e
        have two : ∀ {ws : List V}, RDs X.K av H ws [.ty t, .ty u] → ws = [.ty t, .ty u] := fun r => by
          cases r with | cons a b => cases b with | cons b c => cases c; cases a; cases b; rfl
        cases h2.tupD with
        | tup n e r =>
          rw [two r] at e
          exact .inr (.inl ⟨v, _, [.ty t, .ty u], .type a, [.type t, .type u], _, rfl, e, .cons (.ty t) (.cons (.ty u) .nil), h1.tyx ea, ka, f.bl⟩)
        | ktup e r =>
          rw [two r] at e
          obtain ⟨⟨oc, od, dt, sl⟩, its, n, k1, k2, k3, _, k5⟩ := e
          simp only at k2 k3
          subst k2 k3
          have e5 : its.toList = [.type t, .type u] := by
            cases hl : its.toList with
            | nil => rw [hl] at k5; cases k5
            | cons p ps =>
              rw [hl] at k5
              cases k5 with | cons a b => cases b with | cons b c => cases c; cases a; cases b; rfl
          have e6 : its = [Value.type t, Value.type u].toArray := by
            rw [← e5]
          rw [e6] at k1
          exact .inr (.inr ⟨v, _, od, [.type t, .type u], n, sl, .type a, _, rfl, k1, h1.tyx ea, ka, f.bl⟩)
      · exact f.elim
    · exact f.elim
  · exact f.elim
end
end VL

set_option Elab.async false
set_option linter.all false
set_option maxRecDepth 100000
namespace VL
open PySem PySem.Spec PyProof.Rows L2

def intsOf : List D → Option (List Int)
  | [] => some []
  | .int i :: xs => (intsOf xs).map (i :: ·)
  | _ :: _ => none
def strsOf : List D → Option (List Str)
  | [] => some []
  | .str i :: xs => (strsOf xs).map (i :: ·)
  | _ :: _ => none
def blsOf : List D → Option (List Bool)
  | [] => some []
  | .bl i :: xs => (blsOf xs).map (i :: ·)
  | _ :: _ => none
@[simp] theorem intsOf_map : ∀ ns : List Int, intsOf (ns.map D.int) = some ns
  | [] => rfl
  | n :: ns => by rw [List.map_cons, intsOf, intsOf_map ns]; rfl
@[simp] theorem strsOf_map : ∀ ns : List Str, strsOf (ns.map D.str) = some ns
  | [] => rfl
  | n :: ns => by rw [List.map_cons, strsOf, strsOf_map ns]; rfl
@[simp] theorem blsOf_map : ∀ ns : List Bool, blsOf (ns.map D.bl) = some ns
  | [] => rfl
  | n :: ns => by rw [List.map_cons, blsOf, blsOf_map ns]; rfl
theorem intsOf_eq : ∀ {ds : List D} {ns : List Int}, intsOf ds = some ns → ds = ns.map D.int
  | [], ns, h => by
    cases h
    rfl
  | d :: ds, ns, h => by
    cases d <;> simp only [intsOf, reduceCtorEq] at h
    rename_i i
    cases q : intsOf ds with
    | none => rw [q] at h; cases h
    | some ms =>
      rw [q] at h
      cases h
      rw [List.map_cons, ← intsOf_eq q]
theorem strsOf_eq : ∀ {ds : List D} {ns : List Str}, strsOf ds = some ns → ds = ns.map D.str
  | [], ns, h => by
    cases h
    rfl
  | d :: ds, ns, h => by
    cases d <;> simp only [strsOf, reduceCtorEq] at h
    rename_i i
    cases q : strsOf ds with
    | none => rw [q] at h; cases h
    | some ms =>
      rw [q] at h
      cases h
      rw [List.map_cons, ← strsOf_eq q]
theorem blsOf_eq : ∀ {ds : List D} {ns : List Bool}, blsOf ds = some ns → ds = ns.map D.bl
  | [], ns, h => by
    cases h
    rfl
  | d :: ds, ns, h => by
    cases d <;> simp only [blsOf, reduceCtorEq] at h
    rename_i i
    cases q : blsOf ds with
    | none => rw [q] at h; cases h
    | some ms =>
      rw [q] at h
      cases h
      rw [List.map_cons, ← blsOf_eq q]
section
variable {K : PySem.W.Frag} {av : Addr → Prop} {H H' : Hp}
theorem RDs.ints : ∀ {vs : List V} {ns : List Int}, RDs K av H vs (ns.map D.int) → vs = ns.map V.int
  | _, [], .nil => rfl
  | _, n :: ns, h => by
    rw [List.map_cons] at h
    cases h with | cons a b =>
      cases a
      rw [List.map_cons, RDs.ints b]
theorem RDs.strs : ∀ {vs : List V} {ns : List Str}, RDs K av H vs (ns.map D.str) → vs = ns.map V.str
  | _, [], .nil => rfl
  | _, n :: ns, h => by
    rw [List.map_cons] at h
    cases h with | cons a b =>
      cases a
      rw [List.map_cons, RDs.strs b]
theorem RDs.bls : ∀ {vs : List V} {ns : List Bool}, RDs K av H vs (ns.map D.bl) → vs = ns.map V.bl
  | _, [], .nil => rfl
  | _, n :: ns, h => by
    rw [List.map_cons] at h
    cases h with | cons a b =>
      cases a
      rw [List.map_cons, RDs.bls b]
theorem RDs.ofInts : ∀ ns : List Int, RDs K av H (ns.map V.int) (ns.map D.int)
  | [] => .nil
  | n :: ns => .cons (.int n) (RDs.ofInts ns)
theorem RDs.ofStrs : ∀ ns : List Str, RDs K av H (ns.map V.str) (ns.map D.str)
  | [] => .nil
  | n :: ns => .cons (.str n) (RDs.ofStrs ns)
/-- the items of a list or a tuple -/
def D.seq : D → Option (List D)
  | .lst xs => some xs
  | .scr xs => some xs
  | .tup xs => some xs
  | _ => none
theorem RV.seq {v : V} {d : D} {ds : List D} (h : RV K av H v d) (e : d.seq = some ds) : ∃ a vs, v = .ref a ∧ (SqL K H a vs ∨ SqT K H a vs) ∧ RDs K av H vs ds := by
  cases d <;> simp only [D.seq, Option.some.injEq, reduceCtorEq] at e <;> subst e
  · obtain ⟨a, vs, h1, h2, h3⟩ := h.seqL (d := .lst _) rfl
    exact ⟨a, vs, h1, .inl h2, h3⟩
  · obtain ⟨a, vs, h1, h2, h3⟩ := h.seqL (d := .scr _) rfl
    exact ⟨a, vs, h1, .inl h2, h3⟩
  · obtain ⟨a, vs, h1, h2, h3⟩ := h.tup
    exact ⟨a, vs, h1, .inr h2, h3⟩
end

def lenD : List D → Option O
  | [.str x] => if x.length ≤ 16777216 then some (.d (.int x.length)) else none
  | [d] => match d.seq with
    | some xs => some (.d (.int xs.length))
    | none => none
  | _ => none
def ixD (x i : D) : Option O := match i with
  | .int i => (match x with
    | .str z => if z.length ≤ 16777216 then (match atI z.cps.toList i with
      | some c => some (.d (.str ⟨#[c]⟩))
      | none => none) else none
    | x => match x.seq with
      | some xs => (match atI xs i with
        | some y => some (.d y)
        | none => none)
      | none => none)
  | _ => none
def cutL {α : Type} (xs : List α) (lo hi : Option Int) : List α := (xs.drop (HT.sIx xs.length 0 lo)).take (HT.sIx xs.length xs.length hi - HT.sIx xs.length 0 lo)
def cutD (x : D) (lo hi : Option Int) : Option O := match x with
  | .lst xs => some (.fl (cutL xs lo hi))
  | .scr xs => some (.fl (cutL xs lo hi))
  | .tup xs => some (.d (.tup (cutL xs lo hi)))
  | .str z => if z.length ≤ 16777216 then some (.d (.str (cutS z lo hi))) else none
  | _ => none
def parts : Bool → Bool → List D → Option (Option Int × Option Int)
  | false, false, [] => some (none, none)
  | true, false, [.int i] => some (some i, none)
  | false, true, [.int j] => some (none, some j)
  | true, true, [.int i, .int j] => some (some i, some j)
  | _, _, _ => none
def slD (a b : Bool) : List D → Option O
  | x :: r => match parts a b r with
    | some (lo, hi) => cutD x lo hi
    | none => none
  | [] => none
section
variable {K : PySem.W.Frag} {av : Addr → Prop} {H H' : Hp}
theorem RDs.cut {vs : List V} {ds : List D} (r : RDs K av H vs ds) (lo hi : Option Int) : RDs K av H (cutV vs lo hi) (cutL ds lo hi) := by
  unfold cutV cutL
  rw [r.length]
  exact (r.drop _).take _
theorem RDs.atI {vs : List V} {ds : List D} {i : Int} {d : D} (r : RDs K av H vs ds) (h : atI ds i = some d) : ∃ v, L2.atI vs i = some v ∧ RD K av H v d := by
  unfold L2.atI at h ⊢
  rw [r.length]
  cases q : ixN ds.length i with
  | none => rw [q] at h; cases h
  | some j =>
    rw [q] at h
    exact r.getD h
end
section
variable {X : Cx}
theorem cr_len : CallR X (.builtin "len") (RN X.K lenD) := by
  refine callR_sane call_len fun vs H Q sn h => ?_
  obtain ⟨av, ds, dm, hv, f⟩ := h
  unfold lenD at f
  split at f
  · split at f
    · rename_i x hz
      obtain ⟨v, rfl, r⟩ := hv.one
      rw [r.str]
      exact ⟨_, x.length, rfl, ⟨by rw [line_eq]; exact hz, rfl⟩, f.int⟩
    · exact f.elim
  · rename_i d hd
    split at f
    · rename_i xs e
      obtain ⟨v, rfl, r⟩ := hv.one
      obtain ⟨a, vs, rfl, h1, h2⟩ := r.seq e
      refine ⟨_, xs.length, rfl, ?_, f.int⟩
      rcases h1 with h1 | h1
      · exact .inl ⟨vs, h1, h2.length.symm⟩
      · exact .inr ⟨vs, h1, h2.length.symm⟩
    · exact f.elim
  · exact f.elim
theorem ix_D : IxR X (RB X.K ixD) := by
  refine ixR_sane ix_seq fun x y H Q sn h => ?_
  obtain ⟨av, dx, dy, dm, hx, hy, f⟩ := h
  unfold ixD at f
  split at f
  · rename_i i
    rw [hy.int]
    split at f
    · split at f
      · rename_i z hz
        split at f
        · rename_i c ec
          rw [hx.str]
          exact .inr (.inr ⟨z, i, c, rfl, rfl, by rw [line_eq]; exact hz, ec, f.str⟩)
        · exact f.elim
      · exact f.elim
    · split at f
      · rename_i xs e
        split at f
        · rename_i z ez
          obtain ⟨a, vs, rfl, h1, h2⟩ := hx.seq e
          obtain ⟨v, e1, r⟩ := h2.atI ez
          rcases h1 with h1 | h1
          · exact .inl ⟨a, vs, i, v, rfl, rfl, h1, e1, f.data r⟩
          · exact .inr (.inl ⟨a, vs, i, v, rfl, rfl, h1, e1, f.data r⟩)
        · exact f.elim
      · exact f.elim
  · exact f.elim
def RSl (K : PySem.W.Frag) : V → Option Int → Option Int → Hp → VK → Prop := fun x lo hi H Q => ∃ (av : Addr → Prop) (dx : D), Dom av H ∧ RV K av H x dx ∧ Fin K av H (cutD dx lo hi) Q
theorem sIx_le (n d : Nat) (hd : d ≤ n) (o : Option Int) : HT.sIx n d o ≤ n := HT.sIx_le n d hd o
theorem sl_D : SlR X (RSl X.K) := by
  refine slR_sane (SlR.or sl_list (SlR.or sl_tupA sl_str)) fun x lo hi H Q sn h => ?_
  obtain ⟨av, dx, dm, hx, f⟩ := h
  unfold cutD at f
  split at f
  · obtain ⟨a, vs, rfl, h1, h2⟩ := hx.seqL (d := .lst _) rfl
    exact .inl ⟨a, vs, rfl, h1, f.list (h2.cut lo hi)⟩
  · obtain ⟨a, vs, rfl, h1, h2⟩ := hx.seqL (d := .scr _) rfl
    exact .inl ⟨a, vs, rfl, h1, f.list (h2.cut lo hi)⟩
  · obtain ⟨a, vs, rfl, h1, h2⟩ := hx.tup
    refine .inr (.inl ⟨a, vs, rfl, h1, fun z => ?_, fun _ => f.tuple dm (h2.cut lo hi)⟩)
    rename_i xs
    have e : cutL xs lo hi = xs := by
      unfold cutL
      rw [← h2.length, z.1, z.2, List.drop_zero, Nat.sub_zero, h2.length, List.take_length]
    rw [e] at f
    exact f.data hx.tupD
  · split at f
    · rename_i z hz
      rw [hx.str]
      exact .inr (.inr ⟨z, rfl, by rw [line_eq]; exact hz, f.str⟩)
    · exact f.elim
  · exact f.elim
end

def D.flat : D → Bool
  | .non => true
  | .bl _ => true
  | .int _ => true
  | .str _ => true
  | _ => false
def inD (x y : D) : Option O := match y with
  | .str z => (match x with
    | .str w => some (.d (.bl (!(Builtin.Str.occurrences z w 0 z.length 1).isEmpty)))
    | _ => none)
  | .tup ys => if x.flat && ys.all D.flat then some (.d (.bl (ys.any fun z => PyData.eqv z.py x.py))) else none
  | y => match y.seqL with
    | some ys => if SeqAt.shaped x.py && SeqAt.shaped y.py then some (.d (.bl ((D.pys ys).any fun z => PyData.eqv z x.py))) else none
    | none => none
def notO : Option O → Option O
  | some (.d (.bl b)) => some (.d (.bl (!b)))
  | _ => none
def ninD (x y : D) : Option O := notO (inD x y)
section
variable {K : PySem.W.Frag} {av : Addr → Prop} {H H' : Hp}
theorem flat_eqv {v w : V} {x y : D} (hv : RD K av H v x) (hw : RD K av H w y) (fx : x.flat = true) (fy : y.flat = true) : flatV v = true ∧ flatV w = true ∧ eqV v w = PyData.eqv x.py y.py := by
  cases hv <;> simp only [D.flat, reduceCtorEq] at fx <;> cases hw <;> simp only [D.flat, reduceCtorEq] at fy <;> simp [flatV, eqV, D.py, PyData.eqv]
theorem flats_any {w : V} {y : D} (hw : RD K av H w y) (fy : y.flat = true) : ∀ {vs : List V} {ds : List D}, RDs K av H vs ds → ds.all D.flat = true → vs.all flatV = true ∧ inV w vs = ds.any fun z => PyData.eqv z.py y.py
  | _, _, .nil, _ => ⟨rfl, rfl⟩
  | _, _, .cons h r, q => by
    rw [List.all_cons, Bool.and_eq_true] at q
    obtain ⟨h1, h2⟩ := flats_any hw fy r q.2
    obtain ⟨f1, f2, f3⟩ := flat_eqv h hw q.1 fy
    unfold inV at h2 ⊢
    rw [List.all_cons, List.any_cons, List.any_cons, f1, h1, f3, h2]
    exact ⟨rfl, rfl⟩
theorem RV.flatD {v : V} {d : D} (h : RV K av H v d) (f : d.flat = true) : RD K av H v d := by
  cases h with
  | d r => exact r
  | fl _ _ => cases f
  | ob _ _ => cases f
end
section
variable {X : Cx}
theorem in_cases {K : PySem.W.Frag} {av : Addr → Prop} {H : Hp} {x y : V} {dx dy : D} {o : O} (hx : RV K av H x dx) (hy : RV K av H y dy) (h : inD dx dy = some o) : ∃ b, o = .d (.bl b) ∧
    ((∃ z w : Str, y = .str z ∧ x = .str w ∧ b = !(Builtin.Str.occurrences z w 0 z.length 1).isEmpty) ∨
    (∃ p vs, y = .ref p ∧ (SqL K H p vs ∨ SqT K H p vs) ∧ flatV x = true ∧ vs.all flatV = true ∧ b = inV x vs) ∨
    (∃ d ds, Dp K H x d ∧ Dp K H y (.list ds) ∧ SeqAt.shaped d = true ∧ SeqAt.shaped (.list ds) = true ∧ b = ds.any fun z => PyData.eqv z d)) := by
  unfold inD at h
  split at h
  · split at h
    · rename_i z _ w
      cases h
      exact ⟨_, rfl, .inl ⟨z, w, hy.str, hx.str, rfl⟩⟩
    · cases h
  · rename_i ys
    split at h
    · rename_i hf
      cases h
      rw [Bool.and_eq_true] at hf
      obtain ⟨a, vs, rfl, h1, h2⟩ := hy.tup
      obtain ⟨e1, e2⟩ := flats_any (hx.flatD hf.1) hf.1 h2 hf.2
      exact ⟨_, rfl, .inr (.inl ⟨a, vs, rfl, .inr h1, (flat_eqv (hx.flatD hf.1) (hx.flatD hf.1) hf.1 hf.1).1, e1, e2.symm⟩)⟩
    · cases h
  · split at h
    · rename_i ys e
      split at h
      · rename_i hs
        cases h
        rw [Bool.and_eq_true] at hs
        have ey : dy.py = .list (D.pys ys) := by
          cases dy <;> simp only [D.seqL, Option.some.injEq, reduceCtorEq] at e <;> subst e <;> rw [D.py]
        have d1 := hx.dp (SeqAt.canLay_of_shaped hs.1)
        have d2 := hy.dp (SeqAt.canLay_of_shaped hs.2)
        have s2 := hs.2
        rw [ey] at d2 s2
        exact ⟨_, rfl, .inr (.inr ⟨_, _, d1, d2, hs.1, s2, rfl⟩)⟩
      · cases h
    · cases h
theorem op_inDD (hu : X.A.units + 65 < cLine) : OpR X (compareOp .In) (RB X.K inD) := by
  refine opR_sane (OpR.or op_in_str (OpR.or op_in_seq (op_inD hu))) fun x y H Q sn h => ?_
  obtain ⟨av, dx, dy, dm, hx, hy, f⟩ := h
  cases e : inD dx dy with
  | none => rw [e] at f; exact f.elim
  | some o =>
    obtain ⟨b, rfl, q⟩ := in_cases hx hy e
    rw [e] at f
    rcases q with ⟨z, w, e1, e2, rfl⟩ | ⟨p, vs, e1, q, f1, f2, rfl⟩ | ⟨d, ds, q1, q2, q3, q4, rfl⟩
    · exact .inl ⟨w, z, e2, e1, f.bl⟩
    · exact .inr (.inl ⟨p, vs, e1, q, f1, f2, f.bl⟩)
    · exact .inr (.inr ⟨d, ds, q1, q2, q3, q4, f.bl⟩)
theorem op_ninDD (hu : X.A.units + 65 < cLine) : OpR X (compareOp .NotIn) (RB X.K ninD) := by
  refine opR_sane (OpR.or L2.op_notIn_str (OpR.or op_notIn_seq (op_notInD hu))) fun x y H Q sn h => ?_
  obtain ⟨av, dx, dy, dm, hx, hy, f⟩ := h
  unfold ninD at f
  cases e : inD dx dy with
  | none => rw [e] at f; exact f.elim
  | some o =>
    obtain ⟨b, rfl, q⟩ := in_cases hx hy e
    rw [e] at f
    have f' : Fin X.K av H (some (.d (.bl (!b)))) Q := f
    rcases q with ⟨z, w, e1, e2, rfl⟩ | ⟨p, vs, e1, q, f1, f2, rfl⟩ | ⟨d, ds, q1, q2, q3, q4, rfl⟩
    · exact .inl ⟨w, z, e2, e1, f'.bl⟩
    · exact .inr (.inl ⟨p, vs, e1, q, f1, f2, f'.bl⟩)
    · exact .inr (.inr ⟨d, ds, q1, q2, q3, q4, f'.bl⟩)
end

def listD : List D → Option O
  | [d] => match d.seq with
    | some xs => some (.fl xs)
    | none => none
  | _ => none
def tupleD : List D → Option O
  | [.tup xs] => some (.d (.tup xs))
  | [d] => match d.seqL with
    | some xs => some (.d (.tup xs))
    | none => none
  | _ => none
def absD : List D → Option O
  | [.int i] => some (.d (.int (if i < 0 then -i else i)))
  | _ => none
def intD : List D → Option O
  | [.int i] => some (.d (.int i))
  | [.bl b] => some (.d (.int (if b then 1 else 0)))
  | _ => none
def strD : List D → Option O
  | [.int i] => if i.natAbs.log2 < 1920 then some (.d (.str (toString i))) else none
  | _ => none
/-- the greatest, the least -/
def maxL : Int → List Int → Int
  | m, [] => m
  | m, x :: xs => maxL (if m < x then x else m) xs
def minL : Int → List Int → Int
  | m, [] => m
  | m, x :: xs => minL (if x < m then x else m) xs
def maxD : List D → Option O
  | [.int i, .int j] => some (.d (.int (if j > i then j else i)))
  | [.lst xs] => match intsOf xs with
    | some (n :: ns) => some (.d (.int (maxL n ns)))
    | _ => none
  | _ => none
def minD : List D → Option O
  | [.int i, .int j] => some (.d (.int (if j < i then j else i)))
  | [.lst xs] => match intsOf xs with
    | some (n :: ns) => some (.d (.int (minL n ns)))
    | _ => none
  | _ => none
def sumD : List D → Option O
  | [.lst xs] => match intsOf xs with
    | some ns => some (.d (.int ns.sum))
    | none => none
  | _ => none
def allD : List D → Option O
  | [.lst xs] => match blsOf xs with
    | some ns => some (.d (.bl (ns.all id)))
    | none => none
  | _ => none
def anyD : List D → Option O
  | [.lst xs] => match blsOf xs with
    | some ns => some (.d (.bl (ns.any id)))
    | none => none
  | _ => none
theorem maxL_ge : ∀ (l : List Int) (m : Int), m ≤ maxL m l ∧ (∀ y ∈ l, y ≤ maxL m l) ∧ (maxL m l = m ∨ maxL m l ∈ l)
  | [], m => ⟨Int.le_refl _, fun _ h => (by cases h), .inl rfl⟩
  | x :: l, m => by
    by_cases q : m < x
    · have e : maxL m (x :: l) = maxL x l := by rw [maxL, if_pos q]
      obtain ⟨h1, h2, h3⟩ := maxL_ge l x
      rw [e]
      refine ⟨by omega, fun y hy => ?_, .inr ?_⟩
      · rcases List.mem_cons.mp hy with e | hy
        · rw [e]; exact h1
        · exact h2 y hy
      · rcases h3 with h3 | h3
        · rw [h3]; exact List.mem_cons_self
        · exact List.mem_cons_of_mem _ h3
    · have e : maxL m (x :: l) = maxL m l := by rw [maxL, if_neg q]
      obtain ⟨h1, h2, h3⟩ := maxL_ge l m
      rw [e]
      refine ⟨h1, fun y hy => ?_, ?_⟩
      · rcases List.mem_cons.mp hy with e | hy
        · rw [e]; omega
        · exact h2 y hy
      · rcases h3 with h3 | h3
        · exact .inl h3
        · exact .inr (List.mem_cons_of_mem _ h3)
theorem minL_le : ∀ (l : List Int) (m : Int), minL m l ≤ m ∧ (∀ y ∈ l, minL m l ≤ y) ∧ (minL m l = m ∨ minL m l ∈ l)
  | [], m => ⟨Int.le_refl _, fun _ h => (by cases h), .inl rfl⟩
  | x :: l, m => by
    by_cases q : x < m
    · have e : minL m (x :: l) = minL x l := by rw [minL, if_pos q]
      obtain ⟨h1, h2, h3⟩ := minL_le l x
      rw [e]
      refine ⟨by omega, fun y hy => ?_, .inr ?_⟩
      · rcases List.mem_cons.mp hy with e | hy
        · rw [e]; exact h1
        · exact h2 y hy
      · rcases h3 with h3 | h3
        · rw [h3]; exact List.mem_cons_self
        · exact List.mem_cons_of_mem _ h3
    · have e : minL m (x :: l) = minL m l := by rw [minL, if_neg q]
      obtain ⟨h1, h2, h3⟩ := minL_le l m
      rw [e]
      refine ⟨h1, fun y hy => ?_, ?_⟩
      · rcases List.mem_cons.mp hy with e | hy
        · rw [e]; omega
        · exact h2 y hy
      · rcases h3 with h3 | h3
        · exact .inl h3
        · exact .inr (List.mem_cons_of_mem _ h3)
section
variable {X : Cx}
theorem cr_list : CallR X (.type "list") (RN X.K listD) := by
  refine callR_sane call_list_of fun vs H Q sn h => ?_
  obtain ⟨av, ds, dm, hv, f⟩ := h
  unfold listD at f
  split at f
  · split at f
    · rename_i xs e
      obtain ⟨v, rfl, r⟩ := hv.one
      obtain ⟨a, vs, rfl, h1, h2⟩ := r.seq e
      exact ⟨a, vs, rfl, h1, f.list h2⟩
    · exact f.elim
  · exact f.elim
theorem cr_tuple : CallR X (.type "tuple") (RN X.K tupleD) := by
  refine callR_sane call_tuple_of fun vs H Q sn h => ?_
  obtain ⟨av, ds, dm, hv, f⟩ := h
  unfold tupleD at f
  split at f
  · obtain ⟨v, rfl, r⟩ := hv.one
    obtain ⟨a, vs, rfl, h1, h2⟩ := r.tup
    exact ⟨a, vs, rfl, .inr ⟨h1, f.data r.tupD⟩⟩
  · split at f
    · rename_i xs e
      obtain ⟨v, rfl, r⟩ := hv.one
      obtain ⟨a, vs, rfl, h1, h2⟩ := r.seqL e
      exact ⟨a, vs, rfl, .inl ⟨h1, f.tuple dm h2⟩⟩
    · exact f.elim
  · exact f.elim
theorem cr_abs : CallR X (.builtin "abs") (RN X.K absD) := by
  refine callR_sane call_abs fun vs H Q sn h => ?_
  obtain ⟨av, ds, dm, hv, f⟩ := h
  unfold absD at f
  split at f
  · obtain ⟨v, rfl, r⟩ := hv.one
    rw [r.int]
    exact ⟨_, rfl, f.int⟩
  · exact f.elim
theorem cr_int : CallR X (.type "int") (RN X.K intD) := by
  refine callR_sane call_int1 fun vs H Q sn h => ?_
  obtain ⟨av, ds, dm, hv, f⟩ := h
  unfold intD at f
  split at f
  · obtain ⟨v, rfl, r⟩ := hv.one
    rw [r.int]
    exact .inl ⟨_, rfl, f.int⟩
  · obtain ⟨v, rfl, r⟩ := hv.one
    rw [r.bl]
    exact .inr ⟨_, rfl, f.int⟩
  · exact f.elim
theorem cr_str : CallR X (.type "str") (RN X.K strD) := by
  refine callR_sane call_str_int fun vs H Q sn h => ?_
  obtain ⟨av, ds, dm, hv, f⟩ := h
  unfold strD at f
  split at f
  · split at f
    · rename_i hz
      obtain ⟨v, rfl, r⟩ := hv.one
      rw [r.int]
      exact ⟨_, rfl, hz, f.str⟩
    · exact f.elim
  · exact f.elim
theorem cr_maxD (hc : X.calm = true) : CallR X (.builtin "max") (RN X.K maxD) := by
  refine callR_sane (CallR.or (call_max2 hc) (L2.cr_max hc)) fun vs H Q sn h => ?_
  obtain ⟨av, ds, dm, hv, f⟩ := h
  unfold maxD at f
  split at f
  · obtain ⟨v, w, rfl, r1, r2⟩ := hv.two
    rw [r1.int, r2.int]
    exact .inl ⟨_, _, rfl, f.int⟩
  · split at f
    · rename_i xs n ns e
      obtain ⟨v, rfl, r⟩ := hv.one
      rw [intsOf_eq e] at r
      obtain ⟨a, vs, rfl, h1, h2⟩ := r.lst
      rw [h2.ints] at h1
      refine .inr ⟨a, n :: ns, rfl, SqL.of h1, by simp, fun m hm hle => ?_⟩
      obtain ⟨g1, g2, g3⟩ := maxL_ge ns n
      have e2 : m = maxL n ns := by
        refine Int.le_antisymm ?_ ?_
        · rcases List.mem_cons.mp hm with z | z
          · rw [z]; exact g1
          · exact g2 m z
        · rcases g3 with z | z
          · rw [z]; exact hle n List.mem_cons_self
          · exact hle _ (List.mem_cons_of_mem _ z)
      rw [e2]
      exact f.int
    · exact f.elim
  · exact f.elim
theorem cr_minD (hc : X.calm = true) : CallR X (.builtin "min") (RN X.K minD) := by
  refine callR_sane (CallR.or (call_min2 hc) (L2.cr_min hc)) fun vs H Q sn h => ?_
  obtain ⟨av, ds, dm, hv, f⟩ := h
  unfold minD at f
  split at f
  · obtain ⟨v, w, rfl, r1, r2⟩ := hv.two
    rw [r1.int, r2.int]
    exact .inl ⟨_, _, rfl, f.int⟩
  · split at f
    · rename_i xs n ns e
      obtain ⟨v, rfl, r⟩ := hv.one
      rw [intsOf_eq e] at r
      obtain ⟨a, vs, rfl, h1, h2⟩ := r.lst
      rw [h2.ints] at h1
      refine .inr ⟨a, n :: ns, rfl, SqL.of h1, by simp, fun m hm hle => ?_⟩
      obtain ⟨g1, g2, g3⟩ := minL_le ns n
      have e2 : m = minL n ns := by
        refine Int.le_antisymm ?_ ?_
        · rcases g3 with z | z
          · rw [z]; exact hle n List.mem_cons_self
          · exact hle _ (List.mem_cons_of_mem _ z)
        · rcases List.mem_cons.mp hm with z | z
          · rw [z]; exact g1
          · exact g2 m z
      rw [e2]
      exact f.int
    · exact f.elim
  · exact f.elim
theorem cr_sumD (hc : X.calm = true) : CallR X (.builtin "sum") (RN X.K sumD) := by
  refine callR_sane (L2.cr_sum hc) fun vs H Q sn h => ?_
  obtain ⟨av, ds, dm, hv, f⟩ := h
  unfold sumD at f
  split at f
  · split at f
    · rename_i xs ns e
      obtain ⟨v, rfl, r⟩ := hv.one
      rw [intsOf_eq e] at r
      obtain ⟨a, vs, rfl, h1, h2⟩ := r.lst
      rw [h2.ints] at h1
      exact ⟨a, ns, rfl, SqL.of h1, f.int⟩
    · exact f.elim
  · exact f.elim
theorem cr_allD (hc : X.calm = true) : CallR X (.builtin "all") (RN X.K allD) := by
  refine callR_sane (L2.cr_all hc) fun vs H Q sn h => ?_
  obtain ⟨av, ds, dm, hv, f⟩ := h
  unfold allD at f
  split at f
  · split at f
    · rename_i xs ns e
      obtain ⟨v, rfl, r⟩ := hv.one
      rw [blsOf_eq e] at r
      obtain ⟨a, vs, rfl, h1, h2⟩ := r.lst
      rw [h2.bls] at h1
      exact ⟨a, ns, rfl, SqL.of h1, f.bl⟩
    · exact f.elim
  · exact f.elim
theorem cr_anyD (hc : X.calm = true) : CallR X (.builtin "any") (RN X.K anyD) := by
  refine callR_sane (L2.cr_any hc) fun vs H Q sn h => ?_
  obtain ⟨av, ds, dm, hv, f⟩ := h
  unfold anyD at f
  split at f
  · split at f
    · rename_i xs ns e
      obtain ⟨v, rfl, r⟩ := hv.one
      rw [blsOf_eq e] at r
      obtain ⟨a, vs, rfl, h1, h2⟩ := r.lst
      rw [h2.bls] at h1
      exact ⟨a, ns, rfl, SqL.of h1, f.bl⟩
    · exact f.elim
  · exact f.elim
end
end VL

set_option Elab.async false
set_option linter.all false
set_option maxRecDepth 100000
namespace VL
open PySem PySem.Spec PyProof.Rows L2

abbrev VE (X : Cx) (W : WX) (e : Expr) (f : Fe) : Prop := PE X e (tOf X.K X.mg W f)
abbrev VO (X : Cx) (W : WX) (e : Expr) (o : Opd) : Prop := PE X e (tOpd X.K X.mg W o)
abbrev VA (X : Cx) (W : WX) (es : List Expr) (os : List Opd) : Prop := PA X es (tArg X.K X.mg W os)
abbrev VT (X : Cx) (W : WX) (e : Expr) (f : Ft) : Prop := PT X e (tTs X.K X.mg W f)
abbrev VW (X : Cx) (W : WX) (e : Expr) (f : Ft) : Prop := PW X e (tTs X.K X.mg W f)
theorem pe_imp {X : Cx} {e : Expr} {t t' : TE} (h : PE X e t) (i : ∀ σ H Q, t' σ H Q → t σ H Q) : PE X e t' := ⟨fun pins s σ H Q I q => h.run pins s σ H Q I (i σ H Q q)⟩
theorem pe_impS {X : Cx} {e : Expr} {t t' : TE} (h : PE X e t) (i : ∀ σ H Q, Sane H → t' σ H Q → t σ H Q) : PE X e t' := ⟨fun pins s σ H Q I q => h.run pins s σ H Q I (i σ H Q (sane_of I) q)⟩
theorem pt_imp {X : Cx} {e : Expr} {t t' : TT} (h : PT X e t) (i : ∀ σ H Q, t' σ H Q → t σ H Q) : PT X e t' := ⟨fun pins s σ H Q I q => h.run pins s σ H Q I (i σ H Q q)⟩
theorem pw_imp {X : Cx} {e : Expr} {t t' : TT} (h : PW X e t) (i : ∀ σ H Q, t' σ H Q → t σ H Q) : PW X e t' := ⟨fun wh pins s σ H Q I q => h.run wh pins s σ H Q I (i σ H Q q)⟩

def varE (i : Nat) : Fe := fun env => match env.getD i .un with
  | .d x => .ok (.d x, env)
  | _ => .st
def cE (x : D) : Fe := fun env => .ok (.d x, env)
def op2 (g : D → D → Option O) (a b : Opd) : Fe := opN (fun
  | [x, y] => g x y
  | _ => none) [a, b]
def op1 (g : D → Option O) (a : Opd) : Fe := opN (fun
  | [x] => g x
  | _ => none) [a]
/-- operands that are kept: data alone -/
def Arg.data (env : Ev) : Arg → Bool
  | .tmp o => !o.isUn
  | .sl i => match env.getD i .un with
    | .d _ => true
    | _ => false
def opC (g : List D → Option O) (as : List Opd) : Fe := fun env => (evA as env).bind fun p =>
  if p.1.all (Arg.data p.2) then res (g (p.1.map (Arg.look p.2))) p.2 else .st
def tupC (ds : List D) : Option O := if ds.length ≤ 1000 then some (.d (.tup ds)) else none
def lstC (ds : List D) : Option O := if ds.length ≤ 1000 then some (.fl ds) else none
def ifE (c : Ft) (a b : Fe) : Fe := fun env => (c env).bind fun p => if p.1 then a p.2 else b p.2
def O.asB : O → Option Bool
  | .d (.bl c) => some c
  | _ => none
theorem O.asB_eq {o : O} {c : Bool} (h : o.asB = some c) : o = .d (.bl c) := by
  unfold O.asB at h
  split at h
  · cases h
    rfl
  · cases h
def O.isInt : O → Bool
  | .d (.int _) => true
  | _ => false
theorem O.isInt_eq {o : O} (h : o.isInt = true) : ∃ i, o = .d (.int i) := by
  unfold O.isInt at h
  split at h
  · exact ⟨_, rfl⟩
  · cases h
def intE (a : Fe) : Fe := fun env => (a env).bind fun p => if p.1.isInt then .ok p else .st
def bindB {α : Type} (o : O) (k : Bool → ER α) : ER α := match o.asB with
  | some c => k c
  | none => .st
@[simp] theorem bindB_bl {α : Type} (c : Bool) (k : Bool → ER α) : bindB (.d (.bl c)) k = k c := (rfl)
def andE (a b : Fe) : Fe := fun env => (a env).bind fun p => bindB p.1 fun c => if c then b p.2 else .ok (.d (.bl false), p.2)
def orE (a b : Fe) : Fe := fun env => (a env).bind fun p => bindB p.1 fun c => if c then .ok (.d (.bl true), p.2) else b p.2
def notE (a : Fe) : Fe := fun env => (a env).bind fun p => bindB p.1 fun c => .ok (.d (.bl (!c)), p.2)
/-- tests -/
def tstE (a : Fe) : Ft := fun env => (a env).bind fun p => bindB p.1 fun c => .ok (c, p.2)
def andT (a b : Ft) : Ft := fun env => (a env).bind fun p => if p.1 then b p.2 else .ok (false, p.2)
def orT (a b : Ft) : Ft := fun env => (a env).bind fun p => if p.1 then .ok (true, p.2) else b p.2
def notT (a : Ft) : Ft := fun env => (a env).bind fun p => .ok (!p.1, p.2)

section
variable {K : PySem.W.Frag} {mg : Str → Option Value} {W : WX} {av av1 : Addr → Prop} {H H1 : Hp} {own own1 t : List Addr} {σ : L2.St}
theorem tOf_mono {f : Fe} {Q Q' : VK} (i : ∀ v H, Q v H → Q' v H) (h : tOf K mg W f σ H Q) : tOf K mg W f σ H Q' := by
  obtain ⟨env, av, own, hs, w, h⟩ := h
  refine ⟨env, av, own, hs, w, ?_⟩
  cases q : f env with
  | st => rw [q] at h; exact h
  | ex c x e => rw [q] at h; exact h
  | ok p =>
    rw [q] at h
    exact fun v H' av' fp own' A w' r s => i _ _ (h v H' av' fp own' A w' r s)
theorem tOpd_mono {o : Opd} {Q Q' : VK} (i : ∀ v H, Q v H → Q' v H) (h : tOpd K mg W o σ H Q) : tOpd K mg W o σ H Q' := by
  cases o with
  | val f => exact tOf_mono i h
  | pk j =>
    obtain ⟨v, e, q⟩ := h
    exact ⟨v, e, i _ _ q⟩
theorem tArg_mono : ∀ {os : List Opd} {H : Hp} {Q Q' : List V → Hp → Prop}, (∀ v H, Q v H → Q' v H) → tArg K mg W os σ H Q → tArg K mg W os σ H Q'
  | [], H, Q, Q', i, h => i _ _ h
  | o :: os, H, Q, Q', i, h => tOpd_mono (o := o) (fun x H1 h => tArg_mono (os := os) (fun xs H2 h => i _ _ h) h) h
/-- an evaluation behind another -/
theorem EPost.step {Q : VK} {r : ER (O × Ev)} (w0 : OkW av H own) (w : OkW av1 H1 (t ++ own1)) (A : Adv av H own av1 H1 (t ++ own1)) (h : EPost K mg W av H own σ Q r) : EPost K mg W av1 H1 own1 σ Q r := by
  cases r with
  | st => exact h
  | ex c x e => exact XPost.step w0 w A h
  | ok p =>
    intro v H2 av2 fp own2 B w2 hr hs
    have C := Adv.trans w0 w A B
    have w3 := OkW.trans w B w2
    have kd : ∀ a, drp av own (fp ++ own2) a → av2 a := fun a z => (C.av_ a).mpr (z.elim .inl fun z => .inr (by
      rw [List.append_assoc]
      exact List.mem_append_right _ z))
    refine h v H2 (drp av own (fp ++ own2)) fp own2 ⟨fun _ => Iff.rfl, fun a m => C.fresh a (by
      rw [List.append_assoc]
      exact List.mem_append_right _ m), C.ext, C.there⟩ ⟨w2.nodup, fun a m => .inr m, fun a m => w2.dom a (kd a m)⟩ (hr.keep (.grow (Grow.refl _) kd) fun _ _ _ e => e) (hs.grow (σ := σ) (env := p.2) (Grow.refl _) kd)
theorem TPost.step {Q : Bool → Hp → Prop} {r : ER (Bool × Ev)} (w0 : OkW av H own) (w : OkW av1 H1 own1) (A : Adv av H own av1 H1 own1) (h : TPost K mg W av H own σ Q r) : TPost K mg W av1 H1 own1 σ Q r := by
  cases r with
  | st => exact h
  | ex c x e => exact XPost.step (t := []) w0 w A h
  | ok p =>
    intro H2 av2 own2 B w2 hs
    exact h H2 av2 own2 (Adv.trans (t := []) (u := []) w0 w A B) w2 hs
/-- the readings of operations that keep their operands -/
def RC (K : PySem.W.Frag) (g : List D → Option O) : List V → Hp → VK → Prop := fun vs H Q => ∃ (av : Addr → Prop) (ds : List D), Dom av H ∧ RDs K av H vs ds ∧ Fin K av H (g ds) Q
theorem SR.frozen {v : V} {o : O} {fp : List Addr} {av' : Addr → Prop} (h : SR K av H (some v) o fp) (hu : o.isUn = false) (s : ∀ a, av' a → av a) (n : ∀ a, a ∈ fp → ¬ av' a) : RD K av' H v o.toD := by
  have k : Keep av av' H H := .grow (Grow.refl _) s
  cases h with
  | un => cases hu
  | d r => exact r.keep k
  | fl e r => exact .lst (n _ (by simp)) e (r.keep k)
  | ob e r => exact .ins (n _ (by simp)) e (r.keep k)
theorem ARep.frozen {env : Ev} {av' : Addr → Prop} (hs : Slots K av H σ env own) (s : ∀ a, av' a → av a) : ∀ {vs : List V} {l : List Arg} {t : List Addr}, ARep K av H σ vs l t → (∀ a, a ∈ t → ¬ av' a) → l.all (Arg.data env) = true → RDs K av' H vs (l.map (Arg.look env))
  | _, _, _, .nil, _, _ => .nil
  | _, _, _, .tmp (o := o) h r, n, g => by
    rw [List.all_cons, Bool.and_eq_true] at g
    have g1 : (!o.isUn) = true := g.1
    exact .cons (h.frozen (by simpa using g1) s fun a m => n a (List.mem_append_left _ m)) (ARep.frozen hs s r (fun a m => n a (List.mem_append_right _ m)) g.2)
  | _, _, _, .sl (i := i) h r, n, g => by
    rw [List.all_cons, Bool.and_eq_true] at g
    have g1 : (match env.getD i .un with
      | .d _ => true
      | _ => false) = true := g.1
    refine .cons ?_ (ARep.frozen hs s r n g.2)
    cases q : env.getD i .un with
    | d x =>
      obtain ⟨v, fp, e1, e2, _⟩ := slot_some (i := i) hs (by rw [q]; rfl)
      rw [h] at e1
      cases e1
      rw [q] at e2
      show RD K av' H _ ((env.getD i .un).toD)
      rw [q]
      cases e2 with | d r => exact r.keep (.grow (Grow.refl _) s)
    | un => rw [q] at g1; cases g1
    | fl _ => rw [q] at g1; cases g1
    | ob _ _ => rw [q] at g1; cases g1
/-- the end of an operation, when what was left over is given up -/
theorem fin_post {o : Option O} {env' : Ev} {Q : VK} (A : Adv av H own av1 H1 (t ++ own1)) (w1 : OkW av1 H1 (t ++ own1)) (hs1 : Slots K av1 H1 σ env' own1) (h : EPost K mg W av H own σ Q (res o env')) : Fin K (drp av own own1) H1 o Q := by
  have A2 := Adv.drop A
  have w2 := OkW.drop A w1
  have s2 := drp_sub A
  cases o with
  | none => exact h.elim
  | some o =>
    cases o with
    | un => exact h.elim
    | ob C fs => exact h.elim
    | d z =>
      intro v H' gr r
      exact h v H' _ [] own1 (A2.grow gr) (w2.grow gr) (.d r) (hs1.grow (σ := σ) (env := env') gr s2)
    | fl zs =>
      intro p vs' H2 gr r hp
      have A3 := A2.grow gr
      have w3 := w2.grow gr
      exact h (.ref p) (upd H2 p (.lst vs')) _ [p] own1 (A3.new hp) (w3.new A3 hp) (.fl upd_same (r.keep (keep_new A3 hp))) (Slots.keep (σ := σ) (env := env') (keep_new A3 hp) (hs1.grow (σ := σ) (env := env') gr s2) fun a u _ e => Grow.new hp a u e)
theorem opC_ok {g : List D → Option O} {as : List Opd} {Q : VK} (h : tOf K mg W (opC g as) σ H Q) : tArg K mg W as σ H fun vs H1 => RC K g vs H1 Q := by
  obtain ⟨env, av, own, hs, w, h⟩ := h
  refine args_ok as hs w ?_
  unfold opC at h
  cases q : evA as env with
  | st => rw [q] at h; exact h
  | ex c x e => rw [q] at h; exact h
  | ok p =>
    obtain ⟨l, env'⟩ := p
    rw [q] at h
    intro vs H1 av1 t own1 A w1 ha hs1
    have h' : EPost K mg W av H own σ Q (if l.all (Arg.data env') then res (g (l.map (Arg.look env'))) env' else .st) := h
    cases hg : l.all (Arg.data env') with
    | false => rw [hg, if_neg Bool.false_ne_true] at h'; exact h'.elim
    | true =>
      rw [hg, if_pos rfl] at h'
      refine ⟨drp av own own1, _, (OkW.drop A w1).dom, ha.frozen hs1 (drp_sub A) (fun a m z => ?_) hg, fin_post A w1 hs1 h'⟩
      rcases z with z | z
      · rcases A.fresh a (List.mem_append_left _ m) with q | q
        · exact z.2 q
        · have := w.dom a z.1
          rw [q] at this; cases this
      · exact w1.apart a m z
end

section
variable {X : Cx} {W : WX} {pos : Pos} {a b c e : Expr} {oa ob oc : Opd} {fa fb : Fe} {ta tb : Ft}
theorem v_val {f : Fe} (h : VE X W e f) : VO X W e (.val f) := h
theorem v_pk (i : Nat) {x : Str} (h : PE X (.Name x pos) (tVar i)) : VO X W (.Name x pos) (.pk i) := h
theorem v_var (i : Nat) {x : Str} (h : PE X (.Name x pos) (tVar i)) : VE X W (.Name x pos) (varE i) := by
  refine pe_imp h fun σ H Q h => ?_
  obtain ⟨env, av, own, hs, w, h⟩ := h
  unfold varE at h
  cases q : env.getD i .un with
  | d x =>
    rw [q] at h
    obtain ⟨v, fp, e1, e2, _⟩ := slot_some (i := i) hs (by rw [q]; rfl)
    rw [q] at e2
    cases e2 with
    | d r => exact ⟨v, e1, h v H av [] own (Adv.refl w) w (.d r) hs⟩
  | un => rw [q] at h; exact h.elim
  | fl _ => rw [q] at h; exact h.elim
  | ob _ _ => rw [q] at h; exact h.elim
theorem v_const {v : V} {x : D} (h : PE X e (tC v)) (r : ∀ (av : Addr → Prop) (H : Hp), RD X.K av H v x) : VE X W e (cE x) := by
  refine pe_imp h fun σ H Q h => ?_
  obtain ⟨env, av, own, hs, w, h⟩ := h
  exact h v H av [] own (Adv.refl w) w (.d (r av H)) hs
theorem v_int {i : Int} {j : Nat} : VE X W (.Constant (.int i) j pos) (cE (.int i)) := v_const pe_int fun _ _ => .int i
theorem v_bool {i : Bool} {j : Nat} : VE X W (.Constant (.bool i) j pos) (cE (.bl i)) := v_const pe_bl fun _ _ => .bl i
theorem v_none {j : Nat} : VE X W (.Constant .none j pos) (cE .non) := v_const pe_non fun _ _ => .non
theorem v_str {i : Str} {j : Nat} : VE X W (.Constant (.str i) j pos) (cE (.str i)) := v_const pe_str fun _ _ => .str i
theorem va_nil : VA X W [] [] := pa_nil
theorem va_cons {es : List Expr} {os : List Opd} (ha : VO X W e oa) (hr : VA X W es os) (hs : starEach (e :: es) X.env = (false, eval e X.env) :: starEach es X.env := by rfl) : VA X W (e :: es) (oa :: os) := pa_cons ha hr hs
theorem rn_two {K : PySem.W.Frag} {g : D → D → Option O} {x y : V} {H : Hp} {Q : VK} (h : RN K (fun
  | [x, y] => g x y
  | _ => none) [x, y] H Q) : RB K g x y H Q := by
  obtain ⟨av, ds, dm, hv, f⟩ := h
  cases hv with | cons h1 r => cases r with | cons h2 r => cases r; exact ⟨av, _, _, dm, h1, h2, f⟩
theorem rn_one {K : PySem.W.Frag} {g : D → Option O} {x : V} {H : Hp} {Q : VK} (h : RN K (fun
  | [x] => g x
  | _ => none) [x] H Q) : RU K g x H Q := by
  obtain ⟨av, ds, dm, hv, f⟩ := h
  cases hv with | cons h1 r => cases r; exact ⟨av, _, dm, h1, f⟩
theorem two_of {K : PySem.W.Frag} {mg : Str → Option Value} {g : D → D → Option O} {σ : L2.St} {H : Hp} {Q : VK} (h : tOf K mg W (op2 g oa ob) σ H Q) : tOp (RB K g) (tOpd K mg W oa) (tOpd K mg W ob) σ H Q :=
  tOpd_mono (fun x H1 h => tOpd_mono (fun y H2 h => rn_two h) h) (opN_ok h)
theorem v_bin {op : Operator} {g : D → D → Option O} (ho : OpR X (binaryOp op) (RB X.K g)) (ha : VO X W a oa) (hb : VO X W b ob) : VE X W (.BinOp a op b pos) (op2 g oa ob) :=
  pe_imp (pe_op ho ha hb) fun _ _ _ h => two_of h
theorem v_cmp {op : CmpOp} {g : D → D → Option O} (ho : OpR X (compareOp op) (RB X.K g)) (ha : VO X W a oa) (hb : VO X W b ob) (hm : behindInMarks op b = false := by first | exact nomark _ | rfl) : VE X W (.Compare a [op] [b] pos) (op2 g oa ob) :=
  pe_imp (pe_cmpR ho ha hb hm) fun _ _ _ h => two_of h
theorem v_un {op : UnaryOp} {g : D → Option O} (ho : UnR X (unaryOp op) (RU X.K g)) (ha : VO X W a oa) : VE X W (.UnaryOp op a pos) (op1 g oa) :=
  pe_imp (pe_un ho ha) fun _ _ _ h => tOpd_mono (fun x H1 h => rn_one h) (opN_ok h)
theorem v_ix (ha : VO X W a oa) (hb : VO X W b ob) (hs : PlainIx b := by exact fun _ _ => rfl) : VE X W (.Subscript a b pos) (op2 ixD oa ob) :=
  pe_imp (pe_ix ix_D ha hb hs) fun _ _ _ h => two_of h
theorem v_callB {x : Str} {id : String} {g : List D → Option O} {es : List Expr} {os : List Opd} {p : Pos} (hc : CallR X (.builtin id) (RN X.K g)) (hg : Gl X x) (hm : X.mg x = none) (hv : bootBuiltins x = some (.builtin id)) (ha : VA X W (e :: es) os) (hn : x ≠ "__name__" := by decide) (hdb : (x == ("__debug__" : Str)) = false := by decide)
    (he : starEach (e :: es) X.env = (false, eval e X.env) :: starEach es X.env := by rfl) (hpl : (backTo pos (starEach es X.env)).any (·.1) = false := by rfl) : VE X W (.Call (.Name x p) (e :: es) [] pos) (opN g os) :=
  pe_imp (pe_callB hc hg hm hv ha hn hdb he hpl) fun _ _ _ h => opN_ok h
theorem v_callTy {x : Str} {T : String} {g : List D → Option O} {es : List Expr} {os : List Opd} {p : Pos} (hc : CallR X (.type T) (RN X.K g)) (hg : Gl X x) (hm : X.mg x = none) (hv : bootBuiltins x = some (.type T)) (ha : VA X W (e :: es) os) (hn : x ≠ "__name__" := by decide) (hdb : (x == ("__debug__" : Str)) = false := by decide)
    (he : starEach (e :: es) X.env = (false, eval e X.env) :: starEach es X.env := by rfl) (hpl : (backTo pos (starEach es X.env)).any (·.1) = false := by rfl) : VE X W (.Call (.Name x p) (e :: es) [] pos) (opN g os) :=
  pe_imp (pe_callTy hc hg hm hv ha hn hdb he hpl) fun _ _ _ h => opN_ok h
/-- a built-in class as a value -/
theorem v_type {x : Str} {T : String} (hg : Gl X x) (hm : X.mg x = none) (hv : bootBuiltins x = some (.type T)) (hn : x ≠ "__name__" := by decide) (hd : (x == ("__debug__" : Str)) = false := by decide) : VE X W (.Name x pos) (cE (.ty T)) :=
  v_const (pe_bltn (v := .ty T) hg hm hv rfl hn hd) fun _ _ => .ty T
theorem small_line {n : Nat} (h : n ≤ 1000) : n ≤ sizeLine := by rw [line_eq]; omega
theorem v_tup {es : List Expr} {os : List Opd} {k : Nat} (ha : VA X W es os) : VE X W (.Tuple es k pos) (opC tupC os) := by
  refine pe_imp (pe_tup ha) fun σ H Q h => tArg_mono (fun vs H1 h => ?_) (opC_ok h)
  obtain ⟨av, ds, dm, hv, f⟩ := h
  unfold tupC at f
  split at f
  · rename_i hz
    exact ⟨by rw [hv.length]; exact small_line hz, f.tuple dm hv⟩
  · exact f.elim
theorem v_lst {es : List Expr} {os : List Opd} (ha : VA X W es os) : VE X W (.List es pos) (opC lstC os) := by
  refine pe_imp (pe_lst ha) fun σ H Q h => tArg_mono (fun vs H1 h => ?_) (opC_ok h)
  obtain ⟨av, ds, dm, hv, f⟩ := h
  unfold lstC at f
  split at f
  · rename_i hz
    exact ⟨by rw [hv.length]; exact small_line hz, f.list hv⟩
  · exact f.elim
theorem v_sl0 {p2 : Pos} (ha : VO X W a oa) : VE X W (.Subscript a (.Slice none none none p2) pos) (opN (slD false false) [oa]) := by
  refine pe_imp (pe_slice sl_D ha po_none po_none) fun σ H Q h => tOpd_mono (fun x H1 h => ?_) (opN_ok h)
  obtain ⟨av, ds, dm, hv, f⟩ := h
  cases hv with | cons h1 r =>
    cases r
    exact ⟨av, _, dm, h1, f⟩
theorem v_sl1 {p2 : Pos} (ha : VO X W a oa) (hb : VO X W b ob) : VE X W (.Subscript a (.Slice (some b) none none p2) pos) (opN (slD true false) [oa, ob]) := by
  refine pe_imp (pe_slice sl_D ha (po_some hb) po_none) fun σ H Q h => tOpd_mono (fun x H1 h => tOpd_mono (fun y H2 h => ?_) h) (opN_ok h)
  obtain ⟨av, ds, dm, hv, f⟩ := h
  cases hv with | cons h1 r => cases r with | cons h2 r =>
    cases r
    rename_i d2
    cases d2 <;> first | exact f.elim | skip
    rw [h2.int]
    exact ⟨_, rfl, av, _, dm, h1, f⟩
theorem v_sl2 {p2 : Pos} (ha : VO X W a oa) (hb : VO X W b ob) : VE X W (.Subscript a (.Slice none (some b) none p2) pos) (opN (slD false true) [oa, ob]) := by
  refine pe_imp (pe_slice sl_D ha po_none (po_some hb)) fun σ H Q h => tOpd_mono (fun x H1 h => tOpd_mono (fun y H2 h => ?_) h) (opN_ok h)
  obtain ⟨av, ds, dm, hv, f⟩ := h
  cases hv with | cons h1 r => cases r with | cons h2 r =>
    cases r
    rename_i d2
    cases d2 <;> first | exact f.elim | skip
    rw [h2.int]
    exact ⟨_, rfl, av, _, dm, h1, f⟩
theorem intE_ok {K : PySem.W.Frag} {mg : Str → Option Value} {σ : L2.St} {H : Hp} {Q : VK} (h : tOf K mg W (intE fa) σ H Q) : tOf K mg W fa σ H fun x H1 => ∃ i, x = .int i ∧ Q (.int i) H1 := by
  obtain ⟨env, av, own, hs, w, h⟩ := h
  refine ⟨env, av, own, hs, w, ?_⟩
  unfold intE at h
  cases q : fa env with
  | st => rw [q] at h; exact h
  | ex c x e => rw [q] at h; exact h
  | ok p =>
    obtain ⟨o, env1⟩ := p
    rw [q] at h
    intro v H1 av1 fp own1 A w1 hr hs1
    have h' : EPost K mg W av H own σ Q (if o.isInt then .ok (o, env1) else .st) := h
    cases ho : o.isInt with
    | false => rw [ho, if_neg Bool.false_ne_true] at h'; exact h'.elim
    | true =>
      rw [ho, if_pos rfl] at h'
      obtain ⟨i, rfl⟩ := O.isInt_eq ho
      cases hr with | d r =>
        cases r
        exact ⟨_, rfl, h' _ _ _ [] own1 A w1 (.d (.int _)) hs1⟩
theorem v_sl3 {p2 : Pos} {fc : Fe} (ha : VO X W a oa) (hb : VE X W b fb) (hc : VE X W c fc) : VE X W (.Subscript a (.Slice (some b) (some c) none p2) pos) (opN (slD true true) [oa, .val (intE fb), .val (intE fc)]) := by
  refine pe_imp (pe_slice sl_D ha (po_some hb) (po_some hc)) fun σ H Q h => tOpd_mono (fun x H1 h => ?_) (opN_ok h)
  have h' : tOf X.K X.mg W (intE fb) σ H1 fun y H2 => tOf X.K X.mg W (intE fc) σ H2 fun z H3 => RN X.K (slD true true) [x, y, z] H3 Q := h
  refine tOf_mono (fun y H2 h2 => ?_) (intE_ok h')
  obtain ⟨i, rfl, h2⟩ := h2
  refine ⟨i, rfl, tOf_mono (fun z H3 h3 => ?_) (intE_ok h2)⟩
  obtain ⟨j, rfl, h3⟩ := h3
  obtain ⟨av, ds, dm, hv, f⟩ := h3
  cases hv with | cons h1 r => cases r with | cons h2 r => cases r with | cons h3 r =>
    cases r
    refine ⟨j, rfl, av, _, dm, h1, ?_⟩
    cases h2 with | d r2 => cases h3 with | d r3 =>
      cases r2
      cases r3
      exact f
theorem v_if (hc : VT X W c ta) (ha : VE X W a fa) (hb : VE X W b fb) : VE X W (.IfExp c a b pos) (ifE ta fa fb) := by
  refine pe_imp (pe_ifExp hc ha hb) fun σ H Q h => ?_
  obtain ⟨env, av, own, hs, w, h⟩ := h
  refine ⟨env, av, own, hs, w, ?_⟩
  unfold ifE at h
  cases q : ta env with
  | st => rw [q] at h; exact h
  | ex c x e => rw [q] at h; exact h
  | ok p =>
    obtain ⟨k, env1⟩ := p
    rw [q] at h
    intro H1 av1 own1 A w1 hs1
    cases k with
    | true => exact ⟨env1, av1, own1, hs1, w1, EPost.step (t := []) w w1 A h⟩
    | false => exact ⟨env1, av1, own1, hs1, w1, EPost.step (t := []) w w1 A h⟩
theorem v_and {rest : List Expr} (ha : VE X W a fa) (hb : VE X W (.BoolOp .And (b :: rest) pos) fb) : VE X W (.BoolOp .And (a :: b :: rest) pos) (andE fa fb) := by
  refine pe_imp (pe_and ha hb) fun σ H Q h => ?_
  obtain ⟨env, av, own, hs, w, h⟩ := h
  refine ⟨env, av, own, hs, w, ?_⟩
  unfold andE at h
  cases q : fa env with
  | st => rw [q] at h; exact h
  | ex c x e => rw [q] at h; exact h
  | ok p =>
    obtain ⟨o, env1⟩ := p
    rw [q] at h
    intro v H1 av1 fp own1 A w1 hr hs1
    have h' : EPost X.K X.mg W av H own σ Q (bindB o fun c => if c then fb env1 else .ok (.d (.bl false), env1)) := h
    unfold bindB at h'
    cases ho : o.asB with
    | none => rw [ho] at h'; exact h'.elim
    | some k =>
      rw [ho] at h'
      rw [O.asB_eq ho] at hr
      cases hr with | d r =>
        cases r
        cases k with
        | true => exact ⟨true, rfl, env1, av1, own1, hs1, w1, EPost.step (t := []) w w1 A h'⟩
        | false => exact ⟨false, rfl, h' _ _ _ [] own1 A w1 (.d (.bl false)) hs1⟩
theorem v_or {rest : List Expr} (ha : VE X W a fa) (hb : VE X W (.BoolOp .Or (b :: rest) pos) fb) : VE X W (.BoolOp .Or (a :: b :: rest) pos) (orE fa fb) := by
  refine pe_imp (pe_or ha hb) fun σ H Q h => ?_
  obtain ⟨env, av, own, hs, w, h⟩ := h
  refine ⟨env, av, own, hs, w, ?_⟩
  unfold orE at h
  cases q : fa env with
  | st => rw [q] at h; exact h
  | ex c x e => rw [q] at h; exact h
  | ok p =>
    obtain ⟨o, env1⟩ := p
    rw [q] at h
    intro v H1 av1 fp own1 A w1 hr hs1
    have h' : EPost X.K X.mg W av H own σ Q (bindB o fun c => if c then .ok (.d (.bl true), env1) else fb env1) := h
    unfold bindB at h'
    cases ho : o.asB with
    | none => rw [ho] at h'; exact h'.elim
    | some k =>
      rw [ho] at h'
      rw [O.asB_eq ho] at hr
      cases hr with | d r =>
        cases r
        cases k with
        | false => exact ⟨false, rfl, env1, av1, own1, hs1, w1, EPost.step (t := []) w w1 A h'⟩
        | true => exact ⟨true, rfl, h' _ _ _ [] own1 A w1 (.d (.bl true)) hs1⟩
theorem v_one {op : BoolOp} {f : Fe} (h : VE X W a f) : VE X W (.BoolOp op [a] pos) f := pe_one h
theorem v_not (ha : VE X W a fa) : VE X W (.UnaryOp .Not a pos) (notE fa) := by
  refine pe_imp (pe_not ha) fun σ H Q h => ?_
  obtain ⟨env, av, own, hs, w, h⟩ := h
  refine ⟨env, av, own, hs, w, ?_⟩
  unfold notE at h
  cases q : fa env with
  | st => rw [q] at h; exact h
  | ex c x e => rw [q] at h; exact h
  | ok p =>
    obtain ⟨o, env1⟩ := p
    rw [q] at h
    intro v H1 av1 fp own1 A w1 hr hs1
    have h' : EPost X.K X.mg W av H own σ Q (bindB o fun c => .ok (.d (.bl (!c)), env1)) := h
    unfold bindB at h'
    cases ho : o.asB with
    | none => rw [ho] at h'; exact h'.elim
    | some k =>
      rw [ho] at h'
      rw [O.asB_eq ho] at hr
      cases hr with | d r =>
        cases r
        exact ⟨_, rfl, h' _ _ _ [] own1 A w1 (.d (.bl _)) hs1⟩

theorem tst_ok {K : PySem.W.Frag} {mg : Str → Option Value} {σ : L2.St} {H : Hp} {Q : Bool → Hp → Prop} (h : tTs K mg W (tstE fa) σ H Q) : tOf K mg W fa σ H fun x H1 => ∃ k, x = .bl k ∧ Q k H1 := by
  obtain ⟨env, av, own, hs, w, h⟩ := h
  refine ⟨env, av, own, hs, w, ?_⟩
  unfold tstE at h
  cases q : fa env with
  | st => rw [q] at h; exact h
  | ex c x e => rw [q] at h; exact h
  | ok p =>
    obtain ⟨o, env1⟩ := p
    rw [q] at h
    intro v H1 av1 fp own1 A w1 hr hs1
    have h' : TPost K mg W av H own σ Q (bindB o fun c => .ok (c, env1)) := h
    unfold bindB at h'
    cases ho : o.asB with
    | none => rw [ho] at h'; exact h'.elim
    | some k =>
      rw [ho] at h'
      rw [O.asB_eq ho] at hr
      cases hr with | d r =>
        cases r
        exact ⟨_, rfl, h' H1 av1 own1 A w1 hs1⟩
theorem t_val {f : Fe} (h : VE X W e f) (he : ∀ whole, isTrue e X.env whole = (do let v ← whole; standAt e.pos; holding [v] (truthy v)) := by intro _; rfl) : VT X W e (tstE f) :=
  pt_imp (pt_val h he) fun _ _ _ h => tst_ok h
theorem t_cmp {op : CmpOp} {g : D → D → Option O} (ho : OpR X (compareOp op) (RB X.K g)) (ha : VO X W a oa) (hb : VO X W b ob) (hm : behindInMarks op b = false := by first | exact nomark _ | rfl) : VT X W (.Compare a [op] [b] pos) (tstE (op2 g oa ob)) :=
  pt_imp (pt_cmpR ho ha hb hm) fun _ _ _ h => two_of (tst_ok h)
theorem t_w {f : Ft} (h : VW X W e f) : VT X W e f := h.pt
theorem w_and1 (ha : VT X W a ta) : VW X W (.BoolOp .And [a] pos) ta := pw_and1 ha
theorem w_or1 (ha : VT X W a ta) : VW X W (.BoolOp .Or [a] pos) ta := pw_or1 ha
theorem w_and {rest : List Expr} (ha : VT X W a ta) (hb : VW X W (.BoolOp .And (b :: rest) pos) tb) : VW X W (.BoolOp .And (a :: b :: rest) pos) (andT ta tb) := by
  refine pw_imp (pw_and ha hb) fun σ H Q h => ?_
  obtain ⟨env, av, own, hs, w, h⟩ := h
  refine ⟨env, av, own, hs, w, ?_⟩
  unfold andT at h
  cases q : ta env with
  | st => rw [q] at h; exact h
  | ex c x e => rw [q] at h; exact h
  | ok p =>
    obtain ⟨k, env1⟩ := p
    rw [q] at h
    intro H1 av1 own1 A w1 hs1
    cases k with
    | true => exact ⟨env1, av1, own1, hs1, w1, TPost.step w w1 A h⟩
    | false => exact h H1 av1 own1 A w1 hs1
theorem w_or {rest : List Expr} (ha : VT X W a ta) (hb : VW X W (.BoolOp .Or (b :: rest) pos) tb) : VW X W (.BoolOp .Or (a :: b :: rest) pos) (orT ta tb) := by
  refine pw_imp (pw_or ha hb) fun σ H Q h => ?_
  obtain ⟨env, av, own, hs, w, h⟩ := h
  refine ⟨env, av, own, hs, w, ?_⟩
  unfold orT at h
  cases q : ta env with
  | st => rw [q] at h; exact h
  | ex c x e => rw [q] at h; exact h
  | ok p =>
    obtain ⟨k, env1⟩ := p
    rw [q] at h
    intro H1 av1 own1 A w1 hs1
    cases k with
    | true => exact h H1 av1 own1 A w1 hs1
    | false => exact ⟨env1, av1, own1, hs1, w1, TPost.step w w1 A h⟩
theorem t_not (ha : VT X W a ta) : VT X W (.UnaryOp .Not a pos) (notT ta) := by
  refine pt_imp (pt_not ha) fun σ H Q h => ?_
  obtain ⟨env, av, own, hs, w, h⟩ := h
  refine ⟨env, av, own, hs, w, ?_⟩
  unfold notT at h
  cases q : ta env with
  | st => rw [q] at h; exact h
  | ex c x e => rw [q] at h; exact h
  | ok p =>
    obtain ⟨k, env1⟩ := p
    rw [q] at h
    exact h
end
end VL

set_option Elab.async false
set_option linter.all false
set_option maxRecDepth 100000
namespace VL
open PySem PySem.Spec PyProof.Rows L2

inductive SRes where
  | nx (env : Ev) | rt (o : O) (env : Ev) | bk (env : Ev) | ct (env : Ev) | ex (c : Str) (x : D) (env : Ev) | st
abbrev Fs := Ev → SRes
def ER.then {α : Type} (x : ER α) (k : α → SRes) : SRes := match x with
  | .ok a => k a
  | .ex c y e => .ex c y e
  | .st => .st
@[simp] theorem ER.then_ok {α : Type} (a : α) (k : α → SRes) : (ER.ok a).then k = k a := (rfl)
@[simp] theorem ER.then_ex {α : Type} (c : Str) (y : D) (e : Ev) (k : α → SRes) : (ER.ex c y e : ER α).then k = .ex c y e := (rfl)
@[simp] theorem ER.then_st {α : Type} (k : α → SRes) : (ER.st : ER α).then k = .st := (rfl)

/-- the slots of parameters that the caller keeps are not given other values -/
def Pn (pn : List Nat) (σ σ' : L2.St) : Prop := σ'.length = σ.length ∧ ∀ i, i ∈ pn → σ'[i]? = σ[i]?
theorem Pn.refl (pn : List Nat) (σ : L2.St) : Pn pn σ σ := ⟨rfl, fun _ _ => rfl⟩
theorem Pn.trans {pn : List Nat} {σ σ1 σ2 : L2.St} (a : Pn pn σ σ1) (b : Pn pn σ1 σ2) : Pn pn σ σ2 := ⟨b.1.trans a.1, fun i h => (b.2 i h).trans (a.2 i h)⟩
theorem Pn.set {pn : List Nat} {σ : L2.St} {i : Nat} {s : Option V} (h : pn.contains i = false) : Pn pn σ (σ.set i s) := ⟨by simp, fun j hj => by
  have : i ≠ j := fun e => by
    subst e
    rw [List.contains_iff_mem.mpr hj] at h
    cases h
  rw [List.getElem?_set_ne this]⟩

section
variable (K : PySem.W.Frag) (mg : Str → Option Value) (W : WX) (pn : List Nat)
def SPost (av : Addr → Prop) (H : Hp) (own : List Addr) (σ : L2.St) (D : Ends) : SRes → Prop
  | .nx env' => ∀ (σ' : L2.St) (H' : Hp) (av' : Addr → Prop) (own' : List Addr), Pn pn σ σ' → Adv av H own av' H' own' → OkW av' H' own' → Slots K av' H' σ' env' own' → D.nx σ' H'
  | .bk env' => ∀ (σ' : L2.St) (H' : Hp) (av' : Addr → Prop) (own' : List Addr), Pn pn σ σ' → Adv av H own av' H' own' → OkW av' H' own' → Slots K av' H' σ' env' own' → D.bk σ' H'
  | .ct env' => ∀ (σ' : L2.St) (H' : Hp) (av' : Addr → Prop) (own' : List Addr), Pn pn σ σ' → Adv av H own av' H' own' → OkW av' H' own' → Slots K av' H' σ' env' own' → D.ct σ' H'
  | .rt o env' => ∀ (v : V) (σ' : L2.St) (H' : Hp) (av' : Addr → Prop) (fp own' : List Addr), Pn pn σ σ' → Adv av H own av' H' (fp ++ own') → OkW av' H' (fp ++ own') → SR K av' H' (some v) o fp → Slots K av' H' σ' env' own' → D.rt v H'
  | .ex c x env' => ∀ (σ' : L2.St), Pn pn σ σ' → ∀ (cls : Value) (dd : Addr) (v : V) (H' : Hp) (av' : Addr → Prop) (own' : List Addr), mg c = some cls → Adv av H own av' H' own' → OkW av' H' own' → H' dd = some (.xd [("value", v)]) → RD K av' H' v x → Slots K av' H' σ' env' own' → W cls (some dd) σ' H'
  | .st => False
def tS (f : Fs) : TS := fun D σ H => ∃ (env : Ev) (av : Addr → Prop) (own : List Addr), Slots K av H σ env own ∧ OkW av H own ∧ SPost K mg W pn av H own σ D (f env)
end
abbrev VS (X : Cx) (W : WX) (pn : List Nat) (s : Stmt) (f : Fs) : Prop := PS X s (tS X.K X.mg W pn f)
abbrev VB (X : Cx) (W : WX) (pn : List Nat) (s : List Stmt) (f : Fs) : Prop := PSs X s (tS X.K X.mg W pn f)
theorem ps_imp {X : Cx} {s : Stmt} {t t' : TS} (h : PS X s t) (i : ∀ D σ H, t' D σ H → t D σ H) : PS X s t' := ⟨fun pins s σ H D I q => h.run pins s σ H D I (i D σ H q)⟩
theorem pss_imp {X : Cx} {s : List Stmt} {t t' : TS} (h : PSs X s t) (i : ∀ D σ H, t' D σ H → t D σ H) : PSs X s t' := ⟨fun pins s σ H D I q => h.run pins s σ H D I (i D σ H q)⟩

def nilS : Fs := .nx
def seqS (f g : Fs) : Fs := fun env => match f env with
  | .nx env' => g env'
  | r => r
def putS (i : Nat) (o : O) (env : Ev) : SRes := if i < env.length then .nx (env.set i o) else .st
def asgS (i : Nat) (e : Fe) : Fs := fun env => (e env).then fun p => putS i p.1 p.2
/-- stored as data -/
def asgZ (i : Nat) (e : Fe) : Fs := fun env => (e env).then fun p => if p.1.isUn then .st else putS i (.d p.1.toD) p.2
def retS (e : Fe) : Fs := fun env => (e env).then fun p => .rt p.1 p.2
/-- a slot's own list or instance is handed back -/
def retO (i : Nat) : Fs := fun env => if (env.getD i .un).isUn then .st else .rt (env.getD i .un) (env.set i .un)
def retN : Fs := fun env => .rt (.d .non) env
def dropS (e : Fe) : Fs := fun env => (e env).then fun p => .nx p.2
def ifS (c : Ft) (a b : Fs) : Fs := fun env => (c env).then fun p => if p.1 then a p.2 else b p.2
def bkS : Fs := .bk
def ctS : Fs := .ct
def freeze (is : List Nat) (env : Ev) : Ev := is.foldl (fun env i => match env.getD i .un with
  | .un => env
  | o => env.set i (.d o.toD)) env

section
variable {K : PySem.W.Frag} {mg : Str → Option Value} {W : WX} {pn : List Nat} {av av1 : Addr → Prop} {H H1 : Hp} {own own1 t : List Addr} {σ σ1 : L2.St} {G : Ends}
theorem Slots.focus : ∀ {σ : L2.St} {env : Ev} {own : List Addr} {i : Nat}, Slots K av H σ env own → i < env.length →
    ∃ (s : Option V) (A fp B : List Addr), own = A ++ (fp ++ B) ∧ σ[i]? = some s ∧ SR K av H s (env.getD i .un) fp ∧
      ∀ {av' : Addr → Prop} {H' : Hp} {s' : Option V} {o' : O} {fp' : List Addr}, Keep av av' H H' → (∀ a u, a ∈ A ++ B → H a = some u → H' a = some u) → SR K av' H' s' o' fp' → Slots K av' H' (σ.set i s') (env.set i o') (A ++ (fp' ++ B))
  | _, _, _, _, .nil, h => by simp at h
  | _, _, _, 0, .cons (fp := fp) (own := own) (σ := σ) (env := env) h r, _ => by
    refine ⟨_, [], fp, own, rfl, rfl, h, fun {av' H' s' o' fp'} k f q => ?_⟩
    have z := Slots.cons q (Slots.keep (σ := σ) (env := env) (own := own) k r fun a u m => f a u (by simpa using m))
    exact z
  | _, _, _, i + 1, .cons (fp := fp) (own := own) h r, hi => by
    obtain ⟨s, A, fpi, B, e, e1, e2, g⟩ := Slots.focus (i := i) r (by simpa using hi)
    refine ⟨s, fp ++ A, fpi, B, by rw [e]; simp, by simpa using e1, by simpa using e2, fun {av' H' s' o' fp'} k f q => ?_⟩
    have z := g k (fun a u m => f a u (by
      rcases List.mem_append.mp m with m | m
      · simp [m]
      · simp [m])) q
    have z2 := Slots.cons (h.keep k fun a u m => f a u (by simp [m])) z
    rw [List.append_assoc]
    exact z2
/-- one statement behind another -/
theorem SPost.step {r : SRes} (w0 : OkW av H own) (w : OkW av1 H1 own1) (p : Pn pn σ σ1) (A : Adv av H own av1 H1 own1) (h : SPost K mg W pn av H own σ G r) : SPost K mg W pn av1 H1 own1 σ1 G r := by
  cases r with
  | st => exact h
  | nx env => exact fun σ' H' av' own' p2 B w2 s => h σ' H' av' own' (p.trans p2) (Adv.trans (t := []) (u := []) w0 w A B) w2 s
  | bk env => exact fun σ' H' av' own' p2 B w2 s => h σ' H' av' own' (p.trans p2) (Adv.trans (t := []) (u := []) w0 w A B) w2 s
  | ct env => exact fun σ' H' av' own' p2 B w2 s => h σ' H' av' own' (p.trans p2) (Adv.trans (t := []) (u := []) w0 w A B) w2 s
  | rt o env => exact fun v σ' H' av' fp own' p2 B w2 r s => h v σ' H' av' fp own' (p.trans p2) (Adv.trans (t := []) (u := fp) w0 w A B) w2 r s
  | ex c x env => exact fun σ' p2 cls dd v H' av' own' hc B w2 hd r s => h σ' (p.trans p2) cls dd v H' av' own' hc (Adv.trans (t := []) (u := []) w0 w A B) w2 hd r s
theorem SPost.mono {r : SRes} {G' : Ends} (h : SPost K mg W pn av H own σ G r) (h1 : ∀ σ H, G.nx σ H → G'.nx σ H) (h2 : ∀ v H, G.rt v H → G'.rt v H) (h3 : ∀ σ H, G.bk σ H → G'.bk σ H) (h4 : ∀ σ H, G.ct σ H → G'.ct σ H) : SPost K mg W pn av H own σ G' r := by
  cases r with
  | st => exact h
  | nx env => exact fun σ' H' av' own' p2 B w2 s => h1 _ _ (h σ' H' av' own' p2 B w2 s)
  | bk env => exact fun σ' H' av' own' p2 B w2 s => h3 _ _ (h σ' H' av' own' p2 B w2 s)
  | ct env => exact fun σ' H' av' own' p2 B w2 s => h4 _ _ (h σ' H' av' own' p2 B w2 s)
  | rt o env => exact fun v σ' H' av' fp own' p2 B w2 r s => h2 _ _ (h v σ' H' av' fp own' p2 B w2 r s)
  | ex c x env => exact h
/-- an expression's exception is the statement's -/
theorem SPost.exc {c : Str} {x : D} {env' : Ev} (h : SPost K mg W pn av H own σ G (.ex c x env')) : XPost K mg W av H own σ c x env' :=
  fun cls dd v H' av' own' hc A w hd r s => h σ (Pn.refl pn σ) cls dd v H' av' own' hc A w hd r s
/-- slot i is given another content: what it held is given up -/
theorem Slots.put {env : Ev} {i : Nat} {v : Option V} {o : O} {fp : List Addr} (A : Adv av H own av1 H1 (fp ++ own1)) (w1 : OkW av1 H1 (fp ++ own1)) (hs : Slots K av1 H1 σ env own1) (hi : i < env.length) (hr : SR K av1 H1 v o fp) :
    ∃ (av2 : Addr → Prop) (own2 : List Addr), Adv av H own av2 H1 own2 ∧ OkW av2 H1 own2 ∧ Slots K av2 H1 (σ.set i v) (env.set i o) own2 := by
  obtain ⟨s, P, fpi, B, rfl, e1, e2, g⟩ := hs.focus hi
  have sub : ∀ a, drp av own (P ++ (fp ++ B)) a → av1 a := fun a h => by
    rcases h with h | h
    · exact (A.av_ a).mpr (.inl h)
    · refine w1.sub a ?_
      simp only [List.mem_append] at h ⊢
      rcases h with h | h | h <;> simp [h]
  have nd : (P ++ (fp ++ B)).Nodup := by
    have := w1.nodup
    simp only [List.nodup_append, List.mem_append] at this ⊢
    obtain ⟨n1, ⟨n2, ⟨n3, n4, n5⟩, n6⟩, n7⟩ := this
    refine ⟨n2, ⟨n1, n4, fun a ha b hb => n7 a ha b (.inr (.inr hb))⟩, fun a ha b hb => ?_⟩
    rcases hb with hb | hb
    · exact fun e => n7 b hb a (.inl ha) e.symm
    · exact n6 a ha b (.inr hb)
  refine ⟨drp av own (P ++ (fp ++ B)), P ++ (fp ++ B), ⟨fun _ => Iff.rfl, fun a h => A.fresh a ?_, A.ext, A.there⟩, ⟨nd, fun a h => .inr h, fun a h => w1.dom a (sub a h)⟩, ?_⟩
  · simp only [List.mem_append] at h ⊢
    rcases h with h | h | h <;> simp [h]
  · exact g (.grow (Grow.refl _) sub) (fun _ _ _ e => e) (hr.keep (.grow (Grow.refl _) sub) fun _ _ _ e => e)
end

section
variable {X : Cx} {W : WX} {pn : List Nat} {pos : Pos} {e c : Expr} {fe : Fe} {ft : Ft} {f g : Fs} {s : Stmt} {ss : List Stmt}
theorem b_nil : VB X W pn [] nilS := by
  refine pss_imp pss_nil fun D σ H h => ?_
  obtain ⟨env, av, own, hs, w, h⟩ := h
  exact h σ H av own (Pn.refl pn σ) (Adv.refl w) w hs
theorem b_cons (h1 : VS X W pn s f) (h2 : VB X W pn ss g) : VB X W pn (s :: ss) (seqS f g) := by
  refine pss_imp (pss_cons h1 h2) fun D σ H h => ?_
  obtain ⟨env, av, own, hs, w, h⟩ := h
  refine ⟨env, av, own, hs, w, ?_⟩
  unfold seqS at h
  cases q : f env with
  | nx env1 =>
    rw [q] at h
    exact fun σ' H' av' own' p A w' s => ⟨env1, av', own', s, w', SPost.step w w' p A h⟩
  | st => rw [q] at h; exact h
  | bk env1 => rw [q] at h; exact h
  | ct env1 => rw [q] at h; exact h
  | rt o env1 => rw [q] at h; exact h
  | ex c x env1 => rw [q] at h; exact h
theorem b_one (h1 : VS X W pn s f) : VB X W pn [s] f := pss_one h1
theorem s_pass : VS X W pn (.Pass pos) nilS := by
  refine ps_imp ps_pass fun D σ H h => ?_
  obtain ⟨env, av, own, hs, w, h⟩ := h
  exact h σ H av own (Pn.refl pn σ) (Adv.refl w) w hs
theorem s_break : VS X W pn (.Break pos) bkS := by
  refine ps_imp ps_break fun D σ H h => ?_
  obtain ⟨env, av, own, hs, w, h⟩ := h
  exact h σ H av own (Pn.refl pn σ) (Adv.refl w) w hs
theorem s_continue : VS X W pn (.Continue pos) ctS := by
  refine ps_imp ps_continue fun D σ H h => ?_
  obtain ⟨env, av, own, hs, w, h⟩ := h
  exact h σ H av own (Pn.refl pn σ) (Adv.refl w) w hs
theorem s_set {i : Nat} {x : Str} {pos' : Pos} (hN : X.N.Nodup) (hi : X.N[i]? = some x) (hx : Loc X.env.scope x) (hp : pn.contains i = false) (he : VE X W e fe) (hs : swapsWith e (some (.Name x pos')) pos.line X.env = pure false := by rfl)
    (hf : X.fn x = true ∨ X.env.scope.names.lookup x = some .local := by first | exact .inl rfl | exact .inr rfl | assumption) : VS X W pn (.Assign [.Name x pos'] e pos) (asgS i fe) := by
  refine ps_imp (ps_set hN hi hx he hs hf) fun D σ H h => ?_
  obtain ⟨env, av, own, hs, w, h⟩ := h
  refine ⟨env, av, own, hs, w, ?_⟩
  unfold asgS at h
  cases q : fe env with
  | st => rw [q] at h; exact h
  | ex c x e => rw [q] at h; exact SPost.exc h
  | ok p =>
    obtain ⟨o, env1⟩ := p
    rw [q] at h
    intro v H1 av1 fp own1 A w1 hr hs1
    have h' : SPost X.K X.mg W pn av H own σ D (if i < env1.length then .nx (env1.set i o) else .st) := h
    by_cases hl : i < env1.length
    · rw [if_pos hl] at h'
      obtain ⟨av2, own2, A2, w2, s2⟩ := hs1.put A w1 hl hr
      exact h' _ H1 av2 own2 (Pn.set hp) A2 w2 s2
    · rw [if_neg hl] at h'
      exact h'.elim
theorem s_setZ {i : Nat} {x : Str} {pos' : Pos} (hN : X.N.Nodup) (hi : X.N[i]? = some x) (hx : Loc X.env.scope x) (hp : pn.contains i = false) (he : VE X W e fe) (hs : swapsWith e (some (.Name x pos')) pos.line X.env = pure false := by rfl)
    (hf : X.fn x = true ∨ X.env.scope.names.lookup x = some .local := by first | exact .inl rfl | exact .inr rfl | assumption) : VS X W pn (.Assign [.Name x pos'] e pos) (asgZ i fe) := by
  refine ps_imp (ps_set hN hi hx he hs hf) fun D σ H h => ?_
  obtain ⟨env, av, own, hs, w, h⟩ := h
  refine ⟨env, av, own, hs, w, ?_⟩
  unfold asgZ at h
  cases q : fe env with
  | st => rw [q] at h; exact h
  | ex c x e => rw [q] at h; exact SPost.exc h
  | ok p =>
    obtain ⟨o, env1⟩ := p
    rw [q] at h
    intro v H1 av1 fp own1 A w1 hr hs1
    have h' : SPost X.K X.mg W pn av H own σ D (if o.isUn then .st else if i < env1.length then .nx (env1.set i (.d o.toD)) else .st) := h
    cases hu : o.isUn with
    | true => rw [hu, if_pos rfl] at h'; exact h'.elim
    | false =>
      rw [hu, if_neg Bool.false_ne_true] at h'
      by_cases hl : i < env1.length
      · rw [if_pos hl] at h'
        have A' := Adv.drop A
        have w' := OkW.drop A w1
        have r' : RD X.K (drp av own own1) H1 v o.toD := hr.frozen hu (drp_sub A) fun a m z => by
          rcases z with z | z
          · rcases A.fresh a (List.mem_append_left _ m) with q | q
            · exact z.2 q
            · have := w.dom a z.1
              rw [q] at this; cases this
          · exact w1.apart a m z
        obtain ⟨av2, own2, A2, w2, s2⟩ := Slots.put (fp := []) A' w' (hs1.grow (σ := σ) (env := env1) (Grow.refl _) (drp_sub A)) hl (.d r')
        exact h' _ H1 av2 own2 (Pn.set hp) A2 w2 s2
      · rw [if_neg hl] at h'
        exact h'.elim
theorem s_ret (he : VE X W e fe) : VS X W pn (.Return (some e) pos) (retS fe) := by
  refine ps_imp (ps_ret he) fun D σ H h => ?_
  obtain ⟨env, av, own, hs, w, h⟩ := h
  refine ⟨env, av, own, hs, w, ?_⟩
  unfold retS at h
  cases q : fe env with
  | st => rw [q] at h; exact h
  | ex c x e => rw [q] at h; exact SPost.exc h
  | ok p =>
    rw [q] at h
    exact fun v H1 av1 fp own1 A w1 hr hs1 => h v σ H1 av1 fp own1 (Pn.refl pn σ) A w1 hr hs1
theorem s_retN : VS X W pn (.Return none pos) retN := by
  refine ps_imp ps_retN fun D σ H h => ?_
  obtain ⟨env, av, own, hs, w, h⟩ := h
  exact h .non σ H av [] own (Pn.refl pn σ) (Adv.refl w) w (.d .non) hs
/-- the slot's own list is handed back: return x -/
theorem s_retO {i : Nat} {x : Str} {p2 : Pos} (hx : PE X (.Name x p2) (tVar i)) : VS X W pn (.Return (some (.Name x p2)) pos) (retO i) := by
  refine ps_imp (ps_ret hx) fun D σ H h => ?_
  obtain ⟨env, av, own, hs, w, h⟩ := h
  unfold retO at h
  cases hu : (env.getD i .un).isUn with
  | true => rw [hu, if_pos rfl] at h; exact h.elim
  | false =>
    rw [hu, if_neg Bool.false_ne_true] at h
    obtain ⟨v, fp0, e1, e2, _⟩ := slot_some hs hu
    have hl : i < env.length := by
      rw [List.getD_eq_getElem?_getD] at hu
      cases q : env[i]? with
      | none => rw [q] at hu; cases hu
      | some o => exact (List.getElem?_eq_some_iff.mp q).1
    obtain ⟨s, P, fp, B, rfl, e3, e4, g⟩ := hs.focus hl
    rw [e1] at e3
    cases e3
    have z := g (av' := av) (H' := H) (s' := some v) (o' := .un) (fp' := []) (.grow (Grow.refl _) fun _ h => h) (fun _ _ _ e => e) .un
    have eσ : σ.set i (some v) = σ := by
      refine List.ext_getElem? fun j => ?_
      by_cases hj : i = j
      · subst hj
        rw [List.getElem?_set_self (List.getElem?_eq_some_iff.mp e1).1, e1]
      · rw [List.getElem?_set_ne hj]
    rw [eσ] at z
    have nd : (fp ++ (P ++ ([] ++ B))).Nodup := by
      have := w.nodup
      simp only [List.nil_append, List.nodup_append, List.mem_append] at this ⊢
      obtain ⟨n1, ⟨n2, n3, n4⟩, n5⟩ := this
      exact ⟨n2, ⟨n1, n3, fun a ha b hb => n5 a ha b (.inr hb)⟩, fun a ha b hb => hb.elim (fun hb e => n5 b hb a (.inl ha) e.symm) fun hb => n4 a ha b hb⟩
    have mm : ∀ a, a ∈ fp ++ (P ++ ([] ++ B)) ↔ a ∈ P ++ (fp ++ B) := fun a => by
      simp only [List.nil_append, List.mem_append]
      constructor
      · rintro (h | h | h) <;> simp [h]
      · rintro (h | h | h) <;> simp [h]
    refine ⟨v, e1, h v σ H av fp (P ++ ([] ++ B)) (Pn.refl pn σ) ⟨fun a => ⟨fun q => ?_, fun q => ?_⟩, fun a m => .inl ((mm a).mp m), fun _ _ e _ => e, fun _ e => e⟩ ⟨nd, fun a m => w.sub a ((mm a).mp m), w.dom⟩ e4 z⟩
    · by_cases k : a ∈ P ++ (fp ++ B)
      · exact .inr ((mm a).mpr k)
      · exact .inl ⟨q, k⟩
    · rcases q with q | q
      · exact q.1
      · exact w.sub a ((mm a).mp q)
theorem s_expr (he : VE X W e fe) (hs : swapsWith e none pos.line X.env = pure false := by rfl) : VS X W pn (.Expr e pos) (dropS fe) := by
  refine ps_imp (ps_expr he hs) fun D σ H h => ?_
  obtain ⟨env, av, own, hs, w, h⟩ := h
  refine ⟨env, av, own, hs, w, ?_⟩
  unfold dropS at h
  cases q : fe env with
  | st => rw [q] at h; exact h
  | ex c x e => rw [q] at h; exact SPost.exc h
  | ok p =>
    rw [q] at h
    exact fun v H1 av1 fp own1 A w1 hr hs1 => h σ H1 _ own1 (Pn.refl pn σ) (Adv.drop A) (OkW.drop A w1) (hs1.grow (σ := σ) (env := p.2) (Grow.refl _) (drp_sub A))
theorem s_if {a b : List Stmt} (hc : VT X W c ft) (ha : VB X W pn a f) (hb : VB X W pn b g) : VS X W pn (.If c a b pos) (ifS ft f g) := by
  refine ps_imp (ps_if hc ha hb) fun D σ H h => ?_
  obtain ⟨env, av, own, hs, w, h⟩ := h
  refine ⟨env, av, own, hs, w, ?_⟩
  unfold ifS at h
  cases q : ft env with
  | st => rw [q] at h; exact h
  | ex c x e => rw [q] at h; exact SPost.exc h
  | ok p =>
    obtain ⟨k, env1⟩ := p
    rw [q] at h
    intro H1 av1 own1 A w1 hs1
    cases k with
    | true => exact ⟨env1, av1, own1, hs1, w1, SPost.step w w1 (Pn.refl pn σ) A h⟩
    | false => exact ⟨env1, av1, own1, hs1, w1, SPost.step w w1 (Pn.refl pn σ) A h⟩
end
end VL

set_option Elab.async false
set_option linter.all false
set_option maxRecDepth 100000
namespace VL
open PySem PySem.Spec PyProof.Rows L2

structure Yields (K : PySem.W.Frag) (av : Addr → Prop) (H : Hp) (J : It) (ds : List D) : Prop where
  go : ∀ av' H', Keep av av' H H' → ∀ i, i < ds.length → J.go i H'
  yld : ∀ av' H', Keep av av' H H' → Dom av' H' → ∀ i x H'' d, ds[i]? = some d → J.yld i H' x H'' → Grow H' H'' ∧ RD K av' H'' x d
  stop : ∀ av' H', Keep av av' H H' → J.stop ds.length H'
abbrev Fi := Ev → ER (List D × Ev)
abbrev Fg := D → Ev → Option Ev
section
variable (K : PySem.W.Frag) (mg : Str → Option Value) (W : WX)
def IPost (av : Addr → Prop) (H : Hp) (own : List Addr) (σ : L2.St) (R : It → Hp → Prop) : ER (List D × Ev) → Prop
  | .ok (ds, env') => ∀ (J : It) (H' : Hp) (av' : Addr → Prop) (own' : List Addr), Adv av H own av' H' own' → OkW av' H' own' → Slots K av' H' σ env' own' → Yields K av' H' J ds → R J H'
  | .ex c x env' => XPost K mg W av H own σ c x env'
  | .st => False
def tI (f : Fi) : TI := fun σ H R => ∃ (env : Ev) (av : Addr → Prop) (own : List Addr), Slots K av H σ env own ∧ OkW av H own ∧ IPost K mg W av H own σ R (f env)
def GPost (pn : List Nat) (av : Addr → Prop) (H : Hp) (own : List Addr) (σ : L2.St) (Q : L2.St → Hp → Prop) : Option Ev → Prop
  | some env' => ∀ (σ' : L2.St) (av' : Addr → Prop) (own' : List Addr), Pn pn σ σ' → Adv av H own av' H own' → OkW av' H own' → Slots K av' H σ' env' own' → Q σ' H
  | none => False
/-- a target: the slots of pn stay -/
def tG (pn : List Nat) (f : Fg) : TG := fun v σ H Q => ∃ (env : Ev) (av : Addr → Prop) (own : List Addr) (d : D), Slots K av H σ env own ∧ OkW av H own ∧ RD K av H v d ∧
  GPost K pn av H own σ Q (f d env)
end
abbrev VI (X : Cx) (W : WX) (tg e : Expr) (f : Fi) : Prop := PI X tg e (tI X.K X.mg W f)
abbrev VG (X : Cx) (pn : List Nat) (tg : Expr) (f : Fg) : Prop := PG X tg (tG X.K pn f)
theorem pg_imp {X : Cx} {e : Expr} {t t' : TG} (h : PG X e t) (i : ∀ v σ H Q, t' v σ H Q → t v σ H Q) : PG X e t' := ⟨fun pins s σ H v u Q I r q => h.run pins s σ H v u Q I r (i v σ H Q q)⟩
theorem pi_imp {X : Cx} {tg e : Expr} {t t' : TI} (h : PI X tg e t) (i : ∀ σ H R, t' σ H R → t σ H R) : PI X tg e t' := ⟨fun pins s σ H R I q => h.run pins s σ H R I (i σ H R q)⟩

def nameG (i : Nat) : Fg := fun d env => if i < env.length then some (env.set i (.d d)) else none
def setsG : List Nat → List D → Ev → Option Ev
  | [], [], env => some env
  | i :: is, d :: ds, env => if i < env.length then setsG is ds (env.set i (.d d)) else none
  | _, _, _ => none
def tupG (is : List Nat) : Fg := fun d env => match d with
  | .tup ds => setsG is ds env
  | _ => none
section
variable {X : Cx} {W : WX} {pn : List Nat} {pos : Pos}
theorem g_name {i : Nat} {x : Str} (h : PG X (.Name x pos) (gName i)) (hp : pn.contains i = false) : VG X pn (.Name x pos) (nameG i) := by
  refine pg_imp h fun v σ H Q h => ?_
  obtain ⟨env, av, own, d, hs, w, r, h⟩ := h
  unfold nameG at h
  by_cases hl : i < env.length
  · rw [if_pos hl] at h
    obtain ⟨av2, own2, A2, w2, s2⟩ := Slots.put (fp := []) (Adv.refl w) w hs hl (.d r)
    exact h _ av2 own2 (Pn.set hp) A2 w2 s2
  · rw [if_neg hl] at h
    exact h.elim
/-- several names -/
def tGs (K : PySem.W.Frag) (pn : List Nat) (is : List Nat) : TGs := fun vs σ H Q => ∃ (env : Ev) (av : Addr → Prop) (own : List Addr) (ds : List D), Slots K av H σ env own ∧ OkW av H own ∧ RDs K av H vs ds ∧
  GPost K pn av H own σ Q (setsG is ds env)
abbrev VGs (X : Cx) (pn : List Nat) (ts : List Expr) (is : List Nat) : Prop := PGs X ts (tGs X.K pn is)
theorem pgs_imp {X : Cx} {e : List Expr} {t t' : TGs} (h : PGs X e t) (i : ∀ v σ H Q, t' v σ H Q → t v σ H Q) : PGs X e t' := ⟨fun pins s σ H v u Q I r q => h.run pins s σ H v u Q I r (i v σ H Q q)⟩
theorem gs_nil : VGs X pn [] [] := by
  refine pgs_imp pgs_nil fun vs σ H Q h => ?_
  obtain ⟨env, av, own, ds, hs, w, r, h⟩ := h
  cases r with
  | nil => exact ⟨rfl, h σ av own (Pn.refl pn σ) (Adv.refl w) w hs⟩
  | cons a b => exact h.elim
theorem gs_cons {i : Nat} {is : List Nat} {x : Str} {ts : List Expr} (h : PG X (.Name x pos) (gName i)) (hp : pn.contains i = false) (ht : VGs X pn ts is)
    (hs : (assignEach (.Name x pos :: ts) X.env).map (·.2) = assign (.Name x pos) X.env :: (assignEach ts X.env).map (·.2) := by rfl) : VGs X pn (.Name x pos :: ts) (i :: is) := by
  refine pgs_imp (pgs_cons h ht hs) fun vs σ H Q h => ?_
  obtain ⟨env, av, own, ds, hs, w, r, h⟩ := h
  cases r with
  | nil => exact h.elim
  | cons a b =>
    rename_i v d vs ds
    refine ⟨v, vs, rfl, ?_⟩
    have h' : GPost X.K pn av H own σ Q (if i < env.length then setsG is ds (env.set i (.d d)) else none) := h
    by_cases hl : i < env.length
    · rw [if_pos hl] at h'
      obtain ⟨av2, own2, A2, w2, s2⟩ := Slots.put (fp := []) (Adv.refl w) w hs hl (.d a)
      refine ⟨_, av2, own2, ds, s2, w2, b.keep (A2.keep w), ?_⟩
      cases q : setsG is ds (env.set i (.d d)) with
      | none => rw [q] at h'; exact h'
      | some env' =>
        rw [q] at h'
        exact fun σ' av' own' p A3 w3 s3 => h' σ' av' own' ((Pn.set hp).trans p) (Adv.trans (t := []) (u := []) w w2 A2 A3) w3 s3
    · rw [if_neg hl] at h'
      exact h'.elim
theorem g_tup {es : List Expr} {k : Nat} {is : List Nat} (hc : X.calm = true) (h : VGs X pn es is) (hn : (assignEach es X.env).length = is.length := by rfl) (hst : (assignEach es X.env).findIdx? (·.1) = none := by rfl) : VG X pn (.Tuple es k pos) (tupG is) := by
  refine pg_imp (pg_tup hc h hn hst) fun v σ H Q h => ?_
  obtain ⟨env, av, own, d, hs, w, r, h⟩ := h
  unfold tupG at h
  cases d <;> first | exact h.elim | skip
  rename_i ds
  obtain ⟨a, vs, rfl, e1, e2⟩ := (RV.d r).tup
  have hl : ∀ (is : List Nat) (ds : List D) (env : Ev) (env' : Ev), setsG is ds env = some env' → ds.length = is.length := by
    intro is
    induction is with
    | nil =>
      intro ds env env' q
      cases ds with
      | nil => rfl
      | cons _ _ => cases q
    | cons i is ih =>
      intro ds env env' q
      cases ds with
      | nil => cases q
      | cons d ds =>
        unfold setsG at q
        split at q
        · rw [List.length_cons, List.length_cons, ih _ _ _ q]
        · cases q
  have h' : GPost X.K pn av H own σ Q (setsG is ds env) := h
  refine ⟨a, vs, rfl, e1, ?_, env, av, own, ds, hs, w, e2, h'⟩
  cases q : setsG is ds env with
  | none => rw [q] at h'; exact h'.elim
  | some env' => rw [e2.length, hl _ _ _ _ q]
/-- a, b = e -/
def nxO : Option Ev → SRes
  | some env' => .nx env'
  | none => .st
def unS (is : List Nat) (e : Fe) : Fs := fun env => (e env).then fun p => nxO (tupG is p.1.toD p.2)
theorem s_unpack {tg e : Expr} {is : List Nat} {fe : Fe} (he : VE X W e fe) (hg : VG X pn tg (tupG is)) (hs : swapsWithSole [tg] e pos.line X.env = pure false := by rfl) (hw : swappedStores [tg] e X.env = pure none := by rfl)
    (h1 : (assignEach [tg] X.env).map (·.2) = [assign tg X.env] := by rfl) : VS X W pn (.Assign [tg] e pos) (unS is fe) := by
  refine ps_imp (ps_asg he hg hs hw h1) fun G σ H h => ?_
  obtain ⟨env, av, own, hs, w, h⟩ := h
  refine ⟨env, av, own, hs, w, ?_⟩
  unfold unS at h
  cases q : fe env with
  | st => rw [q] at h; exact h
  | ex c x e => rw [q] at h; exact SPost.exc h
  | ok p =>
    obtain ⟨o, env1⟩ := p
    rw [q] at h
    intro v H1 av1 fp own1 A w1 hr hs1
    have h' : SPost X.K X.mg W pn av H own σ G (nxO (tupG is o.toD env1)) := h
    cases q2 : tupG is o.toD env1 with
    | none => rw [q2] at h'; exact h'.elim
    | some env2 =>
      rw [q2] at h'
      cases o with
      | d x =>
        cases hr with | d r =>
          refine ⟨env1, av1, own1, x, hs1, w1, r, ?_⟩
          rw [show tupG is x env1 = some env2 from q2]
          exact fun σ' av' own' p A3 w3 s3 => h' σ' H1 av' own' p (Adv.trans (t := []) (u := []) w w1 A A3) w3 s3
      | un => cases q2
      | fl _ => cases q2
      | ob _ _ => cases q2
end

/-- behind a turn -/
def forNext (r : SRes) (k : Ev → SRes) : SRes := match r with
  | .nx e => k e
  | .ct e => k e
  | .bk e => .nx e
  | r => r
@[simp] theorem forNext_nx (e : Ev) (k : Ev → SRes) : forNext (.nx e) k = k e := (rfl)
@[simp] theorem forNext_ct (e : Ev) (k : Ev → SRes) : forNext (.ct e) k = k e := (rfl)
@[simp] theorem forNext_bk (e : Ev) (k : Ev → SRes) : forNext (.bk e) k = .nx e := (rfl)
@[simp] theorem forNext_rt (o : O) (e : Ev) (k : Ev → SRes) : forNext (.rt o e) k = .rt o e := (rfl)
@[simp] theorem forNext_ex (c : Str) (x : D) (e : Ev) (k : Ev → SRes) : forNext (.ex c x e) k = .ex c x e := (rfl)
@[simp] theorem forNext_st (k : Ev → SRes) : forNext .st k = .st := (rfl)
def forL (tgt : Fg) (body : Fs) : List D → Ev → SRes
  | [], env => .nx env
  | d :: ds, env => match tgt d env with
    | none => .st
    | some env1 => forNext (body env1) (forL tgt body ds)
def forS (src : Fi) (tgt : Fg) (body : Fs) : Fs := fun env => (src env).then fun p => forL tgt body p.1 p.2
section
variable {X : Cx} {W : WX} {pn : List Nat} {pos : Pos}
theorem s_for {tg iter : Expr} {body : List Stmt} {src : Fi} {tgt : Fg} {f : Fs} (hp : PassesOwn (model X.prog X.w) X.A X.env X.xe) (hc : X.calm = true) (hi : VI X W tg iter src) (hg : VG X pn tg tgt) (hb : VB X W pn body f)
    (hs : ∀ x, foldedSetIterable iter X.env x = pure x := by intro _; rfl) : VS X W pn (.For tg iter body [] pos) (forS src tgt f) := by
  refine ps_imp (ps_for hp hc hi hg hb hs) fun G σ H h => ?_
  obtain ⟨env, av, own, hs, w, h⟩ := h
  refine ⟨env, av, own, hs, w, ?_⟩
  unfold forS at h
  cases q : src env with
  | st => rw [q] at h; exact h
  | ex c x e => rw [q] at h; exact SPost.exc h
  | ok p =>
    obtain ⟨ds, env1⟩ := p
    rw [q] at h
    intro J H1 av1 own1 A1 w1 hs1 Y
    have h1 : SPost X.K X.mg W pn av1 H1 own1 σ G (forL tgt f ds env1) := SPost.step w w1 (Pn.refl pn σ) A1 h
    refine ⟨fun i m σ' H' => ∃ (env' : Ev) (av' : Addr → Prop) (own' : List Addr), Pn pn σ σ' ∧ Adv av1 H1 own1 av' H' own' ∧ OkW av' H' own' ∧ Slots X.K av' H' σ' env' own' ∧ m = ds.length - i ∧ i ≤ ds.length ∧
      SPost X.K X.mg W pn av1 H1 own1 σ G (forL tgt f (ds.drop i) env'), ⟨ds.length, env1, av1, own1, Pn.refl pn σ, Adv.refl w1, w1, hs1, rfl, Nat.zero_le _, h1⟩, ?_⟩
    rintro i m σ' H' ⟨env', av', own', pn', A', w', s', rfl, hi, hq⟩
    have k := A'.keep w1
    by_cases hl : i < ds.length
    · right
      refine ⟨Y.go av' H' k i hl, fun σ2 H2 => ∃ (env' : Ev) (av' : Addr → Prop) (own' : List Addr), Pn pn σ σ2 ∧ Adv av1 H1 own1 av' H2 own' ∧ OkW av' H2 own' ∧ Slots X.K av' H2 σ2 env' own' ∧
        SPost X.K X.mg W pn av1 H1 own1 σ G (forL tgt f (ds.drop (i + 1)) env'), fun σ2 H2 ⟨e2, a2, o2, p2, A2, w2, s2, q2⟩ => ⟨ds.length - (i + 1), by omega, e2, a2, o2, p2, A2, w2, s2, rfl, hl, q2⟩, fun x H'' y => ?_⟩
      obtain ⟨gr, rd⟩ := Y.yld av' H' k w'.dom i x H'' ds[i] (List.getElem?_eq_getElem hl) y
      have A'' := A'.grow gr
      have w'' := w'.grow gr
      have s'' := s'.grow (σ := σ') (env := env') gr (fun _ z => z)
      refine ⟨env', av', own', ds[i], s'', w'', rd, ?_⟩
      rw [List.drop_eq_getElem_cons hl] at hq
      unfold forL at hq
      cases qt : tgt ds[i] env' with
      | none => rw [qt] at hq; exact hq.elim
      | some env2 =>
        rw [qt] at hq
        have hq : SPost X.K X.mg W pn av1 H1 own1 σ G (forNext (f env2) (forL tgt f (ds.drop (i + 1)))) := hq
        intro σ2 av2 own2 p2 A2 w2 s2
        refine ⟨env2, av2, own2, s2, w2, ?_⟩
        have AA := Adv.trans (t := []) (u := []) w1 w'' A'' A2
        have pp := pn'.trans p2
        cases qb : f env2 with
        | st => rw [qb] at hq; exact hq
        | nx e =>
          rw [qb] at hq
          exact fun σ3 H3 av3 own3 p3 A3 w3 s3 => ⟨e, av3, own3, pp.trans p3, Adv.trans (t := []) (u := []) w1 w2 AA A3, w3, s3, hq⟩
        | ct e =>
          rw [qb] at hq
          exact fun σ3 H3 av3 own3 p3 A3 w3 s3 => ⟨e, av3, own3, pp.trans p3, Adv.trans (t := []) (u := []) w1 w2 AA A3, w3, s3, hq⟩
        | bk e =>
          rw [qb] at hq
          exact fun σ3 H3 av3 own3 p3 A3 w3 s3 => hq σ3 H3 av3 own3 (pp.trans p3) (Adv.trans (t := []) (u := []) w1 w2 AA A3) w3 s3
        | rt o e =>
          rw [qb] at hq
          exact SPost.step (r := .rt o e) w1 w2 pp AA hq
        | ex c x e =>
          rw [qb] at hq
          exact SPost.step (r := .ex c x e) w1 w2 pp AA hq
    · have e : i = ds.length := by omega
      subst e
      left
      refine ⟨Y.stop av' H' k, ?_⟩
      rw [List.drop_length] at hq
      exact hq σ' H' av' own' pn' A' w' s'
def whileF (t : Ft) (b : Fs) : Nat → Ev → SRes
  | 0, _ => .st
  | n + 1, env => (t env).then fun p => if p.1 then forNext (b p.2) (whileF t b n) else .nx p.2
theorem s_while {c : Expr} {body : List Stmt} {t : Ft} {f : Fs} {n : Ev → Nat} (hp : PassesOwn (model X.prog X.w) X.A X.env X.xe) (hc : VT X W c t) (hb : VB X W pn body f) : VS X W pn (.While c body [] pos) (fun env => whileF t f (n env) env) := by
  refine ps_imp (ps_while hp hc hb) fun G σ H h => ?_
  obtain ⟨env, av, own, hs, w, h⟩ := h
  refine ⟨fun m σ' H' => ∃ (env' : Ev) (av' : Addr → Prop) (own' : List Addr), Pn pn σ σ' ∧ Adv av H own av' H' own' ∧ OkW av' H' own' ∧ Slots X.K av' H' σ' env' own' ∧ SPost X.K X.mg W pn av H own σ G (whileF t f m env'),
    ⟨n env, env, av, own, Pn.refl pn σ, Adv.refl w, w, hs, h⟩, ?_⟩
  rintro m σ1 H1 ⟨env1, av1, own1, p1, A1, w1, s1, hq⟩
  refine ⟨env1, av1, own1, s1, w1, ?_⟩
  cases m with
  | zero => exact hq.elim
  | succ m =>
    unfold whileF at hq
    cases qt : t env1 with
    | st => rw [qt] at hq; exact hq
    | ex c x e =>
      rw [qt] at hq
      exact SPost.exc (SPost.step w w1 p1 A1 hq)
    | ok r =>
      obtain ⟨k, env2⟩ := r
      rw [qt] at hq
      intro H2 av2 own2 A2 w2 s2
      have AA := Adv.trans (t := []) (u := []) w w1 A1 A2
      cases k with
      | false => exact hq σ1 H2 av2 own2 p1 AA w2 s2
      | true =>
        rw [if_pos rfl]
        refine ⟨fun σ3 H3 => ∃ (env' : Ev) (av' : Addr → Prop) (own' : List Addr), Pn pn σ σ3 ∧ Adv av H own av' H3 own' ∧ OkW av' H3 own' ∧ Slots X.K av' H3 σ3 env' own' ∧ SPost X.K X.mg W pn av H own σ G (whileF t f m env'),
          fun σ3 H3 z => ⟨m, Nat.lt_succ_self m, z⟩, env2, av2, own2, s2, w2, ?_⟩
        have hq' : SPost X.K X.mg W pn av H own σ G (forNext (f env2) (whileF t f m)) := hq
        cases qb : f env2 with
        | st => rw [qb] at hq'; exact hq'
        | nx e =>
          rw [qb] at hq'
          exact fun σ3 H3 av3 own3 p3 A3 w3 s3 => ⟨e, av3, own3, p1.trans p3, Adv.trans (t := []) (u := []) w w2 AA A3, w3, s3, hq'⟩
        | ct e =>
          rw [qb] at hq'
          exact fun σ3 H3 av3 own3 p3 A3 w3 s3 => ⟨e, av3, own3, p1.trans p3, Adv.trans (t := []) (u := []) w w2 AA A3, w3, s3, hq'⟩
        | bk e =>
          rw [qb] at hq'
          exact fun σ3 H3 av3 own3 p3 A3 w3 s3 => hq' σ3 H3 av3 own3 (p1.trans p3) (Adv.trans (t := []) (u := []) w w2 AA A3) w3 s3
        | rt o e =>
          rw [qb] at hq'
          exact SPost.step (r := .rt o e) w w2 p1 AA hq'
        | ex c x e =>
          rw [qb] at hq'
          exact SPost.step (r := .ex c x e) w w2 p1 AA hq'
end
end VL

set_option Elab.async false
set_option linter.all false
set_option maxRecDepth 100000
namespace VL
open PySem PySem.Spec PyProof.Rows L2

def rangeL (lo : Int) (n : Nat) : List D := (List.range n).map fun i => D.int (lo + (i : Nat))
theorem rangeL_length (lo : Int) (n : Nat) : (rangeL lo n).length = n := by unfold rangeL; rw [List.length_map, List.length_range]
/-- the numbers that range may walk -/
def okR (i : Int) : Bool := decide (-(2 ^ 62) ≤ i) && decide (i < 2 ^ 62)
theorem okR_ok {i : Int} (h : okR i = true) : -(2 ^ 62) ≤ i ∧ i < 2 ^ 62 := by
  unfold okR at h
  rw [Bool.and_eq_true, decide_eq_true_iff, decide_eq_true_iff] at h
  exact h
def rangeD1 : List D → Option (List D)
  | [.int j] => if okR j then some (rangeL 0 j.toNat) else none
  | _ => none
def rangeD2 : List D → Option (List D)
  | [.int i, .int j] => if okR i && okR j then some (rangeL i (j - i).toNat) else none
  | _ => none
/-- a source of operands that are not kept -/
def srcN (g : List D → Option (List D)) (as : List Opd) : Fi := fun env => (evA as env).bind fun p =>
  if p.1.all (Arg.good p.2) then (match g (p.1.map (Arg.look p.2)) with
    | some ds => .ok (ds, p.2)
    | none => .st) else .st
/-- a source of operands that stay as they are meanwhile -/
def srcC (g : List D → Option (List D)) (as : List Opd) : Fi := fun env => (evA as env).bind fun p =>
  if p.1.all (Arg.data p.2) then (match g (p.1.map (Arg.look p.2)) with
    | some ds => .ok (ds, p.2)
    | none => .st) else .st
def optR {α : Type} (r : Option (List D)) (env : Ev) (k : List D × Ev → ER α) : ER α := match r with
  | some ds => k (ds, env)
  | none => .st
section
variable {K : PySem.W.Frag} {mg : Str → Option Value} {W : WX} {av av1 : Addr → Prop} {H H1 : Hp} {own own1 t : List Addr} {σ : L2.St}
theorem yields_range (lo : Int) (n : Nat) : Yields K av H (Itr lo n) (rangeL lo n) where
  go := fun av' H' k i hi => by
    rw [rangeL_length] at hi
    exact hi
  yld := fun av' H' k dm i x H'' d hd y => by
    obtain ⟨rfl, rfl⟩ := y
    refine ⟨Grow.refl _, ?_⟩
    unfold rangeL at hd
    rw [List.getElem?_map] at hd
    cases q : (List.range n)[i]? with
    | none => rw [q] at hd; cases hd
    | some j =>
      rw [q] at hd
      have e : j = i := by
        obtain ⟨h1, h2⟩ := List.getElem?_eq_some_iff.mp q
        rw [List.getElem_range] at h2
        exact h2.symm
      subst e
      cases hd
      exact .int _
  stop := fun av' H' k => by
    show n ≤ _
    rw [rangeL_length]
    exact Nat.le_refl n
theorem yields_list {a : Addr} {vs : List V} {ds : List D} (n : ¬ av a) (h : H a = some (.lst vs)) (r : RDs K av H vs ds) : Yields K av H (Itl K a) ds where
  go := fun av' H' k i hi => by
    obtain ⟨v, e, _⟩ := r.getD (List.getElem?_eq_getElem hi)
    exact ⟨vs, v, SqL.of (k.at_ a _ n h), e⟩
  yld := fun av' H' k dm i x H'' d hd y => by
    obtain ⟨rfl, y⟩ := y
    obtain ⟨v, e, q⟩ := r.getD hd
    have e2 := y vs (SqL.of (k.at_ a _ n h))
    rw [e] at e2
    cases e2
    exact ⟨Grow.refl _, q.keep k⟩
  stop := fun av' H' k => ⟨vs, SqL.of (k.at_ a _ n h), by rw [r.length]; exact Nat.le_refl _⟩
theorem yields_seqL {v : V} {d : D} {ds : List D} (h : RD K av H v d) (e : d.seqL = some ds) : ∃ a, v = .ref a ∧ (∃ vs, SqL K H a vs) ∧ Yields K av H (Itl K a) ds := by
  cases d <;> simp only [D.seqL, Option.some.injEq, reduceCtorEq] at e <;> subst e
  · cases h with | lst n e r => exact ⟨_, rfl, ⟨_, SqL.of e⟩, yields_list n e r⟩
  · have stable : ∀ {a : Addr} {vs : List V} {ds : List D}, (∀ av' H', Keep av av' H H' → SqL K H' a vs) → RDs K av H vs ds → Yields K av H (Itl K a) ds := fun {a vs ds} st r => ⟨fun av' H' k i hi => by
      obtain ⟨v, e, _⟩ := r.getD (List.getElem?_eq_getElem hi)
      exact ⟨vs, v, st av' H' k, e⟩, fun av' H' k dm i x H'' d hd y => by
      obtain ⟨rfl, y⟩ := y
      obtain ⟨v, e, q⟩ := r.getD hd
      have e2 := y vs (st av' _ k)
      rw [e] at e2
      cases e2
      exact ⟨Grow.refl _, q.keep k⟩, fun av' H' k => ⟨vs, st av' H' k, by rw [r.length]; exact Nat.le_refl _⟩⟩
    cases h with
    | scr n e r => exact ⟨_, rfl, ⟨_, .inl e⟩, stable (fun av' H' k => .inl (k.rd n e).2) r⟩
    | kscr e r => exact ⟨_, rfl, ⟨_, .inr e⟩, stable (fun av' H' k => .inr e) r⟩
theorem yields_tup {v : V} {ds : List D} (h : RD K av H v (.tup ds)) : ∃ a, v = .ref a ∧ (∃ vs, SqT K H a vs) ∧ Yields K av H (Itt K a) ds := by
  have stable : ∀ {a : Addr} {vs : List V} {ds : List D}, (∀ av' H', Keep av av' H H' → SqT K H' a vs) → RDs K av H vs ds → Yields K av H (Itt K a) ds := fun {a vs ds} st r => ⟨fun av' H' k i hi => by
      obtain ⟨v, e, _⟩ := r.getD (List.getElem?_eq_getElem hi)
      exact ⟨vs, v, st av' H' k, e⟩, fun av' H' k dm i x H'' d hd y => by
      obtain ⟨rfl, y⟩ := y
      obtain ⟨v, e, q⟩ := r.getD hd
      have e2 := y vs (st av' _ k)
      rw [e] at e2
      cases e2
      exact ⟨Grow.refl _, q.keep k⟩, fun av' H' k => ⟨vs, st av' H' k, by rw [r.length]; exact Nat.le_refl _⟩⟩
  cases h with
  | tup n e r => exact ⟨_, rfl, ⟨_, SqT.of e⟩, stable (fun av' H' k => SqT.of (k.at_ _ _ n e)) r⟩
  | ktup e r => exact ⟨_, rfl, ⟨_, .inr e⟩, stable (fun av' H' k => .inr e) r⟩
/-- .. as a source gives it on -/
theorem srcN_ok {g : List D → Option (List D)} {as : List Opd} {R : It → Hp → Prop} (h : tI K mg W (srcN g as) σ H R) : tArg K mg W as σ H fun vs H1 => ∃ (av1 : Addr → Prop) (l : List D) (ds : List D), RVs K av1 H1 vs l ∧ g l = some ds ∧
    ∀ J, (∀ av2 H2, Yields K av2 H2 J ds) → R J H1 := by
  obtain ⟨env, av, own, hs, w, h⟩ := h
  refine args_ok as hs w ?_
  unfold srcN at h
  cases q : evA as env with
  | st => rw [q] at h; exact h
  | ex c x e => rw [q] at h; exact h
  | ok p =>
    obtain ⟨l, env'⟩ := p
    rw [q] at h
    intro vs H1 av1 t own1 A w1 ha hs1
    have h' : IPost K mg W av H own σ R (if l.all (Arg.good env') then optR (g (l.map (Arg.look env'))) env' .ok else .st) := h
    cases hg : l.all (Arg.good env') with
    | false => rw [hg, if_neg Bool.false_ne_true] at h'; exact h'.elim
    | true =>
      rw [hg, if_pos rfl] at h'
      cases hr : g (l.map (Arg.look env')) with
      | none => rw [hr] at h'; exact h'.elim
      | some ds =>
        rw [hr] at h'
        exact ⟨av1, _, ds, ha.view hs1 hg, hr, fun J Y => h' J H1 _ own1 (Adv.drop A) (OkW.drop A w1) (hs1.grow (σ := σ) (env := env') (Grow.refl _) (drp_sub A)) (Y _ _)⟩
theorem srcC_ok {g : List D → Option (List D)} {as : List Opd} {R : It → Hp → Prop} (h : tI K mg W (srcC g as) σ H R) : tArg K mg W as σ H fun vs H1 => ∃ (av1 : Addr → Prop) (l : List D) (ds : List D), Dom av1 H1 ∧ RDs K av1 H1 vs l ∧ g l = some ds ∧
    ∀ J, Yields K av1 H1 J ds → R J H1 := by
  obtain ⟨env, av, own, hs, w, h⟩ := h
  refine args_ok as hs w ?_
  unfold srcC at h
  cases q : evA as env with
  | st => rw [q] at h; exact h
  | ex c x e => rw [q] at h; exact h
  | ok p =>
    obtain ⟨l, env'⟩ := p
    rw [q] at h
    intro vs H1 av1 t own1 A w1 ha hs1
    have h' : IPost K mg W av H own σ R (if l.all (Arg.data env') then optR (g (l.map (Arg.look env'))) env' .ok else .st) := h
    cases hg : l.all (Arg.data env') with
    | false => rw [hg, if_neg Bool.false_ne_true] at h'; exact h'.elim
    | true =>
      rw [hg, if_pos rfl] at h'
      cases hr : g (l.map (Arg.look env')) with
      | none => rw [hr] at h'; exact h'.elim
      | some ds =>
        rw [hr] at h'
        refine ⟨drp av own own1, _, ds, (OkW.drop A w1).dom, ha.frozen hs1 (drp_sub A) (fun a m z => ?_) hg, hr, fun J Y => h' J H1 _ own1 (Adv.drop A) (OkW.drop A w1) (hs1.grow (σ := σ) (env := env') (Grow.refl _) (drp_sub A)) Y⟩
        rcases z with z | z
        · rcases A.fresh a (List.mem_append_left _ m) with q | q
          · exact z.2 q
          · have := w.dom a z.1
            rw [q] at this; cases this
        · exact w1.apart a m z
end
def seqLD : List D → Option (List D)
  | [d] => d.seqL
  | _ => none
def tupLD : List D → Option (List D)
  | [.tup ds] => some ds
  | _ => none
section
variable {X : Cx} {W : WX} {pos : Pos} {e e2 tg : Expr} {o o2 : Opd}
theorem i_list (h : VO X W e o) : VI X W tg e (srcC seqLD [o]) := by
  refine pi_imp (pi_list h) fun σ H R h => tOpd_mono (fun x H1 h => ?_) (srcC_ok h)
  obtain ⟨av1, l, ds, dm, r, hg, k⟩ := h
  cases r with | cons r rr =>
    cases rr
    obtain ⟨a, rfl, h1, Y⟩ := yields_seqL r hg
    exact ⟨a, rfl, h1, k _ Y⟩
theorem i_tup (h : VO X W e o) : VI X W tg e (srcC tupLD [o]) := by
  refine pi_imp (pi_tup h) fun σ H R h => tOpd_mono (fun x H1 h => ?_) (srcC_ok h)
  obtain ⟨av1, l, ds, dm, r, hg, k⟩ := h
  cases r with | cons r rr =>
    cases rr
    rename_i d
    cases d <;> first | (cases hg; done) | skip
    cases hg
    obtain ⟨a, rfl, h1, Y⟩ := yields_tup r
    exact ⟨a, rfl, h1, k _ Y⟩
theorem i_range1 {p : Pos} {os : List Opd} (hg : Gl X "range") (hm : X.mg "range" = none) (h : VA X W [e] os) (hs : starEach [e] X.env = [(false, eval e X.env)] := by rfl) : VI X W tg (.Call (.Name "range" p) [e] [] pos) (srcN rangeD1 os) := by
  refine pi_imp (pi_range1 hg hm h hs) fun σ H R h => tArg_mono (fun vs H1 h => ?_) (srcN_ok h)
  obtain ⟨av1, l, ds, r, hg, k⟩ := h
  unfold rangeD1 at hg
  split at hg
  · rename_i j
    split at hg
    · rename_i hj
      cases hg
      obtain ⟨v, rfl, r1⟩ := r.one
      rw [r1.int]
      exact ⟨j, rfl, (okR_ok hj).1, (okR_ok hj).2, k _ fun av2 H2 => yields_range 0 j.toNat⟩
    · cases hg
  · cases hg
theorem i_range2 {p : Pos} {os : List Opd} (hg : Gl X "range") (hm : X.mg "range" = none) (h : VA X W [e, e2] os) (hs : starEach [e, e2] X.env = [(false, eval e X.env), (false, eval e2 X.env)] := by rfl) (hs2 : starEach [e2] X.env = [(false, eval e2 X.env)] := by rfl) :
    VI X W tg (.Call (.Name "range" p) [e, e2] [] pos) (srcN rangeD2 os) := by
  refine pi_imp (pi_range2 hg hm h hs hs2) fun σ H R h => tArg_mono (fun vs H1 h => ?_) (srcN_ok h)
  obtain ⟨av1, l, ds, r, hg, k⟩ := h
  unfold rangeD2 at hg
  split at hg
  · rename_i i j
    split at hg
    · rename_i hj
      rw [Bool.and_eq_true] at hj
      cases hg
      obtain ⟨v, w, rfl, r1, r2⟩ := r.two
      rw [r1.int, r2.int]
      exact ⟨i, j, rfl, ⟨(okR_ok hj.1).1, (okR_ok hj.1).2, (okR_ok hj.2).1, (okR_ok hj.2).2⟩, k _ fun av2 H2 => yields_range i (j - i).toNat⟩
    · cases hg
  · cases hg
end

/-- the slots of a comprehension's own names are cleared -/
def wipeE (env : Ev) : List Nat → Ev
  | [] => env
  | v :: vs => (wipeE env vs).set v .un
/-- .. and given back -/
def backE (env' env1 : Ev) : List Nat → Ev
  | [] => env'
  | v :: vs => (backE env' env1 vs).set v (env1.getD v .un)
def O.free : O → Bool
  | .un => true
  | .d _ => true
  | _ => false
def frees (vs : List Nat) (env : Ev) : Bool := vs.all fun v => (env.getD v .un).free && decide (v < env.length)
/-- behind a turn that gave o -/
def lcOn (vs : List Nat) (acc : List D) (k : Ev → List D → ER (List D × Ev)) (p : O × Ev) : ER (List D × Ev) :=
  if p.1.isUn || !decide (acc.length < 16777216) || !frees vs p.2 then .st else k (wipeE p.2 vs) (acc ++ [p.1.toD])
/-- no exception leaves a comprehension -/
def ER.calm {α β : Type} (r : ER α) (k : α → ER β) : ER β := match r with
  | .ok a => k a
  | _ => .st
@[simp] theorem ER.calm_ok {α β : Type} (a : α) (k : α → ER β) : (ER.ok a).calm k = k a := (rfl)
def lcL (vs : List Nat) (tgt : Fg) (test : Ft) (elt : Fe) : List D → Ev → List D → ER (List D × Ev)
  | [], env, acc => .ok (acc, env)
  | d :: ds, env, acc => match tgt d env with
    | none => .st
    | some env2 => (test env2).calm fun q =>
      if q.1 then (elt q.2).calm (lcOn vs acc (lcL vs tgt test elt ds)) else if frees vs q.2 then lcL vs tgt test elt ds (wipeE q.2 vs) acc else .st
def lcE (vs : List Nat) (src : Fi) (tgt : Fg) (test : Ft) (elt : Fe) : Fe := fun env => (src env).bind fun p =>
  if frees vs p.2 then (lcL vs tgt test elt p.1 (wipeE p.2 vs) []).bind fun q => .ok (.fl q.1, backE q.2 p.2 vs) else .st
def yesT : Ft := fun env => .ok (true, env)
section
variable {K : PySem.W.Frag} {mg : Str → Option Value} {W : WX} {av av1 av' : Addr → Prop} {H H1 H' : Hp} {own own1 t : List Addr} {σ : L2.St}
theorem Slots.swap {env : Ev} {i : Nat} {s' : Option V} {o' : O} (hs : Slots K av H σ env own) (hi : i < env.length) (hf : (env.getD i .un).free = true) (h : SR K av H s' o' []) : Slots K av H (σ.set i s') (env.set i o') own := by
  obtain ⟨s, A, fp, B, e, e1, e2, g⟩ := hs.focus hi
  have z := g (.grow (Grow.refl _) fun _ h => h) (fun _ _ _ e => e) h
  have efp : fp = [] := by
    cases q : env.getD i .un with
    | un => rw [q] at e2; cases e2; rfl
    | d x => rw [q] at e2; cases e2; rfl
    | fl _ => rw [q] at hf; cases hf
    | ob _ _ => rw [q] at hf; cases hf
  subst efp
  rw [e]
  exact z
theorem wipeE_length (env : Ev) : ∀ vs : List Nat, (wipeE env vs).length = env.length
  | [] => rfl
  | v :: vs => by unfold wipeE; rw [List.length_set, wipeE_length env vs]
theorem backE_length (env' env1 : Ev) : ∀ vs : List Nat, (backE env' env1 vs).length = env'.length
  | [] => rfl
  | v :: vs => by unfold backE; rw [List.length_set, backE_length env' env1 vs]
theorem getD_set {env : Ev} {i j : Nat} {o : O} : (env.set i o).getD j .un = if i = j ∧ j < env.length then o else env.getD j .un := by
  rw [List.getD_eq_getElem?_getD, List.getD_eq_getElem?_getD, List.getElem?_set]
  by_cases e : i = j
  · subst e
    by_cases h : i < env.length
    · simp [h]
    · simp [h]
  · simp [e]
theorem wipeE_free {env : Ev} {v : Nat} (h : (env.getD v .un).free = true) : ∀ vs : List Nat, ((wipeE env vs).getD v .un).free = true
  | [] => h
  | w :: vs => by
    unfold wipeE
    rw [getD_set]
    split
    · rfl
    · exact wipeE_free h vs
theorem backE_free {env' env1 : Ev} {v : Nat} (h : (env'.getD v .un).free = true) (h1 : (env1.getD v .un).free = true) : ∀ vs : List Nat, ((backE env' env1 vs).getD v .un).free = true
  | [] => h
  | w :: vs => by
    unfold backE
    rw [getD_set]
    split
    · rename_i e
      rw [e.1]
      exact h1
    · exact backE_free h h1 vs
theorem frees_at {vs : List Nat} {env : Ev} (h : frees vs env = true) : ∀ v, v ∈ vs → (env.getD v .un).free = true ∧ v < env.length := fun v m => by
  have := List.all_eq_true.mp h v m
  rw [Bool.and_eq_true, decide_eq_true_iff] at this
  exact this
theorem wipe_slots {env : Ev} : ∀ {vs : List Nat}, Slots K av H σ env own → (∀ v, v ∈ vs → (env.getD v .un).free = true ∧ v < env.length) → Slots K av H (wipe σ vs) (wipeE env vs) own
  | [], hs, _ => hs
  | v :: vs, hs, h => by
    have ih := wipe_slots (vs := vs) hs fun w m => h w (List.mem_cons_of_mem _ m)
    unfold wipe wipeE
    exact ih.swap (by rw [wipeE_length]; exact (h v List.mem_cons_self).2) (wipeE_free (h v List.mem_cons_self).1 vs) .un
theorem wipe_set {i : Nat} : ∀ {vs : List Nat}, i ∉ vs → (wipe σ vs).set i none = wipe (σ.set i none) vs
  | [], _ => rfl
  | v :: vs, h => by
    unfold wipe
    rw [List.set_comm _ _ (fun e => h (by rw [e]; exact List.mem_cons_self)), wipe_set (vs := vs) fun m => h (List.mem_cons_of_mem _ m)]
theorem back_slots {env' env1 : Ev} : ∀ {vs : List Nat} {σ : L2.St}, vs.Nodup → Slots K av H (wipe σ vs) env' own → (∀ v, v ∈ vs → (env'.getD v .un).free = true ∧ v < env'.length ∧ (env1.getD v .un).free = true ∧ ∃ s, σ[v]? = some s ∧ SR K av H s (env1.getD v .un) []) →
    Slots K av H σ (backE env' env1 vs) own
  | [], σ, _, hs, _ => hs
  | v :: vs, σ, nd, hs, h => by
    obtain ⟨n1, n2⟩ := List.nodup_cons.mp nd
    unfold wipe at hs
    rw [wipe_set n1] at hs
    obtain ⟨f1, f2, f3, s, e, r⟩ := h v List.mem_cons_self
    have ih := back_slots (vs := vs) (σ := σ.set v none) n2 hs fun w m => by
      obtain ⟨f1, f2, f3, s, e, r⟩ := h w (List.mem_cons_of_mem _ m)
      have ne : v ≠ w := fun z => n1 (by rw [z]; exact m)
      exact ⟨f1, f2, f3, s, by rw [List.getElem?_set_ne ne]; exact e, r⟩
    unfold backE
    have z := ih.swap (i := v) (by rw [backE_length]; exact f2) (backE_free f1 f3 vs) r
    have es : (σ.set v none).set v s = σ := by
      refine List.ext_getElem? fun j => ?_
      have lv := (List.getElem?_eq_some_iff.mp e).1
      by_cases hj : v = j
      · subst hj
        rw [List.getElem?_set_self (by simpa using lv), e]
      · rw [List.getElem?_set_ne hj, List.getElem?_set_ne hj]
    rw [es] at z
    exact z
theorem wipe_at {i : Nat} : ∀ {vs : List Nat}, i ∈ vs → i < σ.length → (wipe σ vs)[i]? = some none
  | v :: vs, m, h => by
    unfold wipe
    by_cases e : v = i
    · subst e
      rw [List.getElem?_set_self (by rw [wipe_length]; exact h)]
    · rw [List.getElem?_set_ne e]
      exact wipe_at ((List.mem_cons.mp m).resolve_left fun z => e z.symm) h
theorem wipe_pn {σ2 : L2.St} {vs pn : List Nat} {n : Nat} (p : Pn pn (wipe σ vs) σ2) (hl : σ.length = n) (hpn : ∀ i, i < n → i ∈ vs ∨ i ∈ pn) : wipe σ2 vs = wipe σ vs := by
  have l2 : σ2.length = σ.length := by rw [p.1, wipe_length]
  refine List.ext_getElem? fun i => ?_
  by_cases hi : i < n
  · by_cases m : i ∈ vs
    · rw [wipe_at m (by omega), wipe_at m (by omega)]
    · rw [wipe_out m]
      exact p.2 i ((hpn i hi).resolve_left m)
  · rw [List.getElem?_eq_none (by rw [wipe_length]; omega), List.getElem?_eq_none (by rw [wipe_length]; omega)]
end
theorem pe_impL {X : Cx} {e : Expr} {t t' : TE} (h : PE X e t) (i : ∀ σ H Q, σ.length = X.N.length → t' σ H Q → t σ H Q) : PE X e t' := ⟨fun pins s σ H Q I q => h.run pins s σ H Q I (i σ H Q I.len q)⟩
abbrev W0 : WX := fun _ _ _ _ => False
section
variable {K : PySem.W.Frag} {mg : Str → Option Value} {W : WX} {av av1 av2 av' : Addr → Prop} {H H1 H2 H' : Hp} {own own1 t : List Addr} {σ : L2.St}
theorem Keep.trans {av3 : Addr → Prop} {H3 : Hp} (a : Keep av1 av2 H1 H2) (b : Keep av2 av3 H2 H3) : Keep av1 av3 H1 H3 where
  own := fun x n h => by
    obtain ⟨o, e⟩ := Option.isSome_iff_exists.mp h
    exact b.own x (a.own x n h) (by rw [a.at_ x o n e]; rfl)
  at_ := fun x o n h => b.at_ x o (a.own x n (by rw [h]; rfl)) (a.at_ x o n h)
theorem Adv.write {p : Addr} {o : HO} (A : Adv av H own av1 H1 own1) (hp : p ∈ own1) : Adv av H own av1 (upd H1 p o) own1 where
  av_ := A.av_
  fresh := A.fresh
  ext := fun a u h n => by
    have ne : a ≠ p := fun e => by
      subst e
      rcases A.fresh a hp with z | z
      · exact n z
      · rw [h] at z; cases z
    rw [upd_ne ne]
    exact A.ext a u h n
  there := fun a h => by
    by_cases e : a = p
    · rw [e, upd_same]; rfl
    · rw [upd_ne e]
      exact A.there a h
theorem OkW.write {p : Addr} {o : HO} (w : OkW av H own) : OkW av (upd H p o) own := ⟨w.nodup, w.sub, fun a h => by
  by_cases e : a = p
  · rw [e, upd_same]; rfl
  · rw [upd_ne e]
    exact w.dom a h⟩
theorem Keep.write {p : Addr} {o : HO} (hp : av p) : Keep av av H (upd H p o) := ⟨fun _ n _ => n, fun a u n h => by
  rw [upd_ne (fun e => n (by rw [e]; exact hp))]
  exact h⟩
end
section
variable {X : Cx} {W : WX} {pos : Pos}
abbrev VTs (X : Cx) (ifs : List Expr) (f : Ft) : Prop := PTs X ifs (tTs X.K X.mg W0 f)
theorem pts_imp {X : Cx} {ifs : List Expr} {t t' : TT} (h : PTs X ifs t) (i : ∀ σ H Q, t' σ H Q → t σ H Q) : PTs X ifs t' := ⟨fun pins s σ H Q I q => h.run pins s σ H Q I (i σ H Q q)⟩
theorem ts_nil : VTs X [] yesT := pts_imp pts_nil fun σ H Q h => by
  obtain ⟨env, av, own, hs, w, h⟩ := h
  exact h H av own (Adv.refl w) w hs
theorem ts_one {c : Expr} {f : Ft} (h : VT X W0 c f) : VTs X [c] f := pts_one h
theorem lc_ok {K : PySem.W.Frag} {mg : Str → Option Value} {σ : L2.St} {H : Hp} {Q : VK} {vs pn : List Nat} {n : Nat} {src : Fi} {tgt : Fg} {test : Ft} {elt : Fe} (nd : vs.Nodup) (hl : σ.length = n) (hpn : ∀ i, i < n → i ∈ vs ∨ i ∈ pn)
    (h : tOf K mg W (lcE vs src tgt test elt) σ H Q) : tLc (tI K mg W src) (tG K pn tgt) (tTs K mg W0 test) (tOf K mg W0 elt) vs σ H Q := by
  obtain ⟨env, av, own, hs, w, h⟩ := h
  refine ⟨env, av, own, hs, w, ?_⟩
  unfold lcE at h
  cases q : src env with
  | st => rw [q] at h; exact h
  | ex c x e => rw [q] at h; exact h
  | ok p =>
    obtain ⟨ds, env1⟩ := p
    rw [q] at h
    intro J H1 av1 own1 A1 w1 hs1 Y Dd hD
    have h' : EPost K mg W av H own σ Q (if frees vs env1 then (lcL vs tgt test elt ds (wipeE env1 vs) []).bind fun q => .ok (.fl q.1, backE q.2 env1 vs) else .st) := h
    cases hf : frees vs env1 with
    | false => rw [hf, if_neg Bool.false_ne_true] at h'; exact h'.elim
    | true =>
      rw [hf, if_pos rfl] at h'
      have fr := frees_at hf
      have k1 := keep_new (o := .lst []) A1 hD
      refine ⟨fun i m H' => ∃ (env' : Ev) (av' : Addr → Prop) (own' : List Addr) (accV : List V) (acc : List D), Adv av H own av' H' (Dd :: own') ∧ OkW av' H' (Dd :: own') ∧ Keep av1 av' H1 H' ∧ H' Dd = some (.lst accV) ∧ RDs K av' H' accV acc ∧
          Slots K av' H' (wipe σ vs) env' own' ∧ (∀ v, v ∈ vs → (env'.getD v .un).free = true ∧ v < env'.length) ∧ m = ds.length - i ∧ i ≤ ds.length ∧
          EPost K mg W av H own σ Q ((lcL vs tgt test elt (ds.drop i) env' acc).bind fun q => .ok (.fl q.1, backE q.2 env1 vs)),
        ⟨ds.length, wipeE env1 vs, _, own1, [], [], A1.new hD, w1.new A1 hD, k1, upd_same, .nil, wipe_slots (Slots.keep (σ := σ) (env := env1) k1 hs1 fun a u m e => Grow.new hD a u e) fr, fun v m => ⟨wipeE_free (fr v m).1 vs, by rw [wipeE_length]; exact (fr v m).2⟩, rfl, Nat.zero_le _, h'⟩, ?_⟩
      rintro i m H' ⟨env', av', own', accV, acc, A', w', k', eD, rA, s', f', rfl, hi, hq⟩
      by_cases hlt : i < ds.length
      · right
        refine ⟨Y.go av' H' k' i hlt, fun H2 => ∃ (env' : Ev) (av' : Addr → Prop) (own' : List Addr) (accV : List V) (acc : List D), Adv av H own av' H2 (Dd :: own') ∧ OkW av' H2 (Dd :: own') ∧ Keep av1 av' H1 H2 ∧ H2 Dd = some (.lst accV) ∧ RDs K av' H2 accV acc ∧
            Slots K av' H2 (wipe σ vs) env' own' ∧ (∀ v, v ∈ vs → (env'.getD v .un).free = true ∧ v < env'.length) ∧ EPost K mg W av H own σ Q ((lcL vs tgt test elt (ds.drop (i + 1)) env' acc).bind fun q => .ok (.fl q.1, backE q.2 env1 vs)),
          fun H2 ⟨a1, a2, a3, a4, a5, a6, a7, a8, a9, b1, b2, b3, b4⟩ => ⟨ds.length - (i + 1), by omega, a1, a2, a3, a4, a5, a6, a7, a8, a9, b1, b2, b3, rfl, hlt, b4⟩, fun x H'' y => ?_⟩
        obtain ⟨gr, rd⟩ := Y.yld av' H' k' w'.dom i x H'' ds[i] (List.getElem?_eq_getElem hlt) y
        have A2 := A'.grow gr
        have w2 := w'.grow gr
        have k2 : Keep av1 av' H1 H'' := k'.trans (.grow gr fun _ z => z)
        have s2 := s'.grow (σ := wipe σ vs) (env := env') gr (fun _ z => z)
        have eD2 := gr _ _ eD
        have rA2 : RDs K av' H'' accV acc := rA.keep (.grow gr fun _ z => z)
        have w2t : OkW av' H'' own' := OkW.tail (t := [Dd]) w2
        rw [List.drop_eq_getElem_cons hlt] at hq
        unfold lcL at hq
        refine ⟨env', av', own', ds[i], s2, w2t, rd, ?_⟩
        cases qt : tgt ds[i] env' with
        | none => rw [qt] at hq; exact hq.elim
        | some env2 =>
          rw [qt] at hq
          have hq : EPost K mg W av H own σ Q (((test env2).calm fun q =>
            if q.1 then (elt q.2).calm (lcOn vs acc (lcL vs tgt test elt (ds.drop (i + 1)))) else if frees vs q.2 then lcL vs tgt test elt (ds.drop (i + 1)) (wipeE q.2 vs) acc else .st).bind fun q => .ok (.fl q.1, backE q.2 env1 vs)) := hq
          intro σ3 av3 own3 p3 A3 w3 s3
          have hwp := wipe_pn p3 hl hpn
          refine ⟨hwp, env2, av3, own3, s3, w3, ?_⟩
          have B3 := Adv.trans (t := [Dd]) (u := []) w w2 A2 A3
          have v3 := OkW.trans (t := [Dd]) (u := []) w2 A3 w3
          have k3 := k2.trans (A3.keep w2t)
          have eD3 : H'' Dd = some (.lst accV) := A3.ext _ _ eD2 (w2.apart (t := [Dd]) Dd (by simp))
          have rA3 := rA2.keep (A3.keep w2t)
          cases qe : test env2 with
          | st => rw [qe] at hq; exact hq
          | ex c x e => rw [qe] at hq; exact hq.elim
          | ok r =>
            obtain ⟨b, env3⟩ := r
            rw [qe] at hq
            intro H4 av4 own4 A4 w4 s4
            have B4 := Adv.trans (t := [Dd] ++ []) (u := []) w v3 B3 A4
            have v4 := OkW.trans (t := [Dd] ++ []) (u := []) v3 A4 w4
            have k4 := k3.trans (A4.keep w3)
            have eD4 : H4 Dd = some (.lst accV) := A4.ext _ _ eD3 (v3.apart (t := [Dd] ++ []) Dd (by simp))
            have rA4 := rA3.keep (A4.keep w3)
            cases b with
            | false =>
              have hq : EPost K mg W av H own σ Q ((if frees vs env3 then lcL vs tgt test elt (ds.drop (i + 1)) (wipeE env3 vs) acc else .st).bind fun q => .ok (.fl q.1, backE q.2 env1 vs)) := hq
              cases ff : frees vs env3 with
              | false => rw [ff, if_neg Bool.false_ne_true] at hq; exact hq.elim
              | true =>
                rw [ff, if_pos rfl] at hq
                have fr4 := frees_at ff
                have s5 := wipe_slots s4 fr4
                rw [hwp] at s5
                exact ⟨wipeE env3 vs, av4, own4, accV, acc, B4, v4, k4, eD4, rA4, s5, fun v m => ⟨wipeE_free (fr4 v m).1 vs, by rw [wipeE_length]; exact (fr4 v m).2⟩, hq⟩
            | true =>
              have hq : EPost K mg W av H own σ Q (((elt env3).calm (lcOn vs acc (lcL vs tgt test elt (ds.drop (i + 1))))).bind fun q => .ok (.fl q.1, backE q.2 env1 vs)) := hq
              refine ⟨env3, av4, own4, s4, w4, ?_⟩
              cases qo : elt env3 with
              | st => rw [qo] at hq; exact hq
              | ex c x e => rw [qo] at hq; exact hq.elim
              | ok r =>
                obtain ⟨o, env4⟩ := r
                rw [qo] at hq
                have hq : EPost K mg W av H own σ Q ((if o.isUn || !decide (acc.length < 16777216) || !frees vs env4 then .st else lcL vs tgt test elt (ds.drop (i + 1)) (wipeE env4 vs) (acc ++ [o.toD])).bind fun q => .ok (.fl q.1, backE q.2 env1 vs)) := hq
                intro v5 H5 av5 fp own5 A5 w5 r5 s5
                have B5 := Adv.trans (t := [Dd] ++ [] ++ []) (u := fp) w v4 B4 A5
                have v5w := OkW.trans (t := [Dd] ++ [] ++ []) (u := fp) v4 A5 w5
                have k5 := k4.trans (A5.keep w4)
                have eD5 : H5 Dd = some (.lst accV) := A5.ext _ _ eD4 (v4.apart (t := [Dd] ++ [] ++ []) Dd (by simp))
                have rA5 := rA4.keep (A5.keep w4)
                cases hc : (o.isUn || !decide (acc.length < 16777216) || !frees vs env4) with
                | true => rw [hc, if_pos rfl] at hq; exact hq.elim
                | false =>
                  rw [hc, if_neg Bool.false_ne_true] at hq
                  simp only [Bool.or_eq_false_iff, Bool.not_eq_false', decide_eq_true_eq] at hc
                  obtain ⟨⟨hu, hz⟩, ff⟩ := hc
                  refine ⟨accV, eD5, by rw [rA5.length, line_eq]; exact hz, ?_⟩
                  -- fp is given up, what is at Dd grows
                  have B5' : Adv av H own av5 H5 (([Dd] ++ fp) ++ own5) := B5
                  have v5w' : OkW av5 H5 (([Dd] ++ fp) ++ own5) := v5w
                  have sub6 : ∀ a, drp av own (Dd :: own5) a → av5 a := fun a z => (B5'.av_ a).mpr (z.elim .inl fun z => .inr (by
                    rcases List.mem_cons.mp z with z | z <;> simp [z]))
                  have A6 : Adv av H own (drp av own (Dd :: own5)) H5 (Dd :: own5) := ⟨fun _ => Iff.rfl, fun a m => B5'.fresh a (by
                    rcases List.mem_cons.mp m with z | z <;> simp [z]), B5'.ext, B5'.there⟩
                  have nd6 : (Dd :: own5).Nodup := by
                    have := v5w'.nodup
                    simp only [List.cons_append, List.nil_append, List.nodup_cons, List.nodup_append, List.mem_append, not_or] at this ⊢
                    exact ⟨this.1.2, this.2.2.1⟩
                  have w6 : OkW (drp av own (Dd :: own5)) H5 (Dd :: own5) := ⟨nd6, fun a m => .inr m, fun a m => v5w'.dom a (sub6 a m)⟩
                  have kk : Keep av5 (drp av own (Dd :: own5)) H5 H5 := .grow (Grow.refl _) sub6
                  have rd6 : RD K (drp av own (Dd :: own5)) H5 v5 o.toD := r5.frozen hu sub6 fun a m z => by
                    rcases z with z | z
                    · rcases B5'.fresh a (by simp [m]) with q | q
                      · exact z.2 q
                      · have := w.dom a z.1
                        rw [q] at this; cases this
                    · rcases List.mem_cons.mp z with z | z
                      · have := v5w'.nodup
                        simp only [List.cons_append, List.nil_append, List.nodup_cons, List.mem_append, not_or] at this
                        exact this.1.1 (by rw [← z]; exact m)
                      · exact w5.apart a m z
                  have kw : Keep (drp av own (Dd :: own5)) (drp av own (Dd :: own5)) H5 (upd H5 Dd (.lst (accV ++ [v5]))) := Keep.write (.inr List.mem_cons_self)
                  have fr5 := frees_at ff
                  have s6 := wipe_slots s5 fr5
                  rw [hwp] at s6
                  refine ⟨wipeE env4 vs, _, own5, accV ++ [v5], acc ++ [o.toD], A6.write List.mem_cons_self, w6.write, (k5.trans kk).trans kw, upd_same, ((rA5.keep kk).append (.cons rd6 .nil)).keep kw, ?_,
                    fun v m => ⟨wipeE_free (fr5 v m).1 vs, by rw [wipeE_length]; exact (fr5 v m).2⟩, hq⟩
                  refine Slots.keep (σ := wipe σ vs) (env := wipeE env4 vs) kw (Slots.keep (σ := wipe σ vs) (env := wipeE env4 vs) kk s6 fun _ _ _ e => e) fun a u m e => ?_
                  rw [upd_ne (fun z => (List.nodup_cons.mp nd6).1 (by rw [← z]; exact m))]
                  exact e
      · left
        have e : i = ds.length := by omega
        subst e
        refine ⟨Y.stop av' H' k', ?_⟩
        rw [List.drop_length] at hq
        refine hq (.ref Dd) H' av' [Dd] own' A' w' (.fl eD rA) (back_slots nd s' fun v m => ?_)
        obtain ⟨s, fp, e1, e2, _⟩ : ∃ s fp, σ[v]? = some s ∧ SR K av1 H1 s (env1.getD v .un) fp ∧ True := by
          have lv := (fr v m).2
          obtain ⟨s, fp, e1, e2, _⟩ := hs1.get (i := v) (o := env1.getD v .un) (by
            rw [List.getD_eq_getElem?_getD, List.getElem?_eq_getElem lv]
            rfl)
          exact ⟨s, fp, e1, e2, trivial⟩
        have e3 : SR K av' H' s (env1.getD v .un) [] := by
          have hf1 := (fr v m).1
          cases q : env1.getD v .un with
          | un => exact .un
          | d x =>
            rw [q] at e2
            cases e2 with | d r => exact .d (r.keep k')
          | fl _ => rw [q] at hf1; cases hf1
          | ob _ _ => rw [q] at hf1; cases hf1
        exact ⟨(f' v m).1, (f' v m).2, (fr v m).1, s, e1, e3⟩
theorem v_lc {elt tg iter : Expr} {ifs : List Expr} {scope : Scope} {own : List (Str × Nat)} {pn vs : List Nat} {src : Fi} {tgt : Fg} {test : Ft} {fe : Fe} (hc : X.calm = true) (hN : X.N.Nodup) (hi : VI X W tg iter src) (ok : BlkOk X.N X.env.scope scope own)
    (hg : ∀ (s : Shared) (H : Hp) (C : Addr) (cl : List (Str × Addr)) (fp : List Addr), VG (X.blk s H scope (compEnvC scope cl C X.env) fp) pn tg tgt) (ht : ∀ (s : Shared) (H : Hp) (C : Addr) (cl : List (Str × Addr)) (fp : List Addr), VTs (X.blk s H scope (compEnvC scope cl C X.env) fp) ifs test)
    (he : ∀ (s : Shared) (H : Hp) (C : Addr) (cl : List (Str × Addr)) (fp : List Addr), VE (X.blk s H scope (compEnvC scope cl C X.env) fp) W0 elt fe) (hv : own.map (·.2) = vs) (nd : vs.Nodup) (hpn : (List.range X.N.length).all (fun i => vs.contains i || pn.contains i) = true) (hs : ∀ x, foldedSetIterable iter X.env x = pure x := by intro _; rfl) :
    VE X W (.ListComp elt [⟨tg, iter, ifs, 0⟩] scope pos) (lcE vs src tgt test fe) := by
  subst hv
  refine pe_impL (pe_lc hc hN hi ok hg ht he hs) fun σ H Q hl h => lc_ok nd hl (fun i hi => ?_) h
  have := List.all_eq_true.mp hpn i (List.mem_range.mpr hi)
  rw [Bool.or_eq_true, List.contains_iff_mem, List.contains_iff_mem] at this
  exact this
theorem s_setLc {i : Nat} {y : Str} {py : Pos} {elt tg iter : Expr} {ifs : List Expr} {scope : Scope} {own : List (Str × Nat)} {spos : Pos} {pn pm vs : List Nat} {src : Fi} {tgt : Fg} {test : Ft} {fe : Fe} (hc : X.calm = true) (hN : X.N.Nodup) (hy : X.N[i]? = some y) (hyl : X.env.scope.names.lookup y = some .local) (hp : pm.contains i = false)
    (hsw : swapsWith (.ListComp elt [⟨tg, iter, ifs, 0⟩] scope pos) (some (.Name y py)) spos.line X.env = pure true) (hi : VI X W tg iter src) (ok : BlkOk X.N X.env.scope scope own)
    (hg : ∀ (s : Shared) (H : Hp) (C : Addr) (cl : List (Str × Addr)) (fp : List Addr), VG (X.blk s H scope (compEnvC scope cl C X.env) fp) pn tg tgt) (ht : ∀ (s : Shared) (H : Hp) (C : Addr) (cl : List (Str × Addr)) (fp : List Addr), VTs (X.blk s H scope (compEnvC scope cl C X.env) fp) ifs test)
    (he : ∀ (s : Shared) (H : Hp) (C : Addr) (cl : List (Str × Addr)) (fp : List Addr), VE (X.blk s H scope (compEnvC scope cl C X.env) fp) W0 elt fe) (hv : own.map (·.2) = vs) (nd : vs.Nodup) (hpn : (List.range X.N.length).all (fun i => vs.contains i || pn.contains i) = true) (hs : ∀ x, foldedSetIterable iter X.env x = pure x := by intro _; rfl) :
    VS X W pm (.Assign [.Name y py] (.ListComp elt [⟨tg, iter, ifs, 0⟩] scope pos) spos) (asgS i (lcE vs src tgt test fe)) := by
  subst hv
  have base := ps_setLc (wi := tI X.K X.mg W src) (g := tG X.K pn tgt) (tt := tTs X.K X.mg W0 test) (te := tOf X.K X.mg W0 fe) hc hN hy hyl hsw hi ok hg ht he hs
  refine ⟨fun pins s σ H G I h => base.run pins s σ H G I ?_⟩
  show tLc (tI X.K X.mg W src) (tG X.K pn tgt) (tTs X.K X.mg W0 test) (tOf X.K X.mg W0 fe) (own.map (·.2)) σ H fun x H1 => G.nx (σ.set i (some x)) H1
  refine lc_ok nd I.len (fun i hi => ?_) ?_
  · have := List.all_eq_true.mp hpn i (List.mem_range.mpr hi)
    rw [Bool.or_eq_true, List.contains_iff_mem, List.contains_iff_mem] at this
    exact this
  · obtain ⟨env, av, own', hs, w, h⟩ := h
    refine ⟨env, av, own', hs, w, ?_⟩
    unfold asgS at h
    cases q : lcE (own.map (·.2)) src tgt test fe env with
    | st => rw [q] at h; exact h
    | ex c x e => rw [q] at h; exact SPost.exc h
    | ok p =>
      obtain ⟨o, env1⟩ := p
      rw [q] at h
      intro v H1 av1 fp own1 A w1 hr hs1
      have h' : SPost X.K X.mg W pm av H own' σ G (if i < env1.length then .nx (env1.set i o) else .st) := h
      by_cases hl : i < env1.length
      · rw [if_pos hl] at h'
        obtain ⟨av2, own2, A2, w2, s2⟩ := hs1.put A w1 hl hr
        exact h' _ H1 av2 own2 (Pn.set hp) A2 w2 s2
      · rw [if_neg hl] at h'
        exact h'.elim
end
end VL

set_option Elab.async false
set_option linter.all false
set_option maxRecDepth 100000
namespace VL
open PySem PySem.Spec PyProof.Rows L2

section
variable {K : PySem.W.Frag} {mg : Str → Option Value} {W : WX} {av av1 av' : Addr → Prop} {H H1 H' : Hp} {own own1 t : List Addr} {σ : L2.St}
/-- slot i holds a list of its own: where it lies, and what comes of writing there -/
theorem slot_write {env : Ev} {i : Nat} {ds : List D} (A : Adv av H own av1 H1 (t ++ own1)) (w1 : OkW av1 H1 (t ++ own1)) (hs1 : Slots K av1 H1 σ env own1) (e : env.getD i .un = .fl ds) :
    ∃ a vs, σ[i]? = some (some (.ref a)) ∧ H1 a = some (.lst vs) ∧ RDs K (drp av own own1) H1 vs ds ∧ ∀ vs' ds', RDs K (drp av own own1) H1 vs' ds' →
      Adv av H own (drp av own own1) (upd H1 a (.lst vs')) own1 ∧ OkW (drp av own own1) (upd H1 a (.lst vs')) own1 ∧ Slots K (drp av own own1) (upd H1 a (.lst vs')) σ (env.set i (.fl ds')) own1 := by
  have A2 := Adv.drop A
  have w2 := OkW.drop A w1
  have s2 := hs1.grow (σ := σ) (env := env) (Grow.refl _) (drp_sub A)
  have hl : i < env.length := by
    rw [List.getD_eq_getElem?_getD] at e
    cases q : env[i]? with
    | none => rw [q] at e; cases e
    | some o => exact (List.getElem?_eq_some_iff.mp q).1
  obtain ⟨s, P, fp, B, eo, e1, e2, g⟩ := s2.focus hl
  rw [e] at e2
  cases e2 with | fl h r =>
    rename_i a vs
    have hp : a ∈ own1 := by rw [eo]; simp
    refine ⟨a, vs, e1, h, r, fun vs' ds' r' => ⟨A2.write hp, w2.write, ?_⟩⟩
    have kw : Keep (drp av own own1) (drp av own own1) H1 (upd H1 a (.lst vs')) := Keep.write (w2.sub a hp)
    have z := g (s' := some (.ref a)) (o' := .fl ds') (fp' := [a]) kw (fun b u m q => by
      rw [upd_ne (fun z => ?_)]
      · exact q
      · subst z
        have nd := w2.nodup
        rw [eo] at nd
        simp only [List.nodup_append, List.mem_append, List.mem_singleton] at nd m
        rcases m with m | m
        · exact nd.2.2 b m b (.inl rfl) rfl
        · exact nd.2.1.2.2 b rfl b m rfl) (.fl upd_same (r'.keep kw))
    have eσ : σ.set i (some (.ref a)) = σ := by
      refine List.ext_getElem? fun j => ?_
      by_cases hj : i = j
      · subst hj
        rw [List.getElem?_set_self (List.getElem?_eq_some_iff.mp e1).1, e1]
      · rw [List.getElem?_set_ne hj]
    rw [eσ, ← eo] at z
    exact z
end
/-- a list of one's own -/
def O.flO : O → Option (List D)
  | .fl ds => some ds
  | _ => none
theorem O.flO_eq {o : O} {ds : List D} (h : o.flO = some ds) : o = .fl ds := by
  cases o <;> simp only [O.flO, Option.some.injEq, reduceCtorEq] at h
  rw [h]
/-- x.m(as), x the list of slot i: g makes the new items and the answer of the old ones and of the operands -/
def mutE (i : Nat) (g : List D → List D → Option (D × List D)) (as : List Opd) : Fe := fun env =>
  if (env.getD i .un).flO.isSome then (evA as env).bind fun p =>
    if p.1.all (Arg.data p.2) then (match (p.2.getD i .un).flO with
      | some ds => (match g ds (p.1.map (Arg.look p.2)) with
        | some (r, ds') => .ok (.d r, p.2.set i (.fl ds'))
        | none => .st)
      | none => .st) else .st
  else .st
def mutR {α : Type} (r : Option (D × List D)) (env : Ev) (i : Nat) (k : O × Ev → ER α) : ER α := match r with
  | some (r, ds') => k (.d r, env.set i (.fl ds'))
  | none => .st
def appD (ds : List D) : List D → Option (D × List D)
  | [d] => if ds.length < 16777216 then some (.non, ds ++ [d]) else none
  | _ => none
def extD (ds : List D) : List D → Option (D × List D)
  | [.lst es] => if ds.length + es.length ≤ 16777216 then some (.non, ds ++ es) else none
  | _ => none
def popD (ds : List D) : List D → Option (D × List D)
  | [] => match ds[ds.length - 1]? with
    | some d => some (d, ds.dropLast)
    | none => none
  | _ => none
def popAtD (ds : List D) : List D → Option (D × List D)
  | [.int i] => if okR i then (match ixN ds.length i with
    | some k => (match ds[k]? with
      | some d => some (d, ds.eraseIdx k)
      | none => none)
    | none => none) else none
  | _ => none
/-- what a method that changes its list is to reach -/
def RM (K : PySem.W.Frag) (g : List D → List D → Option (D × List D)) : V → List V → Hp → VK → Prop := fun x vs H Q => ∃ (av : Addr → Prop) (a : Addr) (ws : List V) (ds es ds' : List D) (r : D), x = .ref a ∧ av a ∧ H a = some (.lst ws) ∧ RDs K av H ws ds ∧ RDs K av H vs es ∧ g ds es = some (r, ds') ∧
  ∀ v ws', RD K av H v r → RDs K av H ws' ds' → Q v (upd H a (.lst ws'))
section
variable {K : PySem.W.Frag} {mg : Str → Option Value} {W : WX} {σ : L2.St} {H : Hp}
theorem mutE_ok {i : Nat} {g : List D → List D → Option (D × List D)} {as : List Opd} {Q : VK} (h : tOf K mg W (mutE i g as) σ H Q) :
    ∃ a ws, σ[i]? = some (some (.ref a)) ∧ H a = some (.lst ws) ∧ tArg K mg W as σ H fun vs H1 => RM K g (.ref a) vs H1 Q := by
  obtain ⟨env, av, own, hs, w, h⟩ := h
  unfold mutE at h
  cases ho : (env.getD i .un).flO with
  | none => rw [ho] at h; exact h.elim
  | some ds0 =>
    rw [ho] at h
    have h : EPost K mg W av H own σ Q ((evA as env).bind fun p =>
      if p.1.all (Arg.data p.2) then (match (p.2.getD i .un).flO with
        | some ds => mutR (g ds (p.1.map (Arg.look p.2))) p.2 i .ok
        | none => .st) else .st) := h
    obtain ⟨a, ws, e1, e2, _⟩ := slot_write (t := []) (Adv.refl w) w hs (O.flO_eq ho)
    refine ⟨a, ws, e1, e2, args_ok as hs w ?_⟩
    cases q : evA as env with
    | st => rw [q] at h; exact h
    | ex c x e => rw [q] at h; exact h
    | ok p =>
      obtain ⟨l, env'⟩ := p
      rw [q] at h
      intro vs H1 av1 t own1 A w1 ha hs1
      have h' : EPost K mg W av H own σ Q (if l.all (Arg.data env') then (match (env'.getD i .un).flO with
        | some ds => mutR (g ds (l.map (Arg.look env'))) env' i .ok
        | none => .st) else .st) := h
      cases hg : l.all (Arg.data env') with
      | false => rw [hg, if_neg Bool.false_ne_true] at h'; exact h'.elim
      | true =>
        rw [hg, if_pos rfl] at h'
        cases ho1 : (env'.getD i .un).flO with
        | none => rw [ho1] at h'; exact h'.elim
        | some ds =>
          rw [ho1] at h'
          have h' : EPost K mg W av H own σ Q (mutR (g ds (l.map (Arg.look env'))) env' i .ok) := h'
          obtain ⟨b, ws1, f1, f2, f3, f4⟩ := slot_write A w1 hs1 (O.flO_eq ho1)
          rw [e1] at f1
          cases f1
          have fz : RDs K (drp av own own1) H1 vs (l.map (Arg.look env')) := ha.frozen hs1 (drp_sub A) (fun a m z => by
            rcases z with z | z
            · rcases A.fresh a (List.mem_append_left _ m) with q | q
              · exact z.2 q
              · have := w.dom a z.1
                rw [q] at this; cases this
            · exact w1.apart a m z) hg
          cases hr : g ds (l.map (Arg.look env')) with
          | none => rw [hr] at h'; exact h'.elim
          | some r =>
            obtain ⟨r, ds'⟩ := r
            rw [hr] at h'
            have avb : drp av own own1 a := by
              obtain ⟨a1, a2, a3⟩ := f4 ws1 ds f3
              by_cases z : drp av own own1 a
              · exact z
              · exfalso
                have hl : i < env'.length := by
                  have e := O.flO_eq ho1
                  rw [List.getD_eq_getElem?_getD] at e
                  cases q : env'[i]? with
                  | none => rw [q] at e; cases e
                  | some o => exact (List.getElem?_eq_some_iff.mp q).1
                obtain ⟨s, P, fp, B, eo, g1, g2, _⟩ := hs1.focus hl
                rw [O.flO_eq ho1] at g2
                cases g2 with | fl h r =>
                  rw [e1] at g1
                  cases g1
                  exact z (.inr (by rw [eo]; simp))
            refine ⟨_, a, ws1, ds, _, ds', r, rfl, avb, f2, f3, fz, hr, fun v ws' rv rw' => ?_⟩
            obtain ⟨a1, a2, a3⟩ := f4 ws' ds' rw'
            exact h' v _ _ [] own1 a1 a2 (.d (rv.keep (Keep.write avb))) a3
end
section
variable {X : Cx} {W : WX} {pos apos p2 : Pos} {e : Expr} {es : List Expr} {os : List Opd} {o : Opd} {i : Nat} {x name : Str} {id : String}
theorem v_mut {r : V → List V → Hp → VK → Prop} {g : List D → List D → Option (D × List D)} (slot : Slot "list" name id) (hty : typeOf (.builtin id) = pure (.type "method_descriptor")) (hm : MtR X id r)
    (hr : ∀ x vs H Q, Sane H → RM X.K g x vs H Q → r x vs H Q) (hx : PE X (.Name x p2) (tVar i)) (ha : VA X W (e :: es) os)
    (hbase : attributeBase (.Name x p2) name X.env (eval (.Name x p2) X.env) = eval (.Name x p2) X.env := by rfl)
    (hfew : ((backTo pos (starEach (e :: es) X.env)).all (fun x => !x.1) && (backToKw pos (keywordEach [] X.env)).all (fun x => x.1.isSome)
      && decide ((e :: es).length + ([] : List Keyword).length + (if ([] : List Keyword).isEmpty then 0 else 1) < 30)) = true := by rfl)
    (hline : (apos.endLine == pos.line) = true := by rfl) (hs : starEach (e :: es) X.env = (false, eval e X.env) :: starEach es X.env := by rfl) (hplain : (backTo pos (starEach es X.env)).any (·.1) = false := by rfl) :
    VE X W (.Call (.Attribute (.Name x p2) name apos) (e :: es) [] pos) (mutE i g os) := by
  refine pe_imp (pe_bm PySem.F.plainAttrs_list slot hty (mtR_sane hm hr) hx ha hbase hfew hline hs hplain) fun σ H Q h => ?_
  obtain ⟨a, ws, e1, e2, h⟩ := mutE_ok h
  exact ⟨.ref a, e1, .inl ⟨rfl, _, SqL.of e2⟩, h⟩
theorem v_mut0 {r : V → List V → Hp → VK → Prop} {g : List D → List D → Option (D × List D)} (slot : Slot "list" name id) (hty : typeOf (.builtin id) = pure (.type "method_descriptor")) (hm : MtR X id r)
    (hr : ∀ x vs H Q, Sane H → RM X.K g x vs H Q → r x vs H Q) (hx : PE X (.Name x p2) (tVar i))
    (hbase : attributeBase (.Name x p2) name X.env (eval (.Name x p2) X.env) = eval (.Name x p2) X.env := by rfl) (hline : (apos.endLine == pos.line) = true := by rfl) :
    VE X W (.Call (.Attribute (.Name x p2) name apos) [] [] pos) (mutE i g []) := by
  refine pe_imp (pe_bm0 PySem.F.plainAttrs_list slot hty (mtR_sane hm hr) hx hbase hline) fun σ H Q h => ?_
  obtain ⟨a, ws, e1, e2, h⟩ := mutE_ok h
  exact ⟨.ref a, e1, .inl ⟨rfl, _, SqL.of e2⟩, h⟩
theorem rm_app : ∀ x vs H Q, Sane H → RM X.K appD x vs H Q → rAppend x vs H Q := fun x vs H Q sn h => by
  obtain ⟨av, a, ws, ds, es, ds', r, rfl, ha, e, rw_, rv, hg, k⟩ := h
  unfold appD at hg
  split at hg
  · split at hg
    · rename_i d hz
      cases hg
      cases rv with | cons q rr =>
        cases rr
        exact ⟨a, ws, _, rfl, rfl, e, by rw [rw_.length, line_eq]; exact hz, k _ _ .non (rw_.append (.cons q .nil))⟩
    · cases hg
  · cases hg
theorem rm_ext : ∀ x vs H Q, Sane H → RM X.K extD x vs H Q → rExtend x vs H Q := fun x vs H Q sn h => by
  obtain ⟨av, a, ws, ds, es, ds', r, rfl, ha, e, rw_, rv, hg, k⟩ := h
  unfold extD at hg
  split at hg
  · split at hg
    · rename_i d hz
      cases hg
      cases rv with | cons q rr =>
        cases rr
        obtain ⟨b, zs, rfl, e2, r2⟩ := (RV.d q).lst
        exact ⟨a, b, ws, zs, rfl, rfl, e, e2, by rw [rw_.length, r2.length, line_eq]; exact hz, k _ _ .non (rw_.append r2)⟩
    · cases hg
  · cases hg
theorem rm_pop : ∀ x vs H Q, Sane H → RM X.K popD x vs H Q → rPop x vs H Q := fun x vs H Q sn h => by
  obtain ⟨av, a, ws, ds, es, ds', r, rfl, ha, e, rw_, rv, hg, k⟩ := h
  unfold popD at hg
  split at hg
  · split at hg
    · rename_i d hz
      cases hg
      cases rv
      obtain ⟨v, e3, q⟩ := rw_.getD hz
      exact ⟨a, ws, v, rfl, rfl, e, by rw [rw_.length]; exact e3, k _ _ q rw_.dropLast⟩
    · cases hg
  · cases hg
theorem rm_popAt : ∀ x vs H Q, Sane H → RM X.K popAtD x vs H Q → rPopAt x vs H Q := fun x vs H Q sn h => by
  obtain ⟨av, a, ws, ds, es, ds', r, rfl, ha, e, rw_, rv, hg, k⟩ := h
  unfold popAtD at hg
  split at hg
  · split at hg
    · rename_i i hi
      split at hg
      · rename_i j hj
        split at hg
        · rename_i d hd
          cases hg
          cases rv with | cons q rr =>
            cases rr
            rw [(RV.d q).int]
            obtain ⟨v, e3, q3⟩ := rw_.getD hd
            obtain ⟨o1, o2⟩ := okR_ok hi
            exact ⟨a, ws, i, j, v, rfl, rfl, e, by omega, by omega, by rw [rw_.length]; exact (ixN_seq hj).1, e3, k _ _ q3 (rw_.eraseIdx j)⟩
        · cases hg
      · cases hg
    · cases hg
  · cases hg
theorem v_append (hx : PE X (.Name x p2) (tVar i)) (ha : VA X W (e :: es) os)
    (hbase : attributeBase (.Name x p2) "append" X.env (eval (.Name x p2) X.env) = eval (.Name x p2) X.env := by rfl)
    (hfew : ((backTo pos (starEach (e :: es) X.env)).all (fun x => !x.1) && (backToKw pos (keywordEach [] X.env)).all (fun x => x.1.isSome)
      && decide ((e :: es).length + ([] : List Keyword).length + (if ([] : List Keyword).isEmpty then 0 else 1) < 30)) = true := by rfl)
    (hline : (apos.endLine == pos.line) = true := by rfl) (hs : starEach (e :: es) X.env = (false, eval e X.env) :: starEach es X.env := by rfl) (hplain : (backTo pos (starEach es X.env)).any (·.1) = false := by rfl) :
    VE X W (.Call (.Attribute (.Name x p2) "append" apos) (e :: es) [] pos) (mutE i appD os) := v_mut PySem.F.slot_list_append PySem.F.type_list_append mt_append rm_app hx ha hbase hfew hline hs hplain
theorem v_extend (hx : PE X (.Name x p2) (tVar i)) (ha : VA X W (e :: es) os)
    (hbase : attributeBase (.Name x p2) "extend" X.env (eval (.Name x p2) X.env) = eval (.Name x p2) X.env := by rfl)
    (hfew : ((backTo pos (starEach (e :: es) X.env)).all (fun x => !x.1) && (backToKw pos (keywordEach [] X.env)).all (fun x => x.1.isSome)
      && decide ((e :: es).length + ([] : List Keyword).length + (if ([] : List Keyword).isEmpty then 0 else 1) < 30)) = true := by rfl)
    (hline : (apos.endLine == pos.line) = true := by rfl) (hs : starEach (e :: es) X.env = (false, eval e X.env) :: starEach es X.env := by rfl) (hplain : (backTo pos (starEach es X.env)).any (·.1) = false := by rfl) :
    VE X W (.Call (.Attribute (.Name x p2) "extend" apos) (e :: es) [] pos) (mutE i extD os) := v_mut PySem.F.slot_list_extend PySem.F.type_list_extend mt_extend rm_ext hx ha hbase hfew hline hs hplain
theorem v_popAt (hx : PE X (.Name x p2) (tVar i)) (ha : VA X W (e :: es) os)
    (hbase : attributeBase (.Name x p2) "pop" X.env (eval (.Name x p2) X.env) = eval (.Name x p2) X.env := by rfl)
    (hfew : ((backTo pos (starEach (e :: es) X.env)).all (fun x => !x.1) && (backToKw pos (keywordEach [] X.env)).all (fun x => x.1.isSome)
      && decide ((e :: es).length + ([] : List Keyword).length + (if ([] : List Keyword).isEmpty then 0 else 1) < 30)) = true := by rfl)
    (hline : (apos.endLine == pos.line) = true := by rfl) (hs : starEach (e :: es) X.env = (false, eval e X.env) :: starEach es X.env := by rfl) (hplain : (backTo pos (starEach es X.env)).any (·.1) = false := by rfl) :
    VE X W (.Call (.Attribute (.Name x p2) "pop" apos) (e :: es) [] pos) (mutE i popAtD os) := v_mut PySem.F.slot_list_pop PySem.F.type_list_pop mt_popAt rm_popAt hx ha hbase hfew hline hs hplain
theorem v_pop (hx : PE X (.Name x p2) (tVar i)) (hbase : attributeBase (.Name x p2) "pop" X.env (eval (.Name x p2) X.env) = eval (.Name x p2) X.env := by rfl) (hline : (apos.endLine == pos.line) = true := by rfl) :
    VE X W (.Call (.Attribute (.Name x p2) "pop" apos) [] [] pos) (mutE i popD []) := v_mut0 PySem.F.slot_list_pop PySem.F.type_list_pop mt_pop rm_pop hx hbase hline
end

/-- the value first, then the index -/
def setI (i : Nat) (ev ek : Fe) : Fs := fun env => (ev env).then fun p => if p.1.isUn then .st else if (p.2.getD i .un).flO.isSome then
    (ek p.2).then fun q => setR (q.2.getD i .un).flO q.1 p.1.toD i q.2 else .st
where setR (l : Option (List D)) (k : O) (d : D) (i : Nat) (env : Ev) : SRes := match l, k with
  | some ds, .d (.int j) => nxO ((ixN ds.length j).map fun n => env.set i (.fl (ds.set n d)))
  | _, _ => .st
section
variable {X : Cx} {W : WX} {pn : List Nat} {pos p2 p3 : Pos} {ek e : Expr} {fe fk : Fe} {i : Nat} {x : Str}
theorem s_setI (he : VE X W e fe) (hx : PE X (.Name x p2) (tVar i)) (hk : VE X W ek fk)
    (hs : swapsWithSole [.Subscript (.Name x p2) ek p3] e pos.line X.env = pure false := by rfl) (hw : swappedStores [.Subscript (.Name x p2) ek p3] e X.env = pure none := by rfl)
    (h1 : (assignEach [.Subscript (.Name x p2) ek p3] X.env).map (·.2) = [assign (.Subscript (.Name x p2) ek p3) X.env] := by rfl)
    (ha : ∀ v, assign (.Subscript (.Name x p2) ek p3) X.env v = (do
      let ov ← holding [v] (eval (.Name x p2) X.env)
      let iv ← holding [v, ov] (eval ek X.env)
      standAt p3
      holding [v, ov, iv] (setItem ov iv v)
      release [v, ov, iv] []) := by intro _; rfl) : VS X W pn (.Assign [.Subscript (.Name x p2) ek p3] e pos) (setI i fe fk) := by
  refine ps_imp (ps_asg he (pg_sub hx hk set_list ha) hs hw h1) fun G σ H h => ?_
  obtain ⟨env, av, own, hs, w, h⟩ := h
  refine ⟨env, av, own, hs, w, ?_⟩
  unfold setI at h
  cases q : fe env with
  | st => rw [q] at h; exact h
  | ex c x e => rw [q] at h; exact SPost.exc h
  | ok p =>
    obtain ⟨o, env1⟩ := p
    rw [q] at h
    intro v H1 av1 fp own1 A w1 hr hs1
    have h' : SPost X.K X.mg W pn av H own σ G (if o.isUn then .st else if (env1.getD i .un).flO.isSome then (fk env1).then fun q => setI.setR (q.2.getD i .un).flO q.1 o.toD i q.2 else .st) := h
    cases hu : o.isUn with
    | true => rw [hu, if_pos rfl] at h'; exact h'.elim
    | false =>
      rw [hu, if_neg Bool.false_ne_true] at h'
      cases ho : (env1.getD i .un).flO with
      | none => rw [ho] at h'; exact h'.elim
      | some ds0 =>
        rw [ho] at h'
        have h' : SPost X.K X.mg W pn av H own σ G ((fk env1).then fun q => setI.setR (q.2.getD i .un).flO q.1 o.toD i q.2) := h'
        obtain ⟨a, ws0, e1, _, _, _⟩ := slot_write A w1 hs1 (O.flO_eq ho)
        refine ⟨.ref a, e1, env1, av1, own1, hs1, w1.tail, ?_⟩
        cases qk : fk env1 with
        | st => rw [qk] at h'; exact h'
        | ex c x e =>
          rw [qk] at h'
          have z : XPost X.K X.mg W av H own σ c x e := SPost.exc h'
          exact XPost.step w w1 A z
        | ok pk =>
          obtain ⟨ok, env2⟩ := pk
          rw [qk] at h'
          intro vk H2 av2 fk2 own2 A2 w2 hr2 hs2
          have h' : SPost X.K X.mg W pn av H own σ G (setI.setR (env2.getD i .un).flO ok o.toD i env2) := h'
          cases ho2 : (env2.getD i .un).flO with
          | none => rw [ho2] at h'; exact h'.elim
          | some ds =>
            rw [ho2] at h'
            have AA := Adv.trans w w1 A A2
            have ww := OkW.trans w1 A2 w2
            obtain ⟨b, ws, f1, f2, f3, f4⟩ := slot_write AA ww hs2 (O.flO_eq ho2)
            rw [e1] at f1
            cases f1
            cases ok with
            | un => exact h'.elim
            | fl _ => exact h'.elim
            | ob _ _ => exact h'.elim
            | d dk =>
              cases dk with
              | int j =>
                cases hr2 with | d rk =>
                  cases rk
                  have h' : SPost X.K X.mg W pn av H own σ G (nxO ((ixN ds.length j).map fun n => env2.set i (.fl (ds.set n o.toD)))) := h'
                  cases hn : ixN ds.length j with
                  | none => rw [hn] at h'; exact h'.elim
                  | some n =>
                    rw [hn] at h'
                    have r5 := hr.over w1 A2
                    have sub : ∀ b, drp av own own2 b → av2 b := drp_sub AA
                    have rd : RD X.K (drp av own own2) H2 v o.toD := r5.frozen hu sub fun b m z => by
                      rcases z with z | z
                      · rcases A.fresh b (List.mem_append_left _ m) with q | q
                        · exact z.2 q
                        · have := w.dom b z.1
                          rw [q] at this; cases this
                      · exact ww.apart b (List.mem_append_left _ m) z
                    obtain ⟨a1, a2, a3⟩ := f4 (ws.set n v) (ds.set n o.toD) (f3.set rd n)
                    exact ⟨a, ws, j, n, rfl, rfl, f2, by rw [f3.length]; exact hn, h' σ _ _ own2 (Pn.refl pn σ) a1 a2 a3⟩
              | _ => exact h'.elim
end
end VL

set_option Elab.async false
set_option linter.all false
set_option maxRecDepth 100000
namespace VL
open PySem PySem.Spec PyProof.Rows L2

/-- a def of n parameters that does F: the arguments, data or lists of one's own, then the same behind the call -/
def spF (K : PySem.W.Frag) (mg : Str → Option Value) (n : Nat) (F : Fe) : Sp := fun vs H Q E => vs.length = n ∧ ∃ (args : Ev) (av : Addr → Prop) (own : List Addr), Slots K av H (vs.map some) args own ∧ OkW av H own ∧
  EPost K mg (fun cls d _ H' => E cls d H') av H own (vs.map some) Q (F args)
abbrev FnV (P : Program) (w : World) (K : PySem.W.Frag) (mg : Str → Option Value) (base : Heap) (k : Nat) (f : Addr) (fd : FuncData) (ps : List Str) (F : Fe) : Prop := FnOk P w K mg base (L2.CX P w) k f fd ps (spF K mg ps.length F)

/-- behind a body: what the parameters hold; those of mu are lists of one's own -/
def outsOf (mu : List Nat) : Nat → Ev → Ev → Ev
  | _, [], _ => []
  | j, a :: args, env' => (if mu.contains j then env'.headD .un else a) :: outsOf mu (j + 1) args env'.tail
def okArgs (mu : List Nat) : Nat → Ev → Bool
  | _, [] => true
  | j, a :: args => (mu.contains j || a.free) && okArgs mu (j + 1) args
/-- a body's end -/
def endOf (mu : List Nat) (args : Ev) : SRes → ER (O × Ev)
  | .nx env' => .ok (.d .non, outsOf mu 0 args env')
  | .rt o env' => .ok (o, outsOf mu 0 args env')
  | .ex c x env' => .ex c x (outsOf mu 0 args env')
  | _ => .st
@[simp] theorem endOf_nx (mu : List Nat) (args env' : Ev) : endOf mu args (.nx env') = .ok (.d .non, outsOf mu 0 args env') := (rfl)
@[simp] theorem endOf_rt (mu : List Nat) (args env' : Ev) (o : O) : endOf mu args (.rt o env') = .ok (o, outsOf mu 0 args env') := (rfl)
@[simp] theorem endOf_ex (mu : List Nat) (args env' : Ev) (c : Str) (x : D) : endOf mu args (.ex c x env') = .ex c x (outsOf mu 0 args env') := (rfl)
@[simp] theorem endOf_st (mu : List Nat) (args : Ev) : endOf mu args .st = .st := (rfl)
def bodyF (mu : List Nat) (m : Nat) (f : Fs) : Fe := fun args => if okArgs mu 0 args then endOf mu args (f (args ++ List.replicate m .un)) else .st
section
variable {K : PySem.W.Frag} {mg : Str → Option Value} {W : WX} {av av' av1 : Addr → Prop} {H H' H1 : Hp} {own own' own1 own2 fp : List Addr}
theorem slots_more {σ : L2.St} {env : Ev} (hs : Slots K av H σ env own) : ∀ m : Nat, Slots K av H (σ ++ List.replicate m none) (env ++ List.replicate m .un) own := fun m => by
  have un : ∀ m : Nat, Slots K av H (List.replicate m none) (List.replicate m .un) [] := fun m => by
    induction m with
    | zero => exact .nil
    | succ m ih => exact Slots.cons (fp := []) .un ih
  have app : ∀ {σ : L2.St} {env : Ev} {own : List Addr}, Slots K av H σ env own → Slots K av H (σ ++ List.replicate m none) (env ++ List.replicate m .un) own := by
    intro σ env own h
    induction h with
    | nil => exact un m
    | cons h r ih => exact .cons h ih
  exact app hs
theorem outs_slots {mu : List Nat} : ∀ (args : Ev) (j : Nat) {vs : L2.St} {σ' : L2.St} {env' : Ev} {own' : List Addr}, Slots K av' H' σ' env' own' → vs.length = args.length → args.length ≤ σ'.length →
    (∀ i, i < args.length → mu.contains (j + i) = true → σ'[i]? = vs[i]?) → (∀ i s o, vs[i]? = some s → args[i]? = some o → mu.contains (j + i) = false → SR K av' H' s o []) →
    ∃ own2, Slots K av' H' vs (outsOf mu j args env') own2 ∧ own2.Sublist own'
  | [], j, vs, σ', env', own', hs, hl, _, _, _ => by
    cases vs with
    | nil => exact ⟨[], .nil, List.nil_sublist _⟩
    | cons _ _ => cases hl
  | a :: args, j, vs, σ', env', own', hs, hl, hz, hm, hd => by
    cases vs with
    | nil => cases hl
    | cons v vs =>
      cases hs with
      | nil => simp at hz
      | cons h r =>
        rename_i s o fp own2 σ2 env2
        obtain ⟨o2, s2, l2⟩ := outs_slots args (j + 1) (vs := vs) r (by simpa using hl) (by simpa using hz) (fun i hi q => by
          have := hm (i + 1) (by simpa using hi) (by rw [← q, Nat.add_assoc, Nat.add_comm 1 i])
          simpa using this) (fun i s o e1 e2 q => hd (i + 1) s o (by simpa using e1) (by simpa using e2) (by rw [← q, Nat.add_assoc, Nat.add_comm 1 i]))
        unfold outsOf
        cases hc : mu.contains j with
        | true =>
          have e := hm 0 (by simp) (by simpa using hc)
          simp only [List.getElem?_cons_zero, Option.some.injEq] at e
          subst e
          exact ⟨fp ++ o2, .cons h s2, (List.Sublist.refl fp).append l2⟩
        | false =>
          have q := hd 0 v a (by simp) (by simp) (by simpa using hc)
          exact ⟨[] ++ o2, .cons q s2, (List.nil_sublist fp).append l2⟩
theorem okArgs_at {mu : List Nat} : ∀ {args : Ev} {j i : Nat} {o : O}, okArgs mu j args = true → args[i]? = some o → mu.contains (j + i) = false → o.free = true
  | [], _, _, _, _, e, _ => by simp at e
  | a :: args, j, 0, o, h, e, q => by
    simp only [List.getElem?_cons_zero, Option.some.injEq] at e
    subst e
    unfold okArgs at h
    rw [Bool.and_eq_true, Bool.or_eq_true] at h
    rcases h.1 with z | z
    · rw [Nat.add_zero] at q
      rw [q] at z
      cases z
    · exact z
  | a :: args, j, i + 1, o, h, e, q => by
    simp only [List.getElem?_cons_succ] at e
    unfold okArgs at h
    rw [Bool.and_eq_true] at h
    exact okArgs_at h.2 e (by rw [← q, Nat.add_assoc, Nat.add_comm 1 i])
/-- the end with fewer owned -/
theorem adv_sub (A : Adv av H own av1 H1 (fp ++ own1)) (w : OkW av1 H1 (fp ++ own1)) (l : own2.Sublist own1) : Adv av H own (drp av own (fp ++ own2)) H1 (fp ++ own2) ∧ OkW (drp av own (fp ++ own2)) H1 (fp ++ own2) ∧ ∀ a, drp av own (fp ++ own2) a → av1 a := by
  have l2 : (fp ++ own2).Sublist (fp ++ own1) := (List.Sublist.refl fp).append l
  have s : ∀ a, drp av own (fp ++ own2) a → av1 a := fun a h => by
    rcases h with h | h
    · exact (A.av_ a).mpr (.inl h)
    · exact w.sub a (l2.subset h)
  exact ⟨⟨fun _ => Iff.rfl, fun a h => A.fresh a (l2.subset h), A.ext, A.there⟩, ⟨w.nodup.sublist l2, fun a h => .inr h, fun a h => w.dom a (s a h)⟩, s⟩
theorem body_ok {mu : List Nat} {m n : Nat} {f : Fs} {vs : List V} {Q : VK} {E : XK} (h : spF K mg n (bodyF mu m f) vs H Q E) :
    tS K mg (fun cls d _ H => E cls d H) mu f { nx := fun _ H' => Q .non H', rt := Q } (vs.map some ++ List.replicate m none) H := by
  obtain ⟨hn, args, av, own, hs, w, h⟩ := h
  refine ⟨args ++ List.replicate m .un, av, own, slots_more hs m, w, ?_⟩
  unfold bodyF at h
  cases hk : okArgs mu 0 args with
  | false => rw [hk, if_neg Bool.false_ne_true] at h; exact h.elim
  | true =>
    rw [hk, if_pos rfl] at h
    have hlen : (vs.map some).length = args.length := hs.length
    -- the parameters at an end
    have par : ∀ {σ' : L2.St} {H' : Hp} {av' : Addr → Prop} {fp own' : List Addr} {env' : Ev}, Pn mu (vs.map some ++ List.replicate m none) σ' → Adv av H own av' H' (fp ++ own') → OkW av' H' (fp ++ own') → Slots K av' H' σ' env' own' →
        ∃ own2, Slots K av' H' (vs.map some) (outsOf mu 0 args env') own2 ∧ own2.Sublist own' := fun {σ' H' av' fp own' env'} p A w' s => by
      have kp := A.keep w
      refine outs_slots args 0 s hlen (by rw [p.1, List.length_append, hlen]; omega) (fun i hi q => ?_) fun i sv o e1 e2 q => ?_
      · rw [Nat.zero_add] at q
        rw [p.2 i (List.contains_iff_mem.mp q), List.getElem?_append_left (by rw [hlen]; exact hi)]
      · have hf := okArgs_at hk e2 q
        obtain ⟨s2, fp2, g1, g2, _⟩ := hs.get e2
        rw [e1] at g1
        cases g1
        cases o with
        | un => exact .un
        | d x => cases g2 with | d r => exact .d (r.keep kp)
        | fl _ => cases hf
        | ob _ _ => cases hf
    cases q : f (args ++ List.replicate m .un) with
    | st => rw [q] at h; exact h
    | bk e => rw [q] at h; exact h.elim
    | ct e => rw [q] at h; exact h.elim
    | nx e =>
      rw [q] at h
      intro σ' H' av' own' p A w' s
      obtain ⟨own2, s2, l⟩ := par (fp := []) p A w' s
      obtain ⟨A2, w2, sb⟩ := adv_sub (fp := []) A w' l
      exact h .non H' _ [] own2 A2 w2 (.d .non) (s2.grow (σ := vs.map some) (env := outsOf mu 0 args e) (Grow.refl _) sb)
    | rt o e =>
      rw [q] at h
      intro v σ' H' av' fp own' p A w' r s
      obtain ⟨own2, s2, l⟩ := par p A w' s
      obtain ⟨A2, w2, sb⟩ := adv_sub A w' l
      exact h v H' _ fp own2 A2 w2 (r.keep (.grow (Grow.refl _) sb) fun _ _ _ e => e) (s2.grow (σ := vs.map some) (env := outsOf mu 0 args e) (Grow.refl _) sb)
    | ex c x e =>
      rw [q] at h
      intro σ' p cls dd v H' av' own' hc A w' hd r s
      obtain ⟨own2, s2, l⟩ := par (fp := []) p A w' s
      obtain ⟨A2, w2, sb⟩ := adv_sub (fp := []) A w' l
      exact h cls dd v H' _ own2 hc A2 w2 hd (r.keep (.grow (Grow.refl _) sb)) (s2.grow (σ := vs.map some) (env := outsOf mu 0 args e) (Grow.refl _) sb)
end
/-- THE RULE for a def -/
theorem fn_mk {P : Program} {w : World} {K : PySem.W.Frag} {mg : Str → Option Value} {base : Heap} {x qual : Str} {st : Stmt} {f : Addr} {fd : FuncData} {N ps : List Str} {k : Nat} {mu : List Nat} {m : Nat} {fs : Fs} (F : Fun K x qual st f fd) (S : FnScope N ps (defScope st)) (hm : m = N.length - ps.length)
    (hb : ∀ (cdv : Value) (A : Around) (outer : List Env) (s : Shared) (H : Hp) (E : XK), Room k (A.deeper (envOfC qual (defScope st) s.heap.objs.size f cdv)) →
      VB (cxOf (L2.CX P w) P w K mg base N qual (defScope st) f cdv A outer s H E) (fun cls d _ H => E cls d H) mu (defBody st) fs) : FnV P w K mg base (k + 1) f fd ps (bodyF mu m fs) :=
  F.okX S (fun vs H Q E h => h.1) fun cdv A outer s H vs Q E hr h => ⟨_, hb cdv A outer s H E hr, by
    have e : L2.start N vs = vs.map some ++ List.replicate m none := by
      unfold L2.start
      rw [h.1, hm]
    rw [e]
    exact body_ok h⟩
/-- a promise by another form of the same function -/
theorem fn_eq {P : Program} {w : World} {K : PySem.W.Frag} {mg : Str → Option Value} {base : Heap} {k : Nat} {f : Addr} {fd : FuncData} {ps : List Str} {F G : Fe} (h : FnV P w K mg base k f fd ps F) (e : F = G) : FnV P w K mg base k f fd ps G := e ▸ h

def Arg.own (env : Ev) : Arg → O
  | .tmp o => o
  | .sl i => env.getD i .un
/-- the arguments: the one at place m is handed on as one's own -/
def argsOf : Option Nat → List Arg → Ev → Ev
  | _, [], _ => []
  | some 0, a :: as, env => a.own env :: argsOf none as env
  | some (j + 1), a :: as, env => .d (a.look env) :: argsOf (some j) as env
  | none, a :: as, env => .d (a.look env) :: argsOf none as env
def dataOk : Option Nat → List Arg → Ev → Bool
  | _, [], _ => true
  | some 0, _ :: as, env => dataOk none as env
  | some (j + 1), a :: as, env => a.data env && dataOk (some j) as env
  | none, a :: as, env => a.data env && dataOk none as env
/-- .. and comes back -/
def backOf (m : Option Nat) (l : List Arg) (env outs : Ev) : Ev := match m with
  | none => env
  | some j => match l[j]? with
    | some (.sl i) => env.set i (outs.getD j .un)
    | _ => env
def callBack (m : Option Nat) (l : List Arg) (env : Ev) : ER (O × Ev) → ER (O × Ev)
  | .ok p => .ok (p.1, backOf m l env p.2)
  | .ex c x outs => .ex c x (backOf m l env outs)
  | .st => .st
@[simp] theorem callBack_ok (m : Option Nat) (l : List Arg) (env : Ev) (p : O × Ev) : callBack m l env (.ok p) = .ok (p.1, backOf m l env p.2) := (rfl)
@[simp] theorem callBack_ex (m : Option Nat) (l : List Arg) (env outs : Ev) (c : Str) (x : D) : callBack m l env (.ex c x outs) = .ex c x (backOf m l env outs) := (rfl)
@[simp] theorem callBack_st (m : Option Nat) (l : List Arg) (env : Ev) : callBack m l env .st = .st := (rfl)
def callE (F : Fe) (m : Option Nat) (as : List Opd) : Fe := fun env => (evA as env).bind fun p => if dataOk m p.1 p.2 then callBack m p.1 p.2 (F (argsOf m p.1 p.2)) else .st
section
variable {K : PySem.W.Frag} {mg : Str → Option Value} {W : WX} {av av' av1 av2 av3 : Addr → Prop} {H H' H1 H2 H3 : Hp} {own own' own1 own2 fp t c c' : List Addr} {σ : L2.St} {env : Ev}
theorem evA_length : ∀ {as : List Opd} {env env' : Ev} {l : List Arg}, evA as env = .ok (l, env') → l.length = as.length
  | [], env, env', l, h => by
    cases h
    rfl
  | .val f :: as, env, env', l, h => by
    unfold evA at h
    cases q : f env with
    | st => rw [q] at h; cases h
    | ex c x e => rw [q] at h; cases h
    | ok p =>
      rw [q] at h
      cases q2 : evA as p.2 with
      | st => rw [ER.bind_ok, q2] at h; cases h
      | ex c x e => rw [ER.bind_ok, q2] at h; cases h
      | ok p2 =>
        rw [ER.bind_ok, q2] at h
        cases h
        rw [List.length_cons, List.length_cons, evA_length (l := p2.1) (env' := p2.2) q2]
  | .pk i :: as, env, env', l, h => by
    unfold evA at h
    split at h
    · cases h
    · cases q2 : evA as env with
      | st => rw [q2] at h; cases h
      | ex c x e => rw [q2] at h; cases h
      | ok p2 =>
        rw [q2] at h
        cases h
        rw [List.length_cons, List.length_cons, evA_length (l := p2.1) (env' := p2.2) q2]
theorem ARep.len : ∀ {vs : List V} {l : List Arg} {t : List Addr}, ARep K av H σ vs l t → vs.length = l.length
  | _, _, _, .nil => rfl
  | _, _, _, .tmp _ r => by rw [List.length_cons, List.length_cons, ARep.len r]
  | _, _, _, .sl _ r => by rw [List.length_cons, List.length_cons, ARep.len r]
/-- one operand that is kept -/
theorem arg_frozen (hs : Slots K av H σ env own) (s : ∀ a, av' a → av a) {v : V} {a : Arg} {vs : List V} {l : List Arg} {t : List Addr} (h : ARep K av H σ (v :: vs) (a :: l) t) (n : ∀ b, b ∈ t → ¬ av' b) (g : a.data env = true) : RD K av' H v (a.look env) := by
  cases h with
  | tmp h r =>
    rename_i o fp t2
    have z := ARep.frozen (av' := av') hs s (ARep.tmp h .nil) (fun a m => n a (by
      rw [List.append_nil] at m
      exact List.mem_append_left _ m)) (by rw [List.all_cons, g]; rfl)
    cases z with | cons z _ => exact z
  | sl h r =>
    rename_i i
    have z := ARep.frozen (av' := av') hs s (ARep.sl h .nil) (fun a m => nomatch m) (by rw [List.all_cons, g]; rfl)
    cases z with | cons z _ => exact z
theorem ARep.tail {v : V} {a : Arg} {vs : List V} {l : List Arg} {t : List Addr} (h : ARep K av H σ (v :: vs) (a :: l) t) : ∃ t1 t2, t = t1 ++ t2 ∧ ARep K av H σ vs l t2 := by
  cases h with
  | tmp h r => exact ⟨_, _, rfl, r⟩
  | sl h r => exact ⟨[], _, rfl, r⟩
theorem args_none (hs : Slots K av H σ env own) (s : ∀ a, av' a → av a) : ∀ {l : List Arg} {vs : List V} {t : List Addr}, ARep K av H σ vs l t → dataOk none l env = true → (∀ a, a ∈ t → ¬ av' a) → Slots K av' H (vs.map some) (argsOf none l env) []
  | [], vs, t, h, _, _ => by
    cases h
    exact .nil
  | a :: l, vs, t, h, g, n => by
    cases vs with
    | nil => cases h
    | cons v vs =>
      unfold dataOk at g
      rw [Bool.and_eq_true] at g
      have r := arg_frozen hs s h n g.1
      obtain ⟨t1, t2, e, h2⟩ := h.tail
      subst e
      exact Slots.cons (fp := []) (.d r) (args_none hs s h2 g.2 fun a m => n a (List.mem_append_right _ m))
theorem args_tmp (hs : Slots K av H σ env own) : ∀ {l : List Arg} {vs : List V} {t : List Addr} {j : Nat} {o : O}, ARep K av H σ vs l t → t.Nodup → dataOk (some j) l env = true → l[j]? = some (.tmp o) →
    ∃ c : List Addr, c.Sublist t ∧ ∀ av' : Addr → Prop, (∀ a, av' a → av a) → (∀ a, a ∈ t → a ∉ c → ¬ av' a) → Slots K av' H (vs.map some) (argsOf (some j) l env) c
  | [], vs, t, j, o, h, _, _, e => by simp at e
  | a :: l, vs, t, 0, o, h, nd, g, e => by
    simp only [List.getElem?_cons_zero, Option.some.injEq] at e
    subst e
    cases h with | tmp h r =>
      rename_i v fp t2 vs2
      refine ⟨fp, List.sublist_append_left _ _, fun av' s n => ?_⟩
      have z := args_none hs s r g fun a m => n a (List.mem_append_right _ m) fun q => (List.nodup_append.mp nd).2.2 a q a m rfl
      have y := Slots.cons (h.keep (.grow (Grow.refl _) s) fun _ _ _ e => e) z
      rw [List.append_nil] at y
      exact y
  | a :: l, vs, t, j + 1, o, h, nd, g, e => by
    unfold dataOk at g
    rw [Bool.and_eq_true] at g
    simp only [List.getElem?_cons_succ] at e
    have gd := g.1
    cases h with
    | tmp h r =>
      rename_i v o1 fp1 t3 vs3
      have nd2 := List.nodup_append.mp nd
      obtain ⟨c, l1, k⟩ := args_tmp hs r nd2.2.1 g.2 e
      refine ⟨c, l1.trans (List.sublist_append_right _ _), fun av' s n => ?_⟩
      have k2 := k av' s fun a m q => n a (List.mem_append_right _ m) q
      have z := ARep.frozen (av' := av') hs s (ARep.tmp h .nil) (fun a m => n a (by
        rw [List.append_nil] at m
        exact List.mem_append_left _ m) fun q => nd2.2.2 a (by
        rw [List.append_nil] at m
        exact m) a (l1.subset q) rfl) (by rw [List.all_cons, gd]; rfl)
      cases z with | cons z _ => exact Slots.cons (fp := []) (.d z) k2
    | sl h r =>
      obtain ⟨c, l1, k⟩ := args_tmp hs r nd g.2 e
      refine ⟨c, l1, fun av' s n => ?_⟩
      have z := ARep.frozen (av' := av') hs s (ARep.sl h .nil) (fun a m => nomatch m) (by rw [List.all_cons, gd]; rfl)
      cases z with | cons z _ => exact Slots.cons (fp := []) (.d z) (k av' s n)
theorem args_sl (hs : Slots K av H σ env own) (s : ∀ a, av' a → av a) : ∀ {l : List Arg} {vs : List V} {t : List Addr} {i j : Nat}, ARep K av H σ vs l t → dataOk (some j) l env = true → l[j]? = some (.sl i) → (∀ a, a ∈ t → ¬ av' a) →
    (∃ v, vs[j]? = some v ∧ σ[i]? = some (some v)) ∧ ∀ c, SR K av' H (σ.getD i none) (env.getD i .un) c → Slots K av' H (vs.map some) (argsOf (some j) l env) c
  | [], vs, t, i, j, h, _, e, _ => by simp at e
  | a :: l, vs, t, i, 0, h, g, e, n => by
    simp only [List.getElem?_cons_zero, Option.some.injEq] at e
    subst e
    cases h with | sl h r =>
      rename_i v vs2
      refine ⟨⟨v, rfl, h⟩, fun c q => ?_⟩
      have z := args_none hs s r g n
      rw [List.getD_eq_getElem?_getD, h] at q
      have y := Slots.cons q z
      rw [List.append_nil] at y
      exact y
  | a :: l, vs, t, i, j + 1, h, g, e, n => by
    unfold dataOk at g
    rw [Bool.and_eq_true] at g
    simp only [List.getElem?_cons_succ] at e
    have gd := g.1
    cases h with
    | tmp h r =>
      rename_i v o1 fp1 t3 vs3
      obtain ⟨⟨v', e1, e2⟩, k⟩ := args_sl hs s r g.2 e fun a m => n a (List.mem_append_right _ m)
      refine ⟨⟨v', by simpa using e1, e2⟩, fun c q => ?_⟩
      have z := ARep.frozen (av' := av') hs s (ARep.tmp h .nil) (fun a m => n a (by
        rw [List.append_nil] at m
        exact List.mem_append_left _ m)) (by rw [List.all_cons, gd]; rfl)
      cases z with | cons z _ => exact Slots.cons (fp := []) (.d z) (k c q)
    | sl h r =>
      obtain ⟨⟨v', e1, e2⟩, k⟩ := args_sl hs s r g.2 e n
      refine ⟨⟨v', by simpa using e1, e2⟩, fun c q => ?_⟩
      have z := ARep.frozen (av' := av') hs s (ARep.sl h .nil) (fun a m => nomatch m) (by rw [List.all_cons, gd]; rfl)
      cases z with | cons z _ => exact Slots.cons (fp := []) (.d z) (k c q)
/-- a step of a part of what is owned is a step of all of it -/
theorem adv_frame {P R : List Addr} (w : OkW av1 H1 (P ++ (c ++ R))) (B : Adv av1 H1 c av3 H3 (fp ++ c')) (w3 : OkW av3 H3 (fp ++ c')) : Adv av1 H1 (P ++ (c ++ R)) av3 H3 (fp ++ (P ++ (c' ++ R))) ∧ OkW av3 H3 (fp ++ (P ++ (c' ++ R))) := by
  have nd := w.nodup
  simp only [List.nodup_append, List.mem_append] at nd
  obtain ⟨nP, ⟨nc, nR, ncR⟩, nPc⟩ := nd
  have inPR : ∀ a, a ∈ P ∨ a ∈ R → a ∉ c ∧ av1 a := fun a h => by
    rcases h with h | h
    · exact ⟨fun q => nPc a h a (.inl q) rfl, w.sub a (by simp [h])⟩
    · exact ⟨fun q => ncR a q a h rfl, w.sub a (by simp [h])⟩
  have new : ∀ a, a ∈ fp ++ c' → ¬ (a ∈ P ∨ a ∈ R) := fun a h q => by
    obtain ⟨q1, q2⟩ := inPR a q
    rcases B.fresh a h with z | z
    · exact q1 z
    · have := w.dom a q2
      rw [z] at this; cases this
  refine ⟨⟨fun a => ⟨fun h => ?_, fun h => ?_⟩, fun a h => ?_, fun a o h n => B.ext a o h fun q => n (by simp [q]), B.there⟩, ⟨?_, fun a h => ?_, w3.dom⟩⟩
  · rcases (B.av_ a).mp h with ⟨h1, h2⟩ | h
    · by_cases q : a ∈ P ∨ a ∈ R
      · exact .inr (by rcases q with q | q <;> simp [q])
      · refine .inl ⟨h1, fun z => ?_⟩
        simp only [List.mem_append] at z
        rcases z with z | z | z
        · exact q (.inl z)
        · exact h2 z
        · exact q (.inr z)
    · rcases List.mem_append.mp h with h | h <;> exact .inr (by simp [h])
  · rcases h with h | h
    · exact (B.av_ a).mpr (.inl ⟨h.1, fun q => h.2 (by simp [q])⟩)
    · simp only [List.mem_append] at h
      rcases h with h | h | h | h
      · exact (B.av_ a).mpr (.inr (by simp [h]))
      · exact (B.av_ a).mpr (.inl ⟨(inPR a (.inl h)).2, (inPR a (.inl h)).1⟩)
      · exact (B.av_ a).mpr (.inr (by simp [h]))
      · exact (B.av_ a).mpr (.inl ⟨(inPR a (.inr h)).2, (inPR a (.inr h)).1⟩)
  · simp only [List.mem_append] at h
    rcases h with h | h | h | h
    · rcases B.fresh a (by simp [h]) with z | z
      · exact .inl (by simp [z])
      · exact .inr z
    · exact .inl (by simp [h])
    · rcases B.fresh a (by simp [h]) with z | z
      · exact .inl (by simp [z])
      · exact .inr z
    · exact .inl (by simp [h])
  · have n3 := w3.nodup
    simp only [List.nodup_append] at n3 ⊢
    obtain ⟨n31, n32, n33⟩ := n3
    refine ⟨n31, ⟨nP, ⟨n32, nR, fun a ha b hb e => new a (by simp [ha]) (.inr (by rw [e]; exact hb))⟩, fun a ha b hb e => ?_⟩, fun a ha b hb e => ?_⟩
    · rcases List.mem_append.mp hb with hb | hb
      · exact new b (by simp [hb]) (.inl (by rw [← e]; exact ha))
      · exact nPc a ha b (.inr hb) e
    · simp only [List.mem_append] at hb
      rcases hb with hb | hb | hb
      · exact new a (by simp [ha]) (.inl (by rw [e]; exact hb))
      · exact n33 a ha b hb e
      · exact new a (by simp [ha]) (.inr (by rw [e]; exact hb))
  · simp only [List.mem_append] at h
    rcases h with h | h | h | h
    · exact w3.sub a (by simp [h])
    · exact (B.av_ a).mpr (.inl ⟨(inPR a (.inl h)).2, (inPR a (.inl h)).1⟩)
    · exact w3.sub a (by simp [h])
    · exact (B.av_ a).mpr (.inl ⟨(inPR a (.inr h)).2, (inPR a (.inr h)).1⟩)
theorem spF_of {n : Nat} {F : Fe} {vs : List V} {args : Ev} {Q : VK} {E : XK} (hn : vs.length = n) (s : Slots K av H (vs.map some) args own) (w : OkW av H own) (h : EPost K mg (fun cls d _ H' => E cls d H') av H own (vs.map some) Q (F args)) : spF K mg n F vs H Q E :=
  ⟨hn, args, av, own, s, w, h⟩
/-- temporaries alone are handed on (or nothing): all of it is given up behind the call -/
theorem call_tmp {n : Nat} {F : Fe} {vs : List V} {args : Ev} {Q : VK} (w : OkW av H own) (A : Adv av H own av1 H1 (t ++ own1)) (w1 : OkW av1 H1 (t ++ own1)) (hs1 : Slots K av1 H1 σ env own1) (hn : vs.length = n)
    (hc : c.Sublist t) (ha : Slots K (drp av own (c ++ own1)) H1 (vs.map some) args c) (h : EPost K mg W av H own σ Q (match F args with
      | .ok p => .ok (p.1, env)
      | .ex x y _ => .ex x y env
      | .st => .st)) : spF K mg n F vs H1 Q fun cls d H' => W cls d σ H' := by
  have l : (c ++ own1).Sublist (t ++ own1) := hc.append (List.Sublist.refl own1)
  obtain ⟨A2, w2, sb⟩ := adv_sub (fp := []) A w1 l
  have A2 : Adv av H own (drp av own (c ++ own1)) H1 (c ++ own1) := A2
  have w2 : OkW (drp av own (c ++ own1)) H1 (c ++ own1) := w2
  have s2 := hs1.grow (σ := σ) (env := env) (Grow.refl _) sb
  have wc : OkW (drp av own (c ++ own1)) H1 c := ⟨(List.nodup_append.mp w2.nodup).1, fun a m => w2.sub a (List.mem_append_left _ m), w2.dom⟩
  refine spF_of hn ha wc ?_
  have back : ∀ {av3 : Addr → Prop} {H3 : Hp} {fp c' : List Addr}, Adv (drp av own (c ++ own1)) H1 c av3 H3 (fp ++ c') → OkW av3 H3 (fp ++ c') → ∃ av4, Adv av H own av4 H3 (fp ++ own1) ∧ OkW av4 H3 (fp ++ own1) ∧ (∀ a, av4 a → av3 a) ∧ Slots K av4 H3 σ env own1 := fun {av3 H3 fp c'} B w3 => by
    obtain ⟨B2, w4⟩ := adv_frame (P := []) (R := own1) w2 B w3
    have AA := Adv.trans (t := []) (u := fp) w w2 A2 B2
    obtain ⟨A5, w5, sb5⟩ := adv_sub (fp := fp) (own2 := own1) AA w4 (List.sublist_append_right c' own1)
    refine ⟨_, A5, w5, sb5, ?_⟩
    exact (Slots.keep (σ := σ) (env := env) (B.keep wc) s2 fun a u m e => B.ext a u e fun q => w2.apart a q m).grow (σ := σ) (env := env) (Grow.refl _) sb5
  cases q : F args with
  | st => rw [q] at h; exact h
  | ok p =>
    rw [q] at h
    intro v H3 av3 fp c' B w3 r s3
    obtain ⟨av4, A5, w5, sb5, s5⟩ := back B w3
    exact h v H3 av4 fp own1 A5 w5 (r.keep (.grow (Grow.refl _) sb5) fun _ _ _ e => e) s5
  | ex x y outs =>
    rw [q] at h
    intro cls dd v H3 av3 c' hcl B w3 hd r s3
    obtain ⟨av4, A5, w5, sb5, s5⟩ := back (fp := []) B w3
    exact h cls dd v H3 av4 own1 hcl A5 w5 hd (r.keep (.grow (Grow.refl _) sb5)) s5
/-- the list of slot i is handed on -/
theorem call_sl {n : Nat} {F : Fe} {vs : List V} {args : Ev} {Q : VK} {i j : Nat} {v : V} (w : OkW av H own) (A : Adv av H own av1 H1 (t ++ own1)) (w1 : OkW av1 H1 (t ++ own1)) (hs1 : Slots K av1 H1 σ env own1) (hn : vs.length = n)
    (hv : vs[j]? = some v) (hi : σ[i]? = some (some v)) (ha : ∀ c, SR K (drp av own own1) H1 (σ.getD i none) (env.getD i .un) c → Slots K (drp av own own1) H1 (vs.map some) args c) (h : EPost K mg W av H own σ Q (match F args with
      | .ok p => .ok (p.1, env.set i (p.2.getD j .un))
      | .ex x y outs => .ex x y (env.set i (outs.getD j .un))
      | .st => .st)) : spF K mg n F vs H1 Q fun cls d H' => W cls d σ H' := by
  have A2 := Adv.drop A
  have w2 := OkW.drop A w1
  have s2 := hs1.grow (σ := σ) (env := env) (Grow.refl _) (drp_sub A)
  have hl : i < env.length := by
    rw [← s2.length]
    exact (List.getElem?_eq_some_iff.mp hi).1
  obtain ⟨s, P, c, R, eo, e1, e2, g⟩ := s2.focus hl
  rw [hi] at e1
  cases e1
  have hc := ha c (by rw [List.getD_eq_getElem?_getD, hi]; exact e2)
  have wc : OkW (drp av own own1) H1 c := by
    refine ⟨?_, fun a m => w2.sub a (by rw [eo]; simp [m]), w2.dom⟩
    have := w2.nodup
    rw [eo] at this
    exact (List.nodup_append.mp (List.nodup_append.mp this).2.1).1
  refine spF_of hn hc wc ?_
  have w2' : OkW (drp av own own1) H1 (P ++ (c ++ R)) := by
    have z := w2
    rw [eo] at z ⊢
    exact z
  have back : ∀ {av3 : Addr → Prop} {H3 : Hp} {fp c' : List Addr} {outs : Ev}, Adv (drp av own own1) H1 c av3 H3 (fp ++ c') → OkW av3 H3 (fp ++ c') → Slots K av3 H3 (vs.map some) outs c' →
      ∃ av4 own4, Adv av H own av4 H3 (fp ++ own4) ∧ OkW av4 H3 (fp ++ own4) ∧ (∀ a, av4 a → av3 a) ∧ Slots K av4 H3 σ (env.set i (outs.getD j .un)) own4 := fun {av3 H3 fp c' outs} B w3 so => by
    obtain ⟨B2, w4⟩ := adv_frame (P := P) (R := R) w2' B w3
    have hj : j < outs.length := by
      rw [← so.length, List.length_map]
      exact (List.getElem?_eq_some_iff.mp hv).1
    obtain ⟨sj, P2, cj, R2, eo2, g1, g2, _⟩ := so.focus hj
    rw [List.getElem?_map, hv] at g1
    cases g1
    have A2' : Adv av H own (drp av own own1) H1 (P ++ (c ++ R)) := by
      rw [← eo]
      exact A2
    have AA := Adv.trans (t := []) (u := fp) w w2' A2' B2
    have l : (P ++ (cj ++ R)).Sublist (P ++ (c' ++ R)) := by
      refine (List.Sublist.refl P).append (List.Sublist.append ?_ (List.Sublist.refl R))
      rw [eo2]
      exact (List.sublist_append_left cj R2).trans (List.sublist_append_right P2 _)
    obtain ⟨A5, w5, sb5⟩ := adv_sub (fp := fp) (own2 := P ++ (cj ++ R)) AA w4 l
    refine ⟨_, _, A5, w5, sb5, ?_⟩
    have z := g (s' := some v) (o' := outs.getD j .un) (fp' := cj) (B.keep wc) (fun a u m e => B.ext a u e fun q => ?_) g2
    · have eσ : σ.set i (some v) = σ := by
        refine List.ext_getElem? fun k => ?_
        by_cases hk : i = k
        · subst hk
          rw [List.getElem?_set_self (List.getElem?_eq_some_iff.mp hi).1, hi]
        · rw [List.getElem?_set_ne hk]
      rw [eσ] at z
      exact z.grow (σ := σ) (env := env.set i (outs.getD j .un)) (Grow.refl _) sb5
    · have nd := w2'.nodup
      simp only [List.nodup_append, List.mem_append] at nd m
      rcases m with m | m
      · exact nd.2.2 a m a (.inl q) rfl
      · exact nd.2.1.2.2 a q a m rfl
  cases q : F args with
  | st => rw [q] at h; exact h
  | ok p =>
    rw [q] at h
    intro v H3 av3 fp c' B w3 r s3
    obtain ⟨av4, own4, A5, w5, sb5, s5⟩ := back B w3 s3
    exact h v H3 av4 fp own4 A5 w5 (r.keep (.grow (Grow.refl _) sb5) fun _ _ _ e => e) s5
  | ex x y outs =>
    rw [q] at h
    intro cls dd v H3 av3 c' hcl B w3 hd r s3
    obtain ⟨av4, own4, A5, w5, sb5, s5⟩ := back (fp := []) B w3 s3
    exact h cls dd v H3 av4 own4 hcl A5 w5 hd (r.keep (.grow (Grow.refl _) sb5)) s5
theorem call_ok {n : Nat} {F : Fe} {m : Option Nat} {as : List Opd} {Q : VK} (hn : as.length = n) (hm : ∀ j, m = some j → j < n) (h : tOf K mg W (callE F m as) σ H Q) : tArg K mg W as σ H fun vs H1 => spF K mg n F vs H1 Q fun cls d H' => W cls d σ H' := by
  obtain ⟨env, av, own, hs, w, h⟩ := h
  refine args_ok as hs w ?_
  unfold callE at h
  cases q : evA as env with
  | st => rw [q] at h; exact h
  | ex c x e => rw [q] at h; exact h
  | ok p =>
    obtain ⟨l, env'⟩ := p
    have hl := evA_length q
    rw [q] at h
    intro vs H1 av1 t own1 A w1 ha hs1
    have h' : EPost K mg W av H own σ Q (if dataOk m l env' then callBack m l env' (F (argsOf m l env')) else .st) := h
    have hvn : vs.length = n := by rw [ha.len, hl, hn]
    have nt : t.Nodup := (List.nodup_append.mp w1.nodup).1
    have out : ∀ a, a ∈ t → ¬ drp av own own1 a := fun a m z => by
      rcases z with z | z
      · rcases A.fresh a (List.mem_append_left _ m) with q | q
        · exact z.2 q
        · have := w.dom a z.1
          rw [q] at this; cases this
      · exact w1.apart a m z
    cases hg : dataOk m l env' with
    | false => rw [hg, if_neg Bool.false_ne_true] at h'; exact h'.elim
    | true =>
      rw [hg, if_pos rfl] at h'
      cases m with
      | none =>
        refine call_tmp (c := []) w A w1 hs1 hvn (List.nil_sublist t) (args_none (av' := drp av own ([] ++ own1)) hs1 (drp_sub A) ha hg out) ?_
        cases q2 : F (argsOf none l env') with
        | st => rw [q2] at h'; exact h'
        | ok p => rw [q2] at h'; exact h'
        | ex x y outs => rw [q2] at h'; exact h'
      | some j =>
        have hj : j < l.length := by rw [hl, hn]; exact hm j rfl
        cases ej : l[j]? with
        | none => exact absurd (List.getElem?_eq_none_iff.mp ej) (by omega)
        | some aj =>
          cases aj with
          | tmp o =>
            obtain ⟨c, lc, k⟩ := args_tmp hs1 ha nt hg ej
            have l2 : (c ++ own1).Sublist (t ++ own1) := lc.append (List.Sublist.refl own1)
            refine call_tmp (c := c) w A w1 hs1 hvn lc (k _ (adv_sub (fp := []) A w1 l2).2.2 fun a m n z => ?_) ?_
            · rcases z with z | z
              · exact out a m (.inl z)
              · rcases List.mem_append.mp z with z | z
                · exact n z
                · exact w1.apart a m z
            · have eb : ∀ outs, backOf (some j) l env' outs = env' := fun outs => by
                show (match l[j]? with
                  | some (.sl i) => env'.set i (outs.getD j .un)
                  | _ => env') = env'
                rw [ej]
              cases q2 : F (argsOf (some j) l env') with
              | st => rw [q2] at h'; exact h'
              | ok p => rw [q2, callBack_ok, eb] at h'; exact h'
              | ex x y outs => rw [q2, callBack_ex, eb] at h'; exact h'
          | sl i =>
            obtain ⟨⟨v, e1, e2⟩, k⟩ := args_sl (av' := drp av own own1) hs1 (drp_sub A) ha hg ej out
            refine call_sl w A w1 hs1 hvn e1 e2 k ?_
            have eb : ∀ outs, backOf (some j) l env' outs = env'.set i (outs.getD j .un) := fun outs => by
              show (match l[j]? with
                | some (.sl i) => env'.set i (outs.getD j .un)
                | _ => env') = _
              rw [ej]
            cases q2 : F (argsOf (some j) l env') with
            | st => rw [q2] at h'; exact h'
            | ok p => rw [q2, callBack_ok, eb] at h'; exact h'
            | ex x y outs => rw [q2, callBack_ex, eb] at h'; exact h'
end
section
variable {X : Cx} {W : WX} {pos p : Pos} {e : Expr} {es : List Expr} {os : List Opd} {x : Str}
/-- f(e, ..) -/
theorem v_call {k : Nat} {f : Addr} {fd : FuncData} {ps : List Str} {F : Fe} (m : Option Nat) (hF : FnV X.prog X.w X.K X.mg X.base k f fd ps F) (hr : Room k X.A) (hg : Gl X x) (hm : X.mg x = some (.ref f)) (hk : PySem.W.keepIn X.K (.ref f) = true) (hb : Binds X.K fd ps []) (tk : Takes X W)
    (ha : VA X W (e :: es) os) (hn : os.length = ps.length := by rfl) (hmn : ∀ j, m = some j → j < ps.length := by first | (intro _ h; cases h; decide) | (intro _ h; cases h)) (hdb : (x == ("__debug__" : Str)) = false := by decide)
    (he : starEach (e :: es) X.env = (false, eval e X.env) :: starEach es X.env := by rfl) (hpl : (backTo pos (starEach es X.env)).any (·.1) = false := by rfl) : VE X W (.Call (.Name x p) (e :: es) [] pos) (callE F m os) := by
  refine pe_imp (pe_callSD (E := fun σ cls d H' => W cls d σ H') hF hr hg hm hk hb .nil (fun σ => passAt tk σ) ha hdb he hpl) fun σ H Q h => tArg_mono (fun vs H1 h => ?_) (call_ok hn hmn h)
  rw [List.append_nil]
  exact h
theorem v_call0 {k : Nat} {f : Addr} {fd : FuncData} {F : Fe} (hF : FnV X.prog X.w X.K X.mg X.base k f fd [] F) (hr : Room k X.A) (hg : Gl X x) (hm : X.mg x = some (.ref f)) (hk : PySem.W.keepIn X.K (.ref f) = true) (hb : Binds X.K fd [] []) (tk : Takes X W)
    (hdb : (x == ("__debug__" : Str)) = false := by decide) : True := trivial
end
end VL

set_option Elab.async false
set_option linter.all false
set_option maxRecDepth 100000
namespace VL
open PySem PySem.Spec PyProof.Rows L2

section
variable {K : PySem.W.Frag} {mg : Str → Option Value} {W : WX} {av av1 : Addr → Prop} {H H1 : Hp} {own own1 t : List Addr} {σ : L2.St}
/-- slot i is given another content while t waits -/
theorem Slots.putT {env : Ev} {i : Nat} {v : Option V} {o : O} {fp : List Addr} (A : Adv av H own av1 H1 (t ++ (fp ++ own1))) (w1 : OkW av1 H1 (t ++ (fp ++ own1))) (hs : Slots K av1 H1 σ env own1) (hi : i < env.length) (hr : SR K av1 H1 v o fp) :
    ∃ (av2 : Addr → Prop) (own2 : List Addr), Adv av H own av2 H1 (t ++ own2) ∧ OkW av2 H1 (t ++ own2) ∧ (∀ a, av2 a → av1 a) ∧ Slots K av2 H1 (σ.set i v) (env.set i o) own2 := by
  obtain ⟨s, P, fpi, B, rfl, e1, e2, g⟩ := hs.focus hi
  have mem : ∀ a, a ∈ t ++ (P ++ (fp ++ B)) → a ∈ t ++ (fp ++ (P ++ (fpi ++ B))) := fun a h => by
    simp only [List.mem_append] at h ⊢
    rcases h with h | h | h | h <;> simp [h]
  have sub : ∀ a, drp av own (t ++ (P ++ (fp ++ B))) a → av1 a := fun a h => by
    rcases h with h | h
    · exact (A.av_ a).mpr (.inl h)
    · exact w1.sub a (mem a h)
  have nd : (t ++ (P ++ (fp ++ B))).Nodup := by
    have := w1.nodup
    simp only [List.nodup_append, List.mem_append] at this ⊢
    obtain ⟨n0, ⟨n1, ⟨n2, ⟨n3, n4, n5⟩, n6⟩, n7⟩, n8⟩ := this
    refine ⟨n0, ⟨n2, ⟨n1, n4, fun a ha b hb => n7 a ha b (.inr (.inr hb))⟩, fun a ha b hb => ?_⟩, fun a ha b hb => ?_⟩
    · rcases hb with hb | hb
      · exact fun e => n7 b hb a (.inl ha) e.symm
      · exact n6 a ha b (.inr hb)
    · rcases hb with hb | hb | hb
      · exact n8 a ha b (.inr (.inl hb))
      · exact n8 a ha b (.inl hb)
      · exact n8 a ha b (.inr (.inr (.inr hb)))
  exact ⟨drp av own (t ++ (P ++ (fp ++ B))), P ++ (fp ++ B), ⟨fun _ => Iff.rfl, fun a h => A.fresh a (mem a h), A.ext, A.there⟩, ⟨nd, fun a h => .inr h, fun a h => w1.dom a (sub a h)⟩, sub,
    g (.grow (Grow.refl _) sub) (fun _ _ _ e => e) (hr.keep (.grow (Grow.refl _) sub) fun _ _ _ e => e)⟩
/-- a temporary is made data -/
theorem thaw {v : V} {o : O} {fp R : List Addr} (w : OkW av H own) (A : Adv av H own av1 H1 (fp ++ R)) (w1 : OkW av1 H1 (fp ++ R)) (hr : SR K av1 H1 (some v) o fp) (hu : o.isUn = false) :
    Adv av H own (drp av own R) H1 R ∧ OkW (drp av own R) H1 R ∧ (∀ a, drp av own R a → av1 a) ∧ SR K (drp av own R) H1 (some v) (.d o.toD) [] :=
  ⟨Adv.drop A, OkW.drop A w1, drp_sub A, .d (hr.frozen hu (drp_sub A) fun a m z => by
    rcases z with z | z
    · rcases A.fresh a (List.mem_append_left _ m) with q | q
      · exact z.2 q
      · have := w.dom a z.1
        rw [q] at this; cases this
    · exact w1.apart a m z)⟩
end
/-- kept as it is, or as data -/
def zO (z : Bool) (o : O) : O := if z then .d o.toD else o
/-- x, y = a, b -/
def parS (i j : Nat) (zi zj : Bool) (fa fb : Fe) : Fs := fun env => (fa env).then fun p => (fb p.2).then fun q =>
  if p.1.isUn || q.1.isUn || !decide (i < q.2.length) || !decide (j < q.2.length) then .st else .nx ((q.2.set i (zO zi p.1)).set j (zO zj q.1))
section
variable {X : Cx} {W : WX} {pn : List Nat} {pos : Pos}
theorem s_par {i j : Nat} {zi zj : Bool} {x y : Str} {a b : Expr} {fa fb : Fe} {px py pt : Pos} {kt k2 : Nat} {pt2 : Pos} (hc : X.calm = true) (hN : X.N.Nodup) (hi : X.N[i]? = some x) (hj : X.N[j]? = some y) (hij : i ≠ j)
    (hx : X.env.scope.names.lookup x = some .local) (hy : X.env.scope.names.lookup y = some .local) (hpi : pn.contains i = false) (hpj : pn.contains j = false) (ha : VE X W a fa) (hb : VE X W b fb)
    (hw : swappedStores [.Tuple [.Name x px, .Name y py] kt pt] (.Tuple [a, b] k2 pt2) X.env = pure (some [x, y]))
    (hs : swapsWithSole [.Tuple [.Name x px, .Name y py] kt pt] (.Tuple [a, b] k2 pt2) pos.line X.env = pure false := by rfl)
    (h1 : starEach [a, b] X.env = (false, eval a X.env) :: starEach [b] X.env := by rfl) (h2 : starEach [b] X.env = (false, eval b X.env) :: starEach [] X.env := by rfl) :
    VS X W pn (.Assign [.Tuple [.Name x px, .Name y py] kt pt] (.Tuple [a, b] k2 pt2) pos) (parS i j zi zj fa fb) := by
  refine ps_imp (ps_par hc hN hi hj hij hx hy (pa_cons ha (pa_cons hb pa_nil h2) h1) hw hs) fun G σ H h => ?_
  obtain ⟨env, av, own, hs, w, h⟩ := h
  show tOf X.K X.mg W fa σ H fun v1 H1 => tOf X.K X.mg W fb σ H1 fun v2 H2 => ∃ v w, [v1, v2] = [v, w] ∧ G.nx ((σ.set i (some v)).set j (some w)) H2
  refine ⟨env, av, own, hs, w, ?_⟩
  unfold parS at h
  cases q : fa env with
  | st => rw [q] at h; exact h
  | ex c x e => rw [q] at h; exact SPost.exc h
  | ok p =>
    obtain ⟨o1, env1⟩ := p
    rw [q] at h
    intro v1 H1 av1 fp1 own1 A1 w1 r1 s1
    refine ⟨env1, av1, own1, s1, w1.tail, ?_⟩
    have h : SPost X.K X.mg W pn av H own σ G ((fb env1).then fun q => if o1.isUn || q.1.isUn || !decide (i < q.2.length) || !decide (j < q.2.length) then .st else .nx ((q.2.set i (zO zi o1)).set j (zO zj q.1))) := h
    cases q2 : fb env1 with
    | st => rw [q2] at h; exact h
    | ex c x e =>
      rw [q2] at h
      have z : XPost X.K X.mg W av H own σ c x e := SPost.exc h
      exact XPost.step w w1 A1 z
    | ok p2 =>
      obtain ⟨o2, env2⟩ := p2
      rw [q2] at h
      intro v2 H2 av2 fp2 own2 A2 w2 r2 s2
      refine ⟨v1, v2, rfl, ?_⟩
      have h : SPost X.K X.mg W pn av H own σ G (if o1.isUn || o2.isUn || !decide (i < env2.length) || !decide (j < env2.length) then .st else .nx ((env2.set i (zO zi o1)).set j (zO zj o2))) := h
      cases hc : (o1.isUn || o2.isUn || !decide (i < env2.length) || !decide (j < env2.length)) with
      | true => rw [hc, if_pos rfl] at h; exact h.elim
      | false =>
        rw [hc, if_neg Bool.false_ne_true] at h
        simp only [Bool.or_eq_false_iff, Bool.not_eq_false', decide_eq_true_eq] at hc
        obtain ⟨⟨⟨u1, u2⟩, li⟩, lj⟩ := hc
        have AA := Adv.trans w w1 A1 A2
        have ww := OkW.trans w1 A2 w2
        have r1' := r1.over w1 A2
        rw [List.append_assoc] at AA ww
        -- the second one first
        have step2 : ∃ (av3 : Addr → Prop) (R : List Addr), Adv av H own av3 H2 (fp1 ++ (R ++ own2)) ∧ OkW av3 H2 (fp1 ++ (R ++ own2)) ∧ (∀ a, av3 a → av2 a) ∧ SR X.K av3 H2 (some v2) (zO zj o2) R := by
          cases zj with
          | false => exact ⟨av2, fp2, AA, ww, fun _ h => h, r2⟩
          | true =>
            have mm : ∀ a, a ∈ fp1 ++ own2 → a ∈ fp1 ++ (fp2 ++ own2) := fun a m => by
              rcases List.mem_append.mp m with m | m <;> simp [m]
            have sb : ∀ a, drp av own (fp1 ++ own2) a → av2 a := fun a z => (AA.av_ a).mpr (z.elim .inl fun z => .inr (mm a z))
            have nd := ww.nodup
            simp only [List.nodup_append, List.mem_append] at nd
            refine ⟨drp av own (fp1 ++ own2), [], ⟨fun _ => Iff.rfl, fun a m => AA.fresh a (mm a m), AA.ext, AA.there⟩, ⟨?_, fun a m => .inr m, fun a m => ww.dom a (sb a m)⟩, sb, .d (r2.frozen u2 sb fun a m z => ?_)⟩
            · show (fp1 ++ own2).Nodup
              rw [List.nodup_append]
              exact ⟨nd.1, nd.2.1.2.1, fun a ha b hb => nd.2.2 a ha b (.inr hb)⟩
            · rcases z with z | z
              · rcases AA.fresh a (by simp [m]) with q | q
                · exact z.2 q
                · have := w.dom a z.1
                  rw [q] at this; cases this
              · rcases List.mem_append.mp z with z | z
                · exact nd.2.2 a z a (.inl m) rfl
                · exact w2.apart a m z
        obtain ⟨av3, R, A3, w3, sb3, r3⟩ := step2
        have s3 := s2.grow (σ := σ) (env := env2) (Grow.refl _) sb3
        have r1'' : SR X.K av3 H2 (some v1) o1 fp1 := r1'.keep (.grow (Grow.refl _) sb3) fun _ _ _ e => e
        obtain ⟨av4, own4, A4, w4, sb4, s4⟩ := Slots.putT A3 w3 s3 lj r3
        have r1''' : SR X.K av4 H2 (some v1) o1 fp1 := r1''.keep (.grow (Grow.refl _) sb4) fun _ _ _ e => e
        have lj' : i < (env2.set j (zO zj o2)).length := by rw [List.length_set]; exact li
        have fin : ∃ (av5 : Addr → Prop) (own5 : List Addr), Adv av H own av5 H2 own5 ∧ OkW av5 H2 own5 ∧ Slots X.K av5 H2 ((σ.set j (some v2)).set i (some v1)) ((env2.set j (zO zj o2)).set i (zO zi o1)) own5 := by
          cases zi with
          | false => exact s4.put A4 w4 lj' r1'''
          | true =>
            obtain ⟨t1, t2, t3, t4⟩ := thaw w A4 w4 r1''' u1
            exact Slots.put (fp := []) t1 t2 (s4.grow (σ := σ.set j (some v2)) (env := env2.set j (zO zj o2)) (Grow.refl _) t3) lj' t4
        obtain ⟨av5, own5, A5, w5, s5⟩ := fin
        rw [List.set_comm _ _ (Ne.symm hij), List.set_comm _ _ (Ne.symm hij)] at s5
        exact h _ H2 av5 own5 ((Pn.set hpi).trans (Pn.set hpj)) A5 w5 s5
theorem asgZ_ok {K : PySem.W.Frag} {mg : Str → Option Value} {i : Nat} {fe : Fe} {G : Ends} {σ : L2.St} {H : Hp} (hp : pn.contains i = false) (h : tS K mg W pn (asgZ i fe) G σ H) : tOf K mg W fe σ H fun x H1 => G.nx (σ.set i (some x)) H1 := by
  obtain ⟨env, av, own, hs, w, h⟩ := h
  refine ⟨env, av, own, hs, w, ?_⟩
  unfold asgZ at h
  cases q : fe env with
  | st => rw [q] at h; exact h
  | ex c x e => rw [q] at h; exact SPost.exc h
  | ok p =>
    obtain ⟨o, env1⟩ := p
    rw [q] at h
    intro v H1 av1 fp own1 A w1 hr hs1
    have h' : SPost K mg W pn av H own σ G (if o.isUn then .st else if i < env1.length then .nx (env1.set i (.d o.toD)) else .st) := h
    cases hu : o.isUn with
    | true => rw [hu, if_pos rfl] at h'; exact h'.elim
    | false =>
      rw [hu, if_neg Bool.false_ne_true] at h'
      by_cases hl : i < env1.length
      · rw [if_pos hl] at h'
        obtain ⟨t1, t2, t3, t4⟩ := thaw w A w1 hr hu
        obtain ⟨av2, own2, A2, w2, s2⟩ := Slots.put (fp := []) t1 t2 (hs1.grow (σ := σ) (env := env1) (Grow.refl _) t3) hl t4
        exact h' _ H1 av2 own2 (Pn.set hp) A2 w2 s2
      · rw [if_neg hl] at h'
        exact h'.elim
theorem s_setLcZ {i : Nat} {y : Str} {py : Pos} {elt tg iter : Expr} {ifs : List Expr} {scope : Scope} {own : List (Str × Nat)} {spos : Pos} {pn pm vs : List Nat} {src : Fi} {tgt : Fg} {test : Ft} {fe : Fe} (hc : X.calm = true) (hN : X.N.Nodup) (hy : X.N[i]? = some y) (hyl : X.env.scope.names.lookup y = some .local) (hp : pm.contains i = false)
    (hsw : swapsWith (.ListComp elt [⟨tg, iter, ifs, 0⟩] scope pos) (some (.Name y py)) spos.line X.env = pure true) (hi : VI X W tg iter src) (ok : BlkOk X.N X.env.scope scope own)
    (hg : ∀ (s : Shared) (H : Hp) (C : Addr) (cl : List (Str × Addr)) (fp : List Addr), VG (X.blk s H scope (compEnvC scope cl C X.env) fp) pn tg tgt) (ht : ∀ (s : Shared) (H : Hp) (C : Addr) (cl : List (Str × Addr)) (fp : List Addr), VTs (X.blk s H scope (compEnvC scope cl C X.env) fp) ifs test)
    (he : ∀ (s : Shared) (H : Hp) (C : Addr) (cl : List (Str × Addr)) (fp : List Addr), VE (X.blk s H scope (compEnvC scope cl C X.env) fp) W0 elt fe) (hv : own.map (·.2) = vs) (nd : vs.Nodup) (hpn : (List.range X.N.length).all (fun i => vs.contains i || pn.contains i) = true) (hs : ∀ x, foldedSetIterable iter X.env x = pure x := by intro _; rfl) :
    VS X W pm (.Assign [.Name y py] (.ListComp elt [⟨tg, iter, ifs, 0⟩] scope pos) spos) (asgZ i (lcE vs src tgt test fe)) := by
  subst hv
  have base := ps_setLc (wi := tI X.K X.mg W src) (g := tG X.K pn tgt) (tt := tTs X.K X.mg W0 test) (te := tOf X.K X.mg W0 fe) hc hN hy hyl hsw hi ok hg ht he hs
  refine ⟨fun pins s σ H G I h => base.run pins s σ H G I ?_⟩
  show tLc (tI X.K X.mg W src) (tG X.K pn tgt) (tTs X.K X.mg W0 test) (tOf X.K X.mg W0 fe) (own.map (·.2)) σ H fun x H1 => G.nx (σ.set i (some x)) H1
  refine lc_ok nd I.len (fun i hi => ?_) (asgZ_ok hp h)
  have := List.all_eq_true.mp hpn i (List.mem_range.mpr hi)
  rw [Bool.or_eq_true, List.contains_iff_mem, List.contains_iff_mem] at this
  exact this
end

/-- a def of the text, as it stands behind the top -/
structure Fnt (K : PySem.W.Frag) (mg : Str → Option Value) (x : Str) (st : Stmt) (ps : List Str) where
  f : Addr
  fd : FuncData
  F : Fun K x x st f fd
  b : Binds K fd ps []
  g : mg x = some (.ref f)
theorem fn_st {P : Program} {w : World} {K : PySem.W.Frag} {mg : Str → Option Value} {base : Heap} {k : Nat} {f : Addr} {fd : FuncData} {ps : List Str} : FnV P w K mg base k f fd ps fun _ => .st :=
  ⟨fun vs H Q E h => h.1, fun A outer s H args us vs Q E hr e0 hb hv h => by
    obtain ⟨_, _, _, _, _, _, h⟩ := h
    exact h.elim⟩
theorem Room.units65 {k : Nat} {A : Around} (r : Room k A) : A.units + 65 < cLine := by have := r.un; omega
theorem law_sp {K : PySem.W.Frag} {mg : Str → Option Value} {F : Fe} {n : Nat} (hF : ∀ ns : List Int, ns.length ≤ n → ∃ outs, F [.d (.scr (ns.map D.int))] = .ok (.d (.bl true), outs)) {H : Hp} {a : Addr} {ns : List Int} (hl : ns.length ≤ n) (hS : SqL K H a (ns.map V.int)) :
    spF K mg 1 F [.ref a] H (fun v _ => v = .bl true) fun _ _ _ => False := by
  obtain ⟨outs, e⟩ := hF ns hl
  refine ⟨rfl, [.d (.scr (ns.map D.int))], fun _ => False, [], ?_, ⟨List.nodup_nil, fun _ h => (nomatch h), fun _ h => h.elim⟩, ?_⟩
  · refine Slots.cons (fp := []) (.d ?_) .nil
    rcases hS with h | h
    · exact .scr (fun z => z) h (RDs.ofInts ns)
    · exact .kscr h (RDs.ofInts ns)
  · rw [e]
    intro v H' av' fp own' A w r s
    cases r with | d r =>
      cases r
      rfl
end VL

set_option Elab.async false
set_option linter.all false
set_option maxRecDepth 100000
namespace VL
open PySem PySem.Spec PyProof.Rows L2

def noE : Fe := fun _ => .st
def noT : Ft := fun _ => .st
def noS : Fs := fun _ => .st
section
variable {X : Cx} {W : WX} {pn : List Nat}
theorem v_dead {e : Expr} : VE X W e noE := ⟨fun pins s σ H Q I h => by
  obtain ⟨_, _, _, _, _, h⟩ := h
  exact h.elim⟩
theorem t_dead {e : Expr} : VT X W e noT := ⟨fun pins s σ H Q I h => by
  obtain ⟨_, _, _, _, _, h⟩ := h
  exact h.elim⟩
theorem s_dead {s : Stmt} : VS X W pn s noS := ⟨fun pins s σ H Q I h => by
  obtain ⟨_, _, _, _, _, h⟩ := h
  exact h.elim⟩
theorem b_dead {s : List Stmt} : VB X W pn s noS := ⟨fun pins s σ H Q I h => by
  obtain ⟨_, _, _, _, _, h⟩ := h
  exact h.elim⟩
end

def isBD (x y : D) : Option O := match x, y with
  | .bl a, .bl b => some (.d (.bl (decide (a = b))))
  | _, _ => none
def notBD (x y : D) : Option O := match x, y with
  | .bl a, .bl b => some (.d (.bl (!decide (a = b))))
  | _, _ => none
section
variable {X : Cx}
theorem op_isBD : OpR X (compareOp .Is) (RB X.K isBD) := by
  refine opR_sane op_isBl fun x y H Q sn h => ?_
  obtain ⟨av, dx, dy, dm, h1, h2, f⟩ := h
  unfold isBD at f
  split at f
  · rw [h1.bl, h2.bl]
    exact ⟨_, _, rfl, rfl, f.bl⟩
  · exact f.elim
theorem op_notBD : OpR X (compareOp .IsNot) (RB X.K notBD) := by
  refine opR_sane op_notBl fun x y H Q sn h => ?_
  obtain ⟨av, dx, dy, dm, h1, h2, f⟩ := h
  unfold notBD at f
  split at f
  · rw [h1.bl, h2.bl]
    exact ⟨_, _, rfl, rfl, f.bl⟩
  · exact f.elim
end

def enumL : Nat → List D → List D
  | _, [] => []
  | i, d :: ds => .tup [.int (i : Nat), d] :: enumL (i + 1) ds
theorem enumL_length : ∀ (ds : List D) (i : Nat), (enumL i ds).length = ds.length
  | [], _ => rfl
  | d :: ds, i => by
    unfold enumL
    rw [List.length_cons, List.length_cons, enumL_length ds]
theorem enumL_get : ∀ (ds : List D) (i j : Nat) (d : D), (enumL i ds)[j]? = some d → ∃ e, ds[j]? = some e ∧ d = .tup [.int ((i + j : Nat) : Int), e]
  | [], _, _, _, h => by
    unfold enumL at h
    simp at h
  | e :: ds, i, 0, d, h => by
    unfold enumL at h
    simp only [List.getElem?_cons_zero, Option.some.injEq] at h
    exact ⟨e, rfl, h.symm⟩
  | e :: ds, i, j + 1, d, h => by
    unfold enumL at h
    simp only [List.getElem?_cons_succ] at h ⊢
    obtain ⟨e2, h1, h2⟩ := enumL_get ds (i + 1) j d h
    exact ⟨e2, h1, by rw [h2, show i + 1 + j = i + (j + 1) by omega]⟩
def zipLD : List D → List D → List D
  | x :: xs, y :: ys => .tup [x, y] :: zipLD xs ys
  | _, _ => []
theorem zipLD_length : ∀ (xs ys : List D), (zipLD xs ys).length = min xs.length ys.length
  | [], ys => by simp [zipLD]
  | x :: xs, [] => by simp [zipLD]
  | x :: xs, y :: ys => by simp [zipLD, zipLD_length xs ys]
theorem zipLD_get : ∀ (xs ys : List D) (j : Nat) (d : D), (zipLD xs ys)[j]? = some d → ∃ x y, xs[j]? = some x ∧ ys[j]? = some y ∧ d = .tup [x, y]
  | [], ys, j, d, h => by simp [zipLD] at h
  | x :: xs, [], j, d, h => by simp [zipLD] at h
  | x :: xs, y :: ys, 0, d, h => by
    simp [zipLD] at h
    exact ⟨x, y, rfl, rfl, h.symm⟩
  | x :: xs, y :: ys, j + 1, d, h => by
    simp [zipLD] at h
    obtain ⟨a, b, h1, h2, h3⟩ := zipLD_get xs ys j d h
    exact ⟨a, b, by simpa using h1, by simpa using h2, h3⟩
def enumD : List D → Option (List D)
  | [d] => d.seqL.map (enumL 0)
  | _ => none
def zipD : List D → Option (List D)
  | [d, e] => match d.seqL, e.seqL with
    | some xs, some ys => some (zipLD xs ys)
    | _, _ => none
  | _ => none
def anyLD : List D → Option (List D)
  | [.str x] => some (x.cps.toList.map fun c => D.str ⟨#[c]⟩)
  | [d] => d.seq
  | _ => none
section
variable {K : PySem.W.Frag} {mg : Str → Option Value} {W : WX} {av av1 : Addr → Prop} {H H1 : Hp} {own own1 t : List Addr} {σ : L2.St}
/-- a list or the script stands as it is -/
theorem seqL_stable {v : V} {d : D} {ds : List D} (h : RD K av H v d) (e : d.seqL = some ds) : ∃ a vs, v = .ref a ∧ RDs K av H vs ds ∧ SqL K H a vs ∧ ∀ av' H', Keep av av' H H' → SqL K H' a vs := by
  cases d <;> simp only [D.seqL, Option.some.injEq, reduceCtorEq] at e <;> subst e
  · cases h with | lst n e r => exact ⟨_, _, rfl, r, SqL.of e, fun av' H' k => SqL.of (k.at_ _ _ n e)⟩
  · cases h with
    | scr n e r => exact ⟨_, _, rfl, r, .inl e, fun av' H' k => .inl (k.rd n e).2⟩
    | kscr e r => exact ⟨_, _, rfl, r, .inr e, fun av' H' k => .inr e⟩
theorem tup_new {av : Addr → Prop} {H : Hp} {T : Addr} {vs : List V} {ds : List D} (dm : Dom av H) (hn : H T = none) (r : RDs K av H vs ds) : Grow H (upd H T (.tup vs)) ∧ RD K av (upd H T (.tup vs)) (.ref T) (.tup ds) := by
  have g : Grow H (upd H T (.tup vs)) := Grow.new hn
  refine ⟨g, .tup (fun q => ?_) upd_same (r.keep (.grow g fun _ z => z))⟩
  have := dm T q
  rw [hn] at this
  cases this
theorem yields_enum {v : V} {d : D} {ds : List D} (h : RD K av H v d) (e : d.seqL = some ds) : ∃ a, v = .ref a ∧ (∃ vs, SqL K H a vs) ∧ Yields K av H (Ite K a) (enumL 0 ds) := by
  obtain ⟨a, vs, rfl, r, h0, st⟩ := seqL_stable h e
  refine ⟨a, rfl, ⟨vs, h0⟩, fun av' H' k i hi => ?_, fun av' H' k dm i x H'' d hd y => ?_, fun av' H' k => ?_⟩
  · rw [enumL_length] at hi
    obtain ⟨v, e, _⟩ := r.getD (List.getElem?_eq_getElem hi)
    exact ⟨vs, v, st av' H' k, e⟩
  · obtain ⟨T, x1, rfl, hn, rfl, y⟩ := y
    obtain ⟨d1, e1, rfl⟩ := enumL_get ds 0 i d hd
    obtain ⟨v, e, q⟩ := r.getD e1
    have e2 := y vs (st av' _ k)
    rw [e] at e2
    cases e2
    rw [Nat.zero_add]
    exact tup_new dm hn (.cons (.int _) (.cons (q.keep k) .nil))
  · exact ⟨vs, st av' H' k, by rw [enumL_length, r.length]; exact Nat.le_refl _⟩
theorem yields_zip {v v2 : V} {d d2 : D} {ds ds2 : List D} (h : RD K av H v d) (e : d.seqL = some ds) (h2 : RD K av H v2 d2) (e2 : d2.seqL = some ds2) :
    ∃ a b, v = .ref a ∧ v2 = .ref b ∧ (∃ vs, SqL K H a vs) ∧ (∃ vs, SqL K H b vs) ∧ Yields K av H (Itz K a b) (zipLD ds ds2) := by
  obtain ⟨a, vs, rfl, r, h0, st⟩ := seqL_stable h e
  obtain ⟨b, ws, rfl, r2, h02, st2⟩ := seqL_stable h2 e2
  refine ⟨a, b, rfl, rfl, ⟨vs, h0⟩, ⟨ws, h02⟩, fun av' H' k i hi => ?_, fun av' H' k dm i x H'' d hd y => ?_, fun av' H' k => ?_⟩
  · rw [zipLD_length] at hi
    obtain ⟨v, e, _⟩ := r.getD (List.getElem?_eq_getElem (show i < ds.length by omega))
    obtain ⟨v2, e2, _⟩ := r2.getD (List.getElem?_eq_getElem (show i < ds2.length by omega))
    exact ⟨vs, ws, v, v2, st av' H' k, st2 av' H' k, e, e2⟩
  · obtain ⟨T, x1, x2, rfl, hn, rfl, y, y2⟩ := y
    obtain ⟨d1, d2, e1, e2, rfl⟩ := zipLD_get ds ds2 i d hd
    obtain ⟨v, f1, q1⟩ := r.getD e1
    obtain ⟨v2, f2, q2⟩ := r2.getD e2
    have g1 := y vs (st av' _ k)
    have g2 := y2 ws (st2 av' _ k)
    rw [f1] at g1
    rw [f2] at g2
    cases g1
    cases g2
    exact tup_new dm hn (.cons (q1.keep k) (.cons (q2.keep k) .nil))
  · refine ⟨vs, ws, st av' H' k, st2 av' H' k, ?_⟩
    rw [zipLD_length, r.length, r2.length]
    omega
theorem yields_str {x : Str} : Yields K av H (Its x) (x.cps.toList.map fun c => D.str ⟨#[c]⟩) where
  go := fun av' H' k i hi => by
    rw [List.length_map, Array.length_toList] at hi
    exact hi
  yld := fun av' H' k dm i v H'' d hd y => by
    obtain ⟨rfl, c, hc, rfl⟩ := y
    refine ⟨Grow.refl _, ?_⟩
    rw [List.getElem?_map] at hd
    rw [Array.getElem?_toList] at hd
    rw [hc] at hd
    cases hd
    exact .str _
  stop := fun av' H' k => by
    show _ ≤ _
    rw [List.length_map]
    simp
end
section
variable {X : Cx} {W : WX} {pos : Pos} {e e2 tg : Expr} {o o2 : Opd}
theorem i_enum {p tpos : Pos} {elts : List Expr} {kk : Nat} {os : List Opd} (hg : Gl X "enumerate") (hm : X.mg "enumerate" = none) (h : VA X W [e] os) (hs : starEach [e] X.env = [(false, eval e X.env)] := by rfl) :
    VI X W (.Tuple elts kk tpos) (.Call (.Name "enumerate" p) [e] [] pos) (srcC enumD os) := by
  refine pi_imp (pi_enum hg hm h hs) fun σ H R h => tArg_mono (fun vs H1 h => ?_) (srcC_ok h)
  obtain ⟨av1, l, ds, dm, r, hg, k⟩ := h
  unfold enumD at hg
  split at hg
  · cases r with | cons r rr =>
      cases rr
      rename_i d v
      cases q : d.seqL with
      | none => rw [q] at hg; cases hg
      | some xs =>
        rw [q] at hg
        cases hg
        obtain ⟨a, rfl, ⟨vs, h1⟩, Y⟩ := yields_enum r q
        exact ⟨a, vs, rfl, h1, k _ Y⟩
  · cases hg
theorem i_zip {p tpos : Pos} {elts : List Expr} {kk : Nat} {os : List Opd} (hg : Gl X "zip") (hm : X.mg "zip" = none) (h : VA X W [e, e2] os) (hs : starEach [e, e2] X.env = (false, eval e X.env) :: starEach [e2] X.env := by rfl) (hpl : (backTo pos (starEach [e2] X.env)).any (·.1) = false := by rfl) :
    VI X W (.Tuple elts kk tpos) (.Call (.Name "zip" p) [e, e2] [] pos) (srcC zipD os) := by
  refine pi_imp (pi_zip hg hm h hs hpl) fun σ H R h => tArg_mono (fun vs H1 h => ?_) (srcC_ok h)
  obtain ⟨av1, l, ds, dm, r, hg, k⟩ := h
  unfold zipD at hg
  split at hg
  · cases r with | cons r rr =>
      cases rr with | cons r2 rr =>
        cases rr
        split at hg
        · rename_i q1 q2
          cases hg
          obtain ⟨a, b, rfl, rfl, ⟨vs, h1⟩, ⟨ws, h2⟩, Y⟩ := yields_zip r q1 r2 q2
          exact ⟨a, b, vs, ws, rfl, h1, h2, k _ Y⟩
        · cases hg
  · cases hg
/-- over a list, a tuple or a text, whichever it is -/
def iAny (K : PySem.W.Frag) (tl : TE) : TI := fun σ H R => tl σ H fun x H1 => (∃ a, x = .ref a ∧ (∃ xs, SqL K H1 a xs) ∧ R (Itl K a) H1) ∨ (∃ a, x = .ref a ∧ (∃ xs, SqT K H1 a xs) ∧ R (Itt K a) H1) ∨ ∃ y, x = .str y ∧ R (Its y) H1
theorem pi_any {l : Expr} {tl : TE} (hl : PE X l tl) : PI X tg l (iAny X.K tl) := by
  refine ⟨fun pins s σ H R I h => ?_⟩
  refine thn (hl.run pins s σ H _ I h) fun v s1 ⟨x, H1, I1, r1, q1⟩ => ?_
  rcases q1 with ⟨a, e, ⟨xs, hq⟩, q⟩ | ⟨a, e, ⟨xs, hq⟩, q⟩ | ⟨y, e, q⟩
  · subst e
    cases r1
    obtain ⟨its, rv, p, hz⟩ := I1.list hq
    refine wpAny_pyIter_list p.isList ?_
    refine ⟨s1.heap.objs.size, [s1.heap.objs.size], _, _, H1, rfl, I1.kept (t' := s1.toks) fun b o e => Heap.get?_push_of_some _ e, turn_list a _, ⟨_, Heap.get?_push_size _ rfl, rfl, rfl⟩, fun b hb => ?_, q⟩
    have e : b = s1.heap.objs.size := by simpa using hb
    subst e
    exact I1.fpOk (Nat.le_refl _) (I1.hok.fresh (Nat.le_refl _))
  · subst e
    cases r1
    obtain ⟨its, rv, p, hz⟩ := I1.tuple hq
    refine wpAny_pyIter_tuple (show s1.heap.IsTuple a its.toArray from p) ?_
    refine ⟨s1.heap.objs.size, [s1.heap.objs.size], _, _, H1, rfl, I1.kept (t' := s1.toks) fun b o e => Heap.get?_push_of_some _ e, turn_tuple a _, ⟨_, Heap.get?_push_size _ rfl, rfl, rfl⟩, fun b hb => ?_, q⟩
    have e : b = s1.heap.objs.size := by simpa using hb
    subst e
    exact I1.fpOk (Nat.le_refl _) (I1.hok.fresh (Nat.le_refl _))
  · subst e
    obtain ⟨t, rfl⟩ := r1
    cases ha : y.cps.all (· < 128)
    · exact wpAny_pyIter_wide ha (pi_one (tk := s1.toks) I1 _ (turn_str _ y t "str_iterator" (.inr rfl)) ⟨_, Heap.get?_push_size _ rfl, rfl, rfl⟩ q)
    · exact wpAny_pyIter_ascii ha (pi_one (tk := s1.toks) I1 _ (turn_str _ y t "str_ascii_iterator" (.inl rfl)) ⟨_, Heap.get?_push_size _ rfl, rfl, rfl⟩ q)
theorem i_any (h : VO X W e o) : VI X W tg e (srcC anyLD [o]) := by
  refine pi_imp (pi_any h) fun σ H R h => tOpd_mono (fun x H1 h => ?_) (srcC_ok h)
  obtain ⟨av1, l, ds, dm, r, hg, k⟩ := h
  cases r with | cons r rr =>
    cases rr
    rename_i d
    have lst : ∀ {xs : List D}, d.seqL = some xs → xs = ds → (∃ a, x = .ref a ∧ (∃ xs, SqL X.K H1 a xs) ∧ R (Itl X.K a) H1) ∨ (∃ a, x = .ref a ∧ (∃ xs, SqT X.K H1 a xs) ∧ R (Itt X.K a) H1) ∨ ∃ y, x = .str y ∧ R (Its y) H1 := fun q e => by
      subst e
      obtain ⟨a, rfl, h1, Y⟩ := yields_seqL r q
      exact .inl ⟨a, rfl, h1, k _ Y⟩
    cases d <;> first | (exact lst rfl (Option.some.inj hg)) | skip
    case str =>
      cases hg
      cases r
      exact .inr (.inr ⟨_, rfl, k _ yields_str⟩)
    case tup =>
      cases hg
      obtain ⟨a, rfl, h1, Y⟩ := yields_tup r
      exact .inr (.inl ⟨a, rfl, h1, k _ Y⟩)
    all_goals cases hg
end

def selA (sel : List Nat) (l : Ev) : Ev := sel.map fun i => l.getD i .un
def callKE (F : Fe) (sel : List Nat) (as : List Opd) : Fe := fun env => (evA as env).bind fun p => if dataOk none p.1 p.2 then
  (match F (selA sel (argsOf none p.1 p.2)) with
    | .ok q => .ok (q.1, p.2)
    | .ex c x _ => .ex c x p.2
    | .st => .st) else .st
def selV {α : Type} (n m : Nat) (sel : List Nat) (d : α) (vs zs : List α) : List α := if vs.length = n ∧ zs.length = m then sel.map fun i => (vs ++ zs).getD i d else []
section
variable {K : PySem.W.Frag} {mg : Str → Option Value} {W : WX} {av av' av1 av2 av3 : Addr → Prop} {H H' H1 H2 H3 : Hp} {own own' own1 own2 fp t c c' : List Addr} {σ : L2.St} {env : Ev}
theorem sel_slots {vs : List V} {args : Ev} (h : Slots K av H (vs.map some) args []) : ∀ (sel : List Nat), (∀ i ∈ sel, i < vs.length) → Slots K av H ((sel.map fun i => vs.getD i .non).map some) (selA sel args) []
  | [], _ => .nil
  | i :: sel, hs => by
    have hi : i < vs.length := hs i List.mem_cons_self
    have hl : vs.length = args.length := by
      have := h.length
      rw [List.length_map] at this
      exact this
    obtain ⟨s, fp, e1, e2, e3⟩ := h.get (i := i) (o := args.getD i .un) (by
      rw [List.getD_eq_getElem?_getD, List.getElem?_eq_getElem (show i < args.length by omega)]
      rfl)
    have e4 : fp = [] := by
      cases fp with
      | nil => rfl
      | cons a r => cases e3 a List.mem_cons_self
    subst e4
    rw [List.getElem?_map, List.getElem?_eq_getElem hi] at e1
    cases e1
    have e5 : vs.getD i .non = vs[i] := by
      rw [List.getD_eq_getElem?_getD, List.getElem?_eq_getElem hi]
      rfl
    have z := sel_slots h sel fun j hj => hs j (List.mem_cons_of_mem _ hj)
    have e2' : SR K av H (some (vs.getD i .non)) (args.getD i .un) [] := by
      rw [e5]
      exact e2
    exact Slots.cons (fp := []) e2' z
theorem tArg_append : ∀ (os ps : List Opd) {H : Hp} {Q : List V → Hp → Prop}, tArg K mg W (os ++ ps) σ H Q → tArg K mg W os σ H fun vs H1 => tArg K mg W ps σ H1 fun zs H2 => Q (vs ++ zs) H2
  | [], ps, H, Q, h => h
  | o :: os, ps, H, Q, h => tOpd_mono (o := o) (fun x H1 h => tArg_append os ps h) h
theorem tArg_len : ∀ (os : List Opd) {H : Hp} {Q : List V → Hp → Prop}, tArg K mg W os σ H Q → tArg K mg W os σ H fun vs H1 => vs.length = os.length ∧ Q vs H1
  | [], H, Q, h => ⟨rfl, h⟩
  | o :: os, H, Q, h => tOpd_mono (o := o) (fun x H1 h => tArg_mono (fun xs H2 h => ⟨congrArg Nat.succ h.1, h.2⟩) (tArg_len os h)) h
theorem callK_ok {n : Nat} {F : Fe} {sel : List Nat} {as : List Opd} {Q : VK} (hn : sel.length = n) (hm : ∀ i ∈ sel, i < as.length) (h : tOf K mg W (callKE F sel as) σ H Q) :
    tArg K mg W as σ H fun vs H1 => vs.length = as.length ∧ spF K mg n F (sel.map fun i => vs.getD i .non) H1 Q fun cls d H' => W cls d σ H' := by
  obtain ⟨env, av, own, hs, w, h⟩ := h
  refine args_ok as hs w ?_
  unfold callKE at h
  cases q : evA as env with
  | st => rw [q] at h; exact h
  | ex c x e => rw [q] at h; exact h
  | ok p =>
    obtain ⟨l, env'⟩ := p
    have hl := evA_length q
    rw [q] at h
    intro vs H1 av1 t own1 A w1 ha hs1
    have hvn : vs.length = as.length := by rw [ha.len, hl]
    refine ⟨hvn, ?_⟩
    have h' : EPost K mg W av H own σ Q (if dataOk none l env' then (match F (selA sel (argsOf none l env')) with
      | .ok q => .ok (q.1, env')
      | .ex c x _ => .ex c x env'
      | .st => .st) else .st) := h
    cases hg : dataOk none l env' with
    | false => rw [hg, if_neg Bool.false_ne_true] at h'; exact h'.elim
    | true =>
      rw [hg, if_pos rfl] at h'
      have out : ∀ a, a ∈ t → ¬ drp av own own1 a := fun a m z => by
        rcases z with z | z
        · rcases A.fresh a (List.mem_append_left _ m) with q | q
          · exact z.2 q
          · have := w.dom a z.1
            rw [q] at this; cases this
        · exact w1.apart a m z
      exact call_tmp (c := []) w A w1 hs1 (by rw [List.length_map, hn]) (List.nil_sublist t) (sel_slots (args_none (av' := drp av own ([] ++ own1)) hs1 (drp_sub A) ha hg out) sel fun i hi => by rw [hvn]; exact hm i hi) h'
end
theorem vals_getD {vs : List V} {us : List Value} (h : Vals vs us) (i : Nat) : RelV (vs.getD i .non) (us.getD i .none) := by
  rw [List.getD_eq_getElem?_getD, List.getD_eq_getElem?_getD]
  cases e : vs[i]? with
  | none =>
    have : us[i]? = none := by
      rw [List.getElem?_eq_none_iff] at e ⊢
      rw [← h.length]
      exact e
    rw [this]
    rfl
  | some v =>
    obtain ⟨u, e2, r⟩ := h.get e
    rw [e2]
    exact r
theorem vals_sel {vs : List V} {us : List Value} (h : Vals vs us) : ∀ sel : List Nat, Vals (sel.map fun i => vs.getD i .non) (sel.map fun i => us.getD i .none)
  | [] => .nil
  | i :: sel => .cons (vals_getD h i) (vals_sel h sel)
theorem Fun.kbinds {K : PySem.W.Frag} {x qual : Str} {st : Stmt} {f : Addr} {fd : FuncData} {ps ks : List Str} (n : Nat) (sel : List Nat) (F : Fun K x qual st f fd) (hp : ps ≠ [])
    (h : ∀ (kV doc pm : Value) (an : Option Addr) (cdv ct : Value) (us ws : List Value), us.length = n → ws.length = ks.length →
      bindArgs (PySem.W.fnOf x qual (defArgs st) (defBody st) (defScope st) .none kV doc pm an cdv ct) ⟨us, ks.zip ws⟩ = pure (ps.zip (sel.map fun i => (us ++ ws).getD i .none))) :
    KBinds K fd ps ks (selV n ks.length sel .none) (selV n ks.length sel .non) := by
  obtain ⟨oc, od, kV, doc, pm, an, cdv, ct, osl, rfl, lk, hcd⟩ := F.ex
  refine ⟨fun s us ws _ hl => ?_, fun {vs us zs ws} r1 r2 => ?_⟩
  · unfold selV at hl ⊢
    by_cases q : us.length = n ∧ ws.length = ks.length
    · rw [if_pos q]
      exact .of_eq (h kV doc pm an cdv ct us ws q.1 q.2)
    · rw [if_neg q] at hl
      cases ps with
      | nil => exact absurd rfl hp
      | cons _ _ => cases hl
  · unfold selV
    rw [r1.length, r2.length]
    split
    · exact vals_sel (r1.append r2) sel
    · exact .nil
section
variable {X : Cx} {W : WX} {pos p : Pos} {e : Expr} {es : List Expr} {os ok : List Opd} {x : Str} {kws : List Keyword} {ks : List Str}
abbrev VK' (X : Cx) (W : WX) (kws : List Keyword) (os : List Opd) : Prop := PK X kws (tArg X.K X.mg W os)
theorem vk_nil : VK' X W [] [] := pk_nil
theorem vk_cons {o : Opd} {nm : Option Str} {kpos : Pos} (ha : VO X W e o) (hr : VK' X W kws os) : VK' X W (⟨nm, e, kpos⟩ :: kws) (o :: os) := pk_cons ha hr
theorem run_fnkS {CX : CXT} {k : Nat} {f : Addr} {fd : FuncData} {ps : List Str} {sp : Sp} {E : L2.St → XK} {g : List Value → List Value → List Value} {gV : List V → List V → List V} {pins : List (Addr × Obj)} {σ : L2.St} {H : Hp} {s : Shared} {Q : VK} {us ws : List Value} {vs zs : List V}
    (F : FnOk X.prog X.w X.K X.mg X.base CX k f fd ps sp) (hr : Room k X.A) (hb : KBinds X.K fd ps ks g gV) (hx : PassesAt CX X σ (E σ))
    (I : Inv X pins σ H s) (r : Vals vs us) (rz : Vals zs ws) (h : sp (gV vs zs) H Q (E σ)) : wpAny (model X.prog X.w) X.A (call (.ref f) us (ks.zip ws)) (EP X pins σ Q) X.xe s := by
  have r2 := hb.rel r rz
  have hl : (g us ws).length = ps.length := by rw [← r2.length]; exact F.len _ _ _ _ h
  refine wpAny_call (codeAny_mono (F.run X.A X.stack s H ⟨us, ks.zip ws⟩ (g us ws) (gV vs zs) Q (E σ) hr I.env0 (hb.to s us ws I.kIn hl) r2 h) fun r s' hq => ?_)
  cases r with
  | error e => exact hx pins H s e s' I hq
  | ok fl =>
    cases fl with
    | ret u => exact I.after hq
    | next => exact False.elim hq
    | brk => exact False.elim hq
    | cont => exact False.elim hq
/-- f(e, .., k = v, ..) -/
theorem v_callK {k : Nat} {f : Addr} {fd : FuncData} {ps : List Str} {F : Fe} (sel : List Nat) (hF : FnV X.prog X.w X.K X.mg X.base k f fd ps F) (hr : Room k X.A) (hg : Gl X x) (hm : X.mg x = some (.ref f)) (hk : PySem.W.keepIn X.K (.ref f) = true)
    (hb : KBinds X.K fd ps ks (selV os.length ks.length sel .none) (selV os.length ks.length sel .non)) (tk : Takes X W) (ha : VA X W (e :: es) os) (hkw : VK' X W kws ok) (hn : sel.length = ps.length := by rfl) (hsel : ∀ i ∈ sel, i < (os ++ ok).length := by decide) (hok : ok.length = ks.length := by rfl)
    (hall : (backToKw pos (keywordEach kws X.env)).all (·.1.isSome) = true := by rfl) (hks : (backToKw pos (keywordEach kws X.env)).filterMap (·.1) = ks := by rfl)
    (hdb : (x == ("__debug__" : Str)) = false := by decide) (he : starEach (e :: es) X.env = (false, eval e X.env) :: starEach es X.env := by rfl)
    (hpl : ((backTo pos (starEach (e :: es) X.env)).any (·.1) || (backToKw pos (keywordEach kws X.env)).any (·.1.isNone)) = false := by rfl) :
    VE X W (.Call (.Name x p) (e :: es) kws pos) (callKE F sel (os ++ ok)) := by
  refine ⟨fun pins s σ H Q I h => ?_⟩
  have h2 := tArg_len os (tArg_mono (fun vs H1 h => tArg_len ok h) (tArg_append os ok (callK_ok hn hsel h)))
  refine wpAny_Call_Name_kw (ld_glob I hg hm ?_ hdb)
  refine PySem.W.callWith_KW (h₀ := X.base) I.ok.mod.kin hk hall (thn (ha.run pos pins s σ H _ I h2) fun us s1 ⟨vs, H1, I1, r, l1, q⟩ => ?_) hpl he
  refine thn (hkw.run pos pins s1 σ H1 _ I1 q) fun ws s2 ⟨zs, H2, I2, rz, l2, q2⟩ => ⟨I2.kIn, ?_⟩
  rw [hks]
  refine run_fnkS (E := fun σ cls d H' => W cls d σ H') hF hr hb (passAt tk σ) I2 r rz ?_
  unfold selV
  rw [if_pos ⟨l1, l2.trans hok⟩]
  exact q2.2
/-- f(k = v, ..) -/
theorem v_callK0 {k : Nat} {f : Addr} {fd : FuncData} {ps : List Str} {F : Fe} (sel : List Nat) (hF : FnV X.prog X.w X.K X.mg X.base k f fd ps F) (hr : Room k X.A) (hg : Gl X x) (hm : X.mg x = some (.ref f)) (hk : PySem.W.keepIn X.K (.ref f) = true)
    (hb : KBinds X.K fd ps ks (selV 0 ks.length sel .none) (selV 0 ks.length sel .non)) (tk : Takes X W) (hkw : VK' X W kws ok) (hn : sel.length = ps.length := by rfl) (hsel : ∀ i ∈ sel, i < ok.length := by decide) (hok : ok.length = ks.length := by rfl)
    (hall : (backToKw pos (keywordEach kws X.env)).all (·.1.isSome) = true := by rfl) (hks : (backToKw pos (keywordEach kws X.env)).filterMap (·.1) = ks := by rfl)
    (hdb : (x == ("__debug__" : Str)) = false := by decide)
    (hpl : ((backTo pos (starEach [] X.env)).any (·.1) || (backToKw pos (keywordEach kws X.env)).any (·.1.isNone)) = false := by rfl) :
    VE X W (.Call (.Name x p) [] kws pos) (callKE F sel ok) := by
  refine ⟨fun pins s σ H Q I h => ?_⟩
  have h2 := tArg_len ok (callK_ok hn hsel h)
  refine wpAny_Call_Name_kw (ld_glob I hg hm ?_ hdb)
  refine PySem.W.callWith_KW0 (h₀ := X.base) I.ok.mod.kin hk hall (thn (hkw.run pos pins s σ H _ I h2) fun ws s2 ⟨zs, H2, I2, rz, l2, q2⟩ => ⟨I2.kIn, ?_⟩) hpl
  rw [hks]
  refine run_fnkS (E := fun σ cls d H' => W cls d σ H') hF hr hb (passAt tk σ) I2 .nil rz ?_
  unfold selV
  rw [if_pos ⟨rfl, l2.trans hok⟩]
  exact q2.2
/-- f() -/
theorem v_callN {k : Nat} {f : Addr} {fd : FuncData} {F : Fe} (hF : FnV X.prog X.w X.K X.mg X.base k f fd [] F) (hr : Room k X.A) (hg : Gl X x) (hm : X.mg x = some (.ref f)) (hk : PySem.W.keepIn X.K (.ref f) = true) (hb : Binds X.K fd [] []) (tk : Takes X W)
    (hdb : (x == ("__debug__" : Str)) = false := by decide) : VE X W (.Call (.Name x p) [] [] pos) (callE F none []) := by
  refine ⟨fun pins s σ H Q I h => ?_⟩
  have h2 := call_ok (n := 0) (m := none) (as := []) rfl (fun _ h => by cases h) h
  refine wpAny_Call_Name_kw (ld_glob I hg hm ?_ hdb)
  exact PySem.W.callWith_K0 I.kIn hk (run_fnSD (us := []) (dvs := []) hF hr hb .nil (passAt tk σ) I .nil h2)
end

def int1 {α : Type} (o : O) (k : Int → ER α) : ER α := match o with
  | .d (.int i) => k i
  | _ => .st
@[simp] theorem int1_int {α : Type} (i : Int) (k : Int → ER α) : int1 (.d (.int i)) k = k i := rfl
theorem int1_no {α : Type} {o : O} {k : Int → ER α} (h : o.isInt = false) : int1 o k = .st := by
  unfold int1
  split
  · cases h
  · rfl
def chE (p p' : Int → Int → Bool) (fa fb fc : Fe) : Fe := fun env => (fa env).bind fun a => (fb a.2).bind fun b => int1 a.1 fun i => int1 b.1 fun j =>
  if p i j then ((fc b.2).bind fun c => int1 c.1 fun k => .ok (.d (.bl (p' j k)), c.2)) else .ok (.d (.bl false), b.2)
section
variable {X : Cx} {W : WX} {pos : Pos} {a b c : Expr} {fa fb fc : Fe}
theorem ch_ok {K : PySem.W.Frag} {mg : Str → Option Value} {p p' : Int → Int → Bool} {σ : L2.St} {H : Hp} {Q : VK} (h : tOf K mg W (chE p p' fa fb fc) σ H Q) :
    tChain (rI0 fun i j => .bl (p i j)) (rI0 fun i j => .bl (p' i j)) (tOf K mg W fa) (tOf K mg W fb) (tOf K mg W fc) σ H Q := by
  obtain ⟨env, av, own, hs, w, h⟩ := h
  refine ⟨env, av, own, hs, w, ?_⟩
  unfold chE at h
  cases q : fa env with
  | st => rw [q] at h; exact h
  | ex c x e => rw [q] at h; exact h
  | ok p1 =>
    obtain ⟨o1, env1⟩ := p1
    rw [q] at h
    intro v1 H1 av1 fp1 own1 A1 w1 r1 s1
    refine ⟨env1, av1, own1, s1, w1.tail, ?_⟩
    have h : EPost K mg W av H own σ Q ((fb env1).bind fun b => int1 o1 fun i => int1 b.1 fun j =>
      if p i j then ((fc b.2).bind fun c => int1 c.1 fun k => .ok (.d (.bl (p' j k)), c.2)) else .ok (.d (.bl false), b.2)) := h
    cases q2 : fb env1 with
    | st => rw [q2] at h; exact h
    | ex c x e =>
      rw [q2] at h
      exact XPost.step w w1 A1 h
    | ok p2 =>
      obtain ⟨o2, env2⟩ := p2
      rw [q2, ER.bind_ok] at h
      intro v2 H2 av2 fp2 own2 A2 w2 r2 s2
      cases i1 : o1.isInt with
      | false => rw [int1_no i1] at h; exact h.elim
      | true =>
        obtain ⟨i, rfl⟩ := O.isInt_eq i1
        rw [int1_int] at h
        cases i2 : o2.isInt with
        | false => rw [int1_no i2] at h; exact h.elim
        | true =>
          obtain ⟨j, rfl⟩ := O.isInt_eq i2
          rw [int1_int] at h
          cases r1 with | d r1 =>
            cases r1
            cases r2 with | d r2 =>
              cases r2
              have AA : Adv av H own av2 H2 own2 := Adv.trans (t := []) (u := []) w w1 A1 A2
              have w2 : OkW av2 H2 own2 := w2
              refine ⟨i, j, rfl, rfl, p i j, rfl, ?_⟩
              cases hp : p i j with
              | false =>
                rw [hp, if_neg Bool.false_ne_true] at h
                rw [if_neg Bool.false_ne_true]
                exact h _ H2 av2 [] own2 AA w2 (.d (.bl false)) s2
              | true =>
                rw [hp, if_pos rfl] at h
                rw [if_pos rfl]
                refine ⟨env2, av2, own2, s2, w2, ?_⟩
                cases q3 : fc env2 with
                | st => rw [q3] at h; exact h
                | ex c x e =>
                  rw [q3] at h
                  exact XPost.step (t := []) w w2 AA h
                | ok p3 =>
                  obtain ⟨o3, env3⟩ := p3
                  rw [q3, ER.bind_ok] at h
                  intro v3 H3 av3 fp3 own3 A3 w3 r3 s3
                  cases i3 : o3.isInt with
                  | false => rw [int1_no i3] at h; exact h.elim
                  | true =>
                    obtain ⟨k, rfl⟩ := O.isInt_eq i3
                    rw [int1_int] at h
                    cases r3 with | d r3 =>
                      cases r3
                      exact ⟨j, k, rfl, rfl, h _ H3 av3 [] own3 (Adv.trans (t := []) (u := []) w w2 AA A3) w3 (.d (.bl _)) s3⟩
theorem v_chain {op op' : CmpOp} {p p' : Int → Int → Bool} (ho : OpR X (compareOp op) (rI0 fun i j => .bl (p i j))) (ho' : OpR X (compareOp op') (rI0 fun i j => .bl (p' i j))) (ha : VE X W a fa) (hb : VE X W b fb) (hc : VE X W c fc)
    (hm : lastMarks [op, op'] [b, c] = false := by with_unfolding_all rfl) : VE X W (.Compare a [op, op'] [b, c] pos) (chE p p' fa fb fc) :=
  pe_imp (pe_chain ho ho' ha hb hc hm) fun _ _ _ h => ch_ok h
theorem t_chain {op op' : CmpOp} {p p' : Int → Int → Bool} (ho : OpR X (compareOp op) (rI0 fun i j => .bl (p i j))) (ho' : OpR X (compareOp op') (rI0 fun i j => .bl (p' i j))) (ha : VE X W a fa) (hb : VE X W b fb) (hc : VE X W c fc)
    (hm : lastMarks [op, op'] [b, c] = false := by with_unfolding_all rfl) : VT X W (.Compare a [op, op'] [b, c] pos) (tstE (chE p p' fa fb fc)) :=
  pt_imp (pt_chain ho ho' ha hb hc hm) fun _ _ _ h => tOf_mono (fun _ _ q => q) (ch_ok (tst_ok h))
end

/-- what the law promises -/
def spT (K : PySem.W.Frag) : Sp := fun vs H Q _ => ∃ (a : Addr) (ns : List Int), vs = [.ref a] ∧ ns.length ≤ 63 ∧ SqL K H a (ns.map V.int) ∧ ∀ H', Q (.bl true) H'
theorem law_fn {P : Program} {w : World} {K : PySem.W.Frag} {mg : Str → Option Value} {base : Heap} {k : Nat} {f : Addr} {fd : FuncData} {F : Fe} (h : FnV P w K mg base k f fd ["script"] F) (hF : ∀ ns : List Int, ns.length ≤ 63 → ∃ outs, F [.d (.scr (ns.map D.int))] = .ok (.d (.bl true), outs)) :
    FnOk P w K mg base (L2.CX P w) k f fd ["script"] (spT K) := h.imp fun vs H Q E ⟨a, ns, e, hl, hS, q⟩ => by
  subst e
  obtain ⟨outs, e⟩ := hF ns hl
  refine ⟨rfl, [.d (.scr (ns.map D.int))], fun _ => False, [], ?_, ⟨List.nodup_nil, fun _ h => (nomatch h), fun _ h => h.elim⟩, ?_⟩
  · refine Slots.cons (fp := []) (.d ?_) .nil
    rcases hS with h | h
    · exact .scr (fun z => z) h (RDs.ofInts ns)
    · exact .kscr h (RDs.ofInts ns)
  · rw [e]
    intro v H' av' fp own' A w r s
    cases r with | d r =>
      cases r
      exact q H'
end VL

set_option Elab.async false
set_option linter.all false
set_option maxRecDepth 100000
namespace VL
open PySem PySem.Spec PyProof.Rows L2

def SRes.seq (r : SRes) (g : Fs) : SRes := match r with
  | .nx e => g e
  | r => r
@[simp] theorem seq_nx (e : Ev) (g : Fs) : (SRes.nx e).seq g = g e := (rfl)
@[simp] theorem seq_rt (o : O) (e : Ev) (g : Fs) : (SRes.rt o e).seq g = .rt o e := (rfl)
@[simp] theorem seq_bk (e : Ev) (g : Fs) : (SRes.bk e).seq g = .bk e := (rfl)
@[simp] theorem seq_ct (e : Ev) (g : Fs) : (SRes.ct e).seq g = .ct e := (rfl)
@[simp] theorem seq_ex (c : Str) (x : D) (e : Ev) (g : Fs) : (SRes.ex c x e).seq g = .ex c x e := (rfl)
@[simp] theorem seqS_ap (f g : Fs) (env : Ev) : seqS f g env = (f env).seq g := by
  unfold seqS
  cases f env <;> rfl
@[simp] theorem nilS_ap (env : Ev) : nilS env = .nx env := (rfl)
@[simp] theorem bkS_ap (env : Ev) : bkS env = .bk env := (rfl)
@[simp] theorem ctS_ap (env : Ev) : ctS env = .ct env := (rfl)
@[simp] theorem noS_ap (env : Ev) : noS env = .st := (rfl)
@[simp] theorem retN_ap (env : Ev) : retN env = .rt (.d .non) env := (rfl)
@[simp] theorem retS_ap (e : Fe) (env : Ev) : retS e env = (e env).then fun p => .rt p.1 p.2 := (rfl)
@[simp] theorem dropS_ap (e : Fe) (env : Ev) : dropS e env = (e env).then fun p => .nx p.2 := (rfl)
@[simp] theorem asgS_ap (i : Nat) (e : Fe) (env : Ev) : asgS i e env = (e env).then fun p => putS i p.1 p.2 := (rfl)
def putZ (i : Nat) (o : O) (env : Ev) : SRes := if o.isUn then .st else putS i (.d o.toD) env
@[simp] theorem asgZ_ap (i : Nat) (e : Fe) (env : Ev) : asgZ i e env = (e env).then fun p => putZ i p.1 p.2 := (rfl)
@[simp] theorem putZ_d (i : Nat) (x : D) (env : Ev) : putZ i (.d x) env = putS i (.d x) env := (rfl)
@[simp] theorem putZ_fl (i : Nat) (xs : List D) (env : Ev) : putZ i (.fl xs) env = putS i (.d (.lst xs)) env := (rfl)
@[simp] theorem putS_nil (i : Nat) (o : O) : putS i o [] = .st := (rfl)
@[simp] theorem putS_0 (o a : O) (env : Ev) : putS 0 o (a :: env) = .nx (o :: env) := by simp [putS]
def consR (a : O) : SRes → SRes
  | .nx e => .nx (a :: e)
  | r => r
theorem putS_S (i : Nat) (o a : O) (env : Ev) : putS (i + 1) o (a :: env) = consR a (putS i o env) := by
  unfold putS
  by_cases h : i < env.length
  · simp [h, consR]
  · simp [h, consR]
@[simp] theorem putS_1 (o a b : O) (env : Ev) : putS 1 o (a :: b :: env) = .nx (a :: o :: env) := by simp [putS]
@[simp] theorem putS_2 (o a b c : O) (env : Ev) : putS 2 o (a :: b :: c :: env) = .nx (a :: b :: o :: env) := by simp [putS]
@[simp] theorem putS_3 (o a b c d : O) (env : Ev) : putS 3 o (a :: b :: c :: d :: env) = .nx (a :: b :: c :: o :: env) := by simp [putS]
@[simp] theorem putS_4 (o a b c d e : O) (env : Ev) : putS 4 o (a :: b :: c :: d :: e :: env) = .nx (a :: b :: c :: d :: o :: env) := by simp [putS]
@[simp] theorem putS_5 (o a b c d e f : O) (env : Ev) : putS 5 o (a :: b :: c :: d :: e :: f :: env) = .nx (a :: b :: c :: d :: e :: o :: env) := by simp [putS]
@[simp] theorem putS_6 (o a b c d e f g : O) (env : Ev) : putS 6 o (a :: b :: c :: d :: e :: f :: g :: env) = .nx (a :: b :: c :: d :: e :: f :: o :: env) := by simp [putS]
@[simp] theorem putS_7 (o a b c d e f g h : O) (env : Ev) : putS 7 o (a :: b :: c :: d :: e :: f :: g :: h :: env) = .nx (a :: b :: c :: d :: e :: f :: g :: o :: env) := by simp [putS]
@[simp] theorem putS_8 (o a b c d e f g h i : O) (env : Ev) : putS 8 o (a :: b :: c :: d :: e :: f :: g :: h :: i :: env) = .nx (a :: b :: c :: d :: e :: f :: g :: h :: o :: env) := by simp [putS]
@[simp] theorem putS_9 (o a b c d e f g h i j : O) (env : Ev) : putS 9 o (a :: b :: c :: d :: e :: f :: g :: h :: i :: j :: env) = .nx (a :: b :: c :: d :: e :: f :: g :: h :: i :: o :: env) := by simp [putS]
@[simp] theorem putS_10 (o a b c d e f g h i j k : O) (env : Ev) : putS 10 o (a :: b :: c :: d :: e :: f :: g :: h :: i :: j :: k :: env) = .nx (a :: b :: c :: d :: e :: f :: g :: h :: i :: j :: o :: env) := by simp [putS]
@[simp] theorem putS_11 (o a b c d e f g h i j k l : O) (env : Ev) : putS 11 o (a :: b :: c :: d :: e :: f :: g :: h :: i :: j :: k :: l :: env) = .nx (a :: b :: c :: d :: e :: f :: g :: h :: i :: j :: k :: o :: env) := by simp [putS]
@[simp] theorem putS_12 (o a b c d e f g h i j k l m : O) (env : Ev) : putS 12 o (a :: b :: c :: d :: e :: f :: g :: h :: i :: j :: k :: l :: m :: env) = .nx (a :: b :: c :: d :: e :: f :: g :: h :: i :: j :: k :: l :: o :: env) := by simp [putS]
@[simp] theorem retO_ap (i : Nat) (env : Ev) : retO i env = if (env.getD i .un).isUn then .st else .rt (env.getD i .un) (env.set i .un) := (rfl)
@[simp] theorem ifS_ap (c : Ft) (a b : Fs) (env : Ev) : ifS c a b env = (c env).then fun p => if p.1 then a p.2 else b p.2 := (rfl)
@[simp] theorem unS_ap (is : List Nat) (e : Fe) (env : Ev) : unS is e env = (e env).then fun p => nxO (tupG is p.1.toD p.2) := (rfl)
@[simp] theorem nxO_some (e : Ev) : nxO (some e) = .nx e := (rfl)
@[simp] theorem tupG_tup (is : List Nat) (ds : List D) (env : Ev) : tupG is (.tup ds) env = setsG is ds env := (rfl)
@[simp] theorem setsG_nil (env : Ev) : setsG [] [] env = some env := (rfl)
@[simp] theorem setsG_cons (i : Nat) (is : List Nat) (d : D) (ds : List D) (env : Ev) : setsG (i :: is) (d :: ds) env = if i < env.length then setsG is ds (env.set i (.d d)) else none := (rfl)
@[simp] theorem nameG_ap (i : Nat) (d : D) (env : Ev) : nameG i d env = if i < env.length then some (env.set i (.d d)) else none := (rfl)
def parR (i j : Nat) (zi zj : Bool) (o q : O) (env : Ev) : SRes :=
  if o.isUn || q.isUn || !decide (i < env.length) || !decide (j < env.length) then .st else .nx ((env.set i (zO zi o)).set j (zO zj q))
@[simp] theorem parS_ap (i j : Nat) (zi zj : Bool) (fa fb : Fe) (env : Ev) : parS i j zi zj fa fb env = (fa env).then fun p => (fb p.2).then fun q => parR i j zi zj p.1 q.1 q.2 := (rfl)
@[simp] theorem setI_ap (i : Nat) (ev ek : Fe) (env : Ev) : setI i ev ek env = (ev env).then fun p => if p.1.isUn then .st else if (p.2.getD i .un).flO.isSome then
    (ek p.2).then fun q => setI.setR (q.2.getD i .un).flO q.1 p.1.toD i q.2 else .st := (rfl)
@[simp] theorem setR_ap (ds : List D) (j : Int) (d : D) (i : Nat) (env : Ev) : setI.setR (some ds) (.d (.int j)) d i env = nxO ((ixN ds.length j).map fun n => env.set i (.fl (ds.set n d))) := (rfl)
@[simp] theorem forS_ap (src : Fi) (tgt : Fg) (body : Fs) (env : Ev) : forS src tgt body env = (src env).then fun p => forL tgt body p.1 p.2 := (rfl)
def lcF (r : Option Ev) (k : Ev → SRes) : SRes := match r with
  | none => .st
  | some e => k e
@[simp] theorem lcF_some (e : Ev) (k : Ev → SRes) : lcF (some e) k = k e := (rfl)
theorem forL_cons (tgt : Fg) (body : Fs) (d : D) (ds : List D) (env : Ev) : forL tgt body (d :: ds) env = lcF (tgt d env) fun e => forNext (body e) (forL tgt body ds) := by
  show (match tgt d env with
    | none => SRes.st
    | some env1 => forNext (body env1) (forL tgt body ds)) = _
  cases tgt d env <;> rfl
@[simp] theorem forL_nil (tgt : Fg) (body : Fs) (env : Ev) : forL tgt body [] env = .nx env := (rfl)
def varO : O → Ev → ER (O × Ev)
  | .d x, env => .ok (.d x, env)
  | _, _ => .st
@[simp] theorem varO_d (x : D) (env : Ev) : varO (.d x) env = .ok (.d x, env) := (rfl)
@[simp] theorem varE_ap (i : Nat) (env : Ev) : varE i env = varO (env.getD i .un) env := by
  unfold varE varO
  cases env.getD i .un <;> rfl
@[simp] theorem cE_ap (x : D) (env : Ev) : cE x env = .ok (.d x, env) := (rfl)
@[simp] theorem noE_ap (env : Ev) : noE env = .st := (rfl)
def opNR (g : List D → Option O) (p : List Arg × Ev) : ER (O × Ev) := if p.1.all (Arg.good p.2) then res (g (p.1.map (Arg.look p.2))) p.2 else .st
def opCR (g : List D → Option O) (p : List Arg × Ev) : ER (O × Ev) := if p.1.all (Arg.data p.2) then res (g (p.1.map (Arg.look p.2))) p.2 else .st
@[simp] theorem opN_ap (g : List D → Option O) (as : List Opd) (env : Ev) : opN g as env = (evA as env).bind (opNR g) := (rfl)
@[simp] theorem opC_ap (g : List D → Option O) (as : List Opd) (env : Ev) : opC g as env = (evA as env).bind (opCR g) := (rfl)
@[simp] theorem op1_ap (g : D → Option O) (a : Opd) (env : Ev) : op1 g a env = (evA [a] env).bind (opNR fun
  | [x] => g x
  | _ => none) := (rfl)
@[simp] theorem op2_ap (g : D → D → Option O) (a b : Opd) (env : Ev) : op2 g a b env = (evA [a, b] env).bind (opNR fun
  | [x, y] => g x y
  | _ => none) := (rfl)
@[simp] theorem opNR_ap (g : List D → Option O) (l : List Arg) (env : Ev) : opNR g (l, env) = if l.all (Arg.good env) then res (g (l.map (Arg.look env))) env else .st := (rfl)
@[simp] theorem opCR_ap (g : List D → Option O) (l : List Arg) (env : Ev) : opCR g (l, env) = if l.all (Arg.data env) then res (g (l.map (Arg.look env))) env else .st := (rfl)
@[simp] theorem evA_nil (env : Ev) : evA [] env = .ok ([], env) := (rfl)
def pushA (o : O) (q : List Arg × Ev) : ER (List Arg × Ev) := .ok (.tmp o :: q.1, q.2)
def pushS (i : Nat) (q : List Arg × Ev) : ER (List Arg × Ev) := .ok (.sl i :: q.1, q.2)
@[simp] theorem pushA_ap (o : O) (l : List Arg) (env : Ev) : pushA o (l, env) = .ok (.tmp o :: l, env) := (rfl)
@[simp] theorem pushS_ap (i : Nat) (l : List Arg) (env : Ev) : pushS i (l, env) = .ok (.sl i :: l, env) := (rfl)
@[simp] theorem evA_val (f : Fe) (as : List Opd) (env : Ev) : evA (.val f :: as) env = (f env).bind fun p => (evA as p.2).bind (pushA p.1) := (rfl)
@[simp] theorem evA_pk (i : Nat) (as : List Opd) (env : Ev) : evA (.pk i :: as) env = if (env.getD i .un).isUn then .st else (evA as env).bind (pushS i) := (rfl)
@[simp] theorem good_tmp (o : O) (env : Ev) : Arg.good env (.tmp o) = !o.isUn := (rfl)
@[simp] theorem good_sl (i : Nat) (env : Ev) : Arg.good env (.sl i) = !(env.getD i .un).isUn := (rfl)
@[simp] theorem look_tmp (o : O) (env : Ev) : Arg.look env (.tmp o) = o.toD := (rfl)
@[simp] theorem look_sl (i : Nat) (env : Ev) : Arg.look env (.sl i) = (env.getD i .un).toD := (rfl)
def O.isD : O → Bool
  | .d _ => true
  | _ => false
@[simp] theorem data_tmp (o : O) (env : Ev) : Arg.data env (.tmp o) = !o.isUn := (rfl)
@[simp] theorem data_sl (i : Nat) (env : Ev) : Arg.data env (.sl i) = (env.getD i .un).isD := by
  show (match env.getD i .un with
    | .d _ => true
    | _ => false) = _
  unfold O.isD
  cases env.getD i .un <;> rfl
@[simp] theorem isD_d (x : D) : (O.d x).isD = true := (rfl)
@[simp] theorem isUn_un : O.un.isUn = true := (rfl)
@[simp] theorem isUn_d (x : D) : (O.d x).isUn = false := (rfl)
@[simp] theorem isUn_fl (x : List D) : (O.fl x).isUn = false := (rfl)
@[simp] theorem toD_d (x : D) : (O.d x).toD = x := (rfl)
@[simp] theorem toD_fl (x : List D) : (O.fl x).toD = .lst x := (rfl)
@[simp] theorem flO_fl (x : List D) : (O.fl x).flO = some x := (rfl)
@[simp] theorem flO_d (x : D) : (O.d x).flO = none := (rfl)
@[simp] theorem isInt_int (i : Int) : (O.d (.int i)).isInt = true := (rfl)
@[simp] theorem zO_d (z : Bool) (x : D) : zO z (.d x) = .d x := by cases z <;> rfl
@[simp] theorem zO_t (x : List D) : zO true (.fl x) = .d (.lst x) := (rfl)
@[simp] theorem zO_f (o : O) : zO false o = o := (rfl)
@[simp] theorem res_d (z : D) (env : Ev) : res (some (.d z)) env = .ok (.d z, env) := (rfl)
@[simp] theorem res_fl (z : List D) (env : Ev) : res (some (.fl z)) env = .ok (.fl z, env) := (rfl)
@[simp] theorem res_no (env : Ev) : res none env = .st := (rfl)
@[simp] theorem ifE_ap (c : Ft) (a b : Fe) (env : Ev) : ifE c a b env = (c env).bind fun p => if p.1 then a p.2 else b p.2 := (rfl)
@[simp] theorem intE_ap (a : Fe) (env : Ev) : intE a env = (a env).bind fun p => if p.1.isInt then .ok p else .st := (rfl)
@[simp] theorem andE_ap (a b : Fe) (env : Ev) : andE a b env = (a env).bind fun p => bindB p.1 fun c => if c then b p.2 else .ok (.d (.bl false), p.2) := (rfl)
@[simp] theorem orE_ap (a b : Fe) (env : Ev) : orE a b env = (a env).bind fun p => bindB p.1 fun c => if c then .ok (.d (.bl true), p.2) else b p.2 := (rfl)
@[simp] theorem notE_ap (a : Fe) (env : Ev) : notE a env = (a env).bind fun p => bindB p.1 fun c => .ok (.d (.bl (!c)), p.2) := (rfl)
@[simp] theorem tstE_ap (a : Fe) (env : Ev) : tstE a env = (a env).bind fun p => bindB p.1 fun c => .ok (c, p.2) := (rfl)
@[simp] theorem andT_ap (a b : Ft) (env : Ev) : andT a b env = (a env).bind fun p => if p.1 then b p.2 else .ok (false, p.2) := (rfl)
@[simp] theorem orT_ap (a b : Ft) (env : Ev) : orT a b env = (a env).bind fun p => if p.1 then .ok (true, p.2) else b p.2 := (rfl)
@[simp] theorem notT_ap (a : Ft) (env : Ev) : notT a env = (a env).bind fun p => .ok (!p.1, p.2) := (rfl)
@[simp] theorem chE_ap (p p' : Int → Int → Bool) (fa fb fc : Fe) (env : Ev) : chE p p' fa fb fc env = (fa env).bind fun a => (fb a.2).bind fun b => int1 a.1 fun i => int1 b.1 fun j =>
  if p i j then ((fc b.2).bind fun c => int1 c.1 fun k => .ok (.d (.bl (p' j k)), c.2)) else .ok (.d (.bl false), b.2) := (rfl)
def callR (F : Fe) (m : Option Nat) (p : List Arg × Ev) : ER (O × Ev) := if dataOk m p.1 p.2 then callBack m p.1 p.2 (F (argsOf m p.1 p.2)) else .st
@[simp] theorem callE_ap (F : Fe) (m : Option Nat) (as : List Opd) (env : Ev) : callE F m as env = (evA as env).bind (callR F m) := (rfl)
@[simp] theorem callR_ap (F : Fe) (m : Option Nat) (l : List Arg) (env : Ev) : callR F m (l, env) = if dataOk m l env then callBack m l env (F (argsOf m l env)) else .st := (rfl)
@[simp] theorem dataOk_nil (m : Option Nat) (env : Ev) : dataOk m [] env = true := by cases m <;> first | rfl | (rename_i v; cases v <;> rfl)
@[simp] theorem dataOk_0 (a : Arg) (as : List Arg) (env : Ev) : dataOk (some 0) (a :: as) env = dataOk none as env := (rfl)
@[simp] theorem dataOk_S (j : Nat) (a : Arg) (as : List Arg) (env : Ev) : dataOk (some (j + 1)) (a :: as) env = (a.data env && dataOk (some j) as env) := (rfl)
@[simp] theorem dataOk_1 (a : Arg) (as : List Arg) (env : Ev) : dataOk (some 1) (a :: as) env = (a.data env && dataOk (some 0) as env) := (rfl)
@[simp] theorem dataOk_2 (a : Arg) (as : List Arg) (env : Ev) : dataOk (some 2) (a :: as) env = (a.data env && dataOk (some 1) as env) := (rfl)
@[simp] theorem dataOk_3 (a : Arg) (as : List Arg) (env : Ev) : dataOk (some 3) (a :: as) env = (a.data env && dataOk (some 2) as env) := (rfl)
@[simp] theorem dataOk_n (a : Arg) (as : List Arg) (env : Ev) : dataOk none (a :: as) env = (a.data env && dataOk none as env) := (rfl)
@[simp] theorem argsOf_nil (m : Option Nat) (env : Ev) : argsOf m [] env = [] := by cases m <;> first | rfl | (rename_i v; cases v <;> rfl)
@[simp] theorem argsOf_0 (a : Arg) (as : List Arg) (env : Ev) : argsOf (some 0) (a :: as) env = a.own env :: argsOf none as env := (rfl)
@[simp] theorem argsOf_1 (a : Arg) (as : List Arg) (env : Ev) : argsOf (some 1) (a :: as) env = .d (a.look env) :: argsOf (some 0) as env := (rfl)
@[simp] theorem argsOf_2 (a : Arg) (as : List Arg) (env : Ev) : argsOf (some 2) (a :: as) env = .d (a.look env) :: argsOf (some 1) as env := (rfl)
@[simp] theorem argsOf_3 (a : Arg) (as : List Arg) (env : Ev) : argsOf (some 3) (a :: as) env = .d (a.look env) :: argsOf (some 2) as env := (rfl)
@[simp] theorem argsOf_n (a : Arg) (as : List Arg) (env : Ev) : argsOf none (a :: as) env = .d (a.look env) :: argsOf none as env := (rfl)
@[simp] theorem own_tmp (o : O) (env : Ev) : Arg.own env (.tmp o) = o := (rfl)
@[simp] theorem own_sl (i : Nat) (env : Ev) : Arg.own env (.sl i) = env.getD i .un := (rfl)
@[simp] theorem backOf_n (l : List Arg) (env outs : Ev) : backOf none l env outs = env := (rfl)
def backA (a : Option Arg) (env : Ev) (o : O) : Ev := match a with
  | some (.sl i) => env.set i o
  | _ => env
@[simp] theorem backA_sl (i : Nat) (env : Ev) (o : O) : backA (some (.sl i)) env o = env.set i o := (rfl)
@[simp] theorem backA_tmp (x : O) (env : Ev) (o : O) : backA (some (.tmp x)) env o = env := (rfl)
@[simp] theorem backOf_s (j : Nat) (l : List Arg) (env outs : Ev) : backOf (some j) l env outs = backA l[j]? env (outs.getD j .un) := by
  rfl
def callKR (F : Fe) (sel : List Nat) (p : List Arg × Ev) : ER (O × Ev) := if dataOk none p.1 p.2 then callBack none p.1 p.2 (F (selA sel (argsOf none p.1 p.2))) else .st
@[simp] theorem callKE_ap (F : Fe) (sel : List Nat) (as : List Opd) (env : Ev) : callKE F sel as env = (evA as env).bind (callKR F sel) := by
  unfold callKE
  congr 1
@[simp] theorem callKR_ap (F : Fe) (sel : List Nat) (l : List Arg) (env : Ev) : callKR F sel (l, env) = if dataOk none l env then callBack none l env (F (selA sel (argsOf none l env))) else .st := (rfl)
@[simp] theorem selA_ap (sel : List Nat) (l : Ev) : selA sel l = sel.map fun i => l.getD i .un := (rfl)
theorem bodyF_ap (mu : List Nat) (m : Nat) (f : Fs) (args : Ev) : bodyF mu m f args = if okArgs mu 0 args then endOf mu args (f (args ++ List.replicate m .un)) else .st := (rfl)
@[simp] theorem okArgs_nil (mu : List Nat) (j : Nat) : okArgs mu j [] = true := (rfl)
@[simp] theorem okArgs_cons (mu : List Nat) (j : Nat) (a : O) (args : Ev) : okArgs mu j (a :: args) = ((mu.contains j || a.free) && okArgs mu (j + 1) args) := (rfl)
@[simp] theorem outsOf_nil (mu : List Nat) (j : Nat) (env : Ev) : outsOf mu j [] env = [] := (rfl)
@[simp] theorem outsOf_cons (mu : List Nat) (j : Nat) (a : O) (args env : Ev) : outsOf mu j (a :: args) env = (if mu.contains j then env.headD .un else a) :: outsOf mu (j + 1) args env.tail := (rfl)
@[simp] theorem free_d (x : D) : (O.d x).free = true := (rfl)
@[simp] theorem free_un : O.un.free = true := (rfl)
def srcR (g : List D → Option (List D)) (p : List Arg × Ev) : ER (List D × Ev) := if p.1.all (Arg.good p.2) then (match g (p.1.map (Arg.look p.2)) with
    | some ds => .ok (ds, p.2)
    | none => .st) else .st
def srcCR (g : List D → Option (List D)) (p : List Arg × Ev) : ER (List D × Ev) := if p.1.all (Arg.data p.2) then (match g (p.1.map (Arg.look p.2)) with
    | some ds => .ok (ds, p.2)
    | none => .st) else .st
def resL (r : Option (List D)) (env : Ev) : ER (List D × Ev) := match r with
  | some ds => .ok (ds, env)
  | none => .st
@[simp] theorem resL_some (ds : List D) (env : Ev) : resL (some ds) env = .ok (ds, env) := (rfl)
@[simp] theorem srcN_ap (g : List D → Option (List D)) (as : List Opd) (env : Ev) : srcN g as env = (evA as env).bind (srcR g) := (rfl)
@[simp] theorem srcC_ap (g : List D → Option (List D)) (as : List Opd) (env : Ev) : srcC g as env = (evA as env).bind (srcCR g) := (rfl)
@[simp] theorem srcR_ap (g : List D → Option (List D)) (l : List Arg) (env : Ev) : srcR g (l, env) = if l.all (Arg.good env) then resL (g (l.map (Arg.look env))) env else .st := by
  unfold srcR resL
  rfl
@[simp] theorem srcCR_ap (g : List D → Option (List D)) (l : List Arg) (env : Ev) : srcCR g (l, env) = if l.all (Arg.data env) then resL (g (l.map (Arg.look env))) env else .st := by
  unfold srcCR resL
  rfl
def lcFin (vs : List Nat) (env1 : Ev) (q : List D × Ev) : ER (O × Ev) := .ok (.fl q.1, backE q.2 env1 vs)
@[simp] theorem lcFin_ap (vs : List Nat) (env1 : Ev) (l : List D) (env : Ev) : lcFin vs env1 (l, env) = .ok (.fl l, backE env env1 vs) := (rfl)
@[simp] theorem lcE_ap (vs : List Nat) (src : Fi) (tgt : Fg) (test : Ft) (elt : Fe) (env : Ev) : lcE vs src tgt test elt env = (src env).bind fun p =>
  if frees vs p.2 then (lcL vs tgt test elt p.1 (wipeE p.2 vs) []).bind (lcFin vs p.2) else .st := (rfl)
def lcT {α : Type} (r : Option Ev) (k : Ev → ER α) : ER α := match r with
  | none => .st
  | some e => k e
@[simp] theorem lcT_some {α : Type} (e : Ev) (k : Ev → ER α) : lcT (some e) k = k e := (rfl)
def lcQ (vs : List Nat) (acc : List D) (elt : Fe) (k : Ev → List D → ER (List D × Ev)) (q : Bool × Ev) : ER (List D × Ev) :=
  if q.1 then (elt q.2).calm (lcOn vs acc k) else if frees vs q.2 then k (wipeE q.2 vs) acc else .st
@[simp] theorem lcQ_t (vs : List Nat) (acc : List D) (elt : Fe) (k : Ev → List D → ER (List D × Ev)) (env : Ev) : lcQ vs acc elt k (true, env) = (elt env).calm (lcOn vs acc k) := (rfl)
@[simp] theorem lcQ_f (vs : List Nat) (acc : List D) (elt : Fe) (k : Ev → List D → ER (List D × Ev)) (env : Ev) : lcQ vs acc elt k (false, env) = if frees vs env then k (wipeE env vs) acc else .st := (rfl)
@[simp] theorem lcOn_ap (vs : List Nat) (acc : List D) (k : Ev → List D → ER (List D × Ev)) (o : O) (env : Ev) : lcOn vs acc k (o, env) = if o.isUn || !decide (acc.length < 16777216) || !frees vs env then .st else k (wipeE env vs) (acc ++ [o.toD]) := (rfl)
theorem lcL_cons (vs : List Nat) (tgt : Fg) (test : Ft) (elt : Fe) (d : D) (ds : List D) (env : Ev) (acc : List D) : lcL vs tgt test elt (d :: ds) env acc = lcT (tgt d env) fun e => (test e).calm (lcQ vs acc elt (lcL vs tgt test elt ds)) := by
  show (match tgt d env with
    | none => ER.st
    | some env2 => (test env2).calm fun q =>
      if q.1 then (elt q.2).calm (lcOn vs acc (lcL vs tgt test elt ds)) else if frees vs q.2 then lcL vs tgt test elt ds (wipeE q.2 vs) acc else .st) = _
  cases tgt d env <;> rfl
@[simp] theorem lcL_nil (vs : List Nat) (tgt : Fg) (test : Ft) (elt : Fe) (env : Ev) (acc : List D) : lcL vs tgt test elt [] env acc = .ok (acc, env) := (rfl)
@[simp] theorem yesT_ap (env : Ev) : yesT env = .ok (true, env) := (rfl)
@[simp] theorem wipeE_nil (env : Ev) : wipeE env [] = env := (rfl)
@[simp] theorem wipeE_cons (env : Ev) (v : Nat) (vs : List Nat) : wipeE env (v :: vs) = (wipeE env vs).set v .un := (rfl)
@[simp] theorem backE_nil (env env1 : Ev) : backE env env1 [] = env := (rfl)
@[simp] theorem backE_cons (env env1 : Ev) (v : Nat) (vs : List Nat) : backE env env1 (v :: vs) = (backE env env1 vs).set v (env1.getD v .un) := (rfl)
@[simp] theorem frees_ap (vs : List Nat) (env : Ev) : frees vs env = vs.all fun v => (env.getD v .un).free && decide (v < env.length) := (rfl)
@[simp] theorem addD_int (i j : Int) : addD (.int i) (.int j) = some (.d (.int (i + j))) := (rfl)
@[simp] theorem addD_lst (x y : List D) : addD (.lst x) (.lst y) = if x.length + y.length ≤ 16777216 then some (.fl (x ++ y)) else none := (rfl)
@[simp] theorem addD_tup (x y : List D) : addD (.tup x) (.tup y) = if x.length + y.length ≤ 16777216 then some (.d (.tup (x ++ y))) else none := (rfl)
@[simp] theorem subD_int (i j : Int) : subD (.int i) (.int j) = some (.d (.int (i - j))) := (rfl)
@[simp] theorem mulD_int (i j : Int) : mulD (.int i) (.int j) = if mulOk i j then some (.d (.int (i * j))) else none := (rfl)
/-- small enough a divisor -/
def fOk (j : Int) : Bool := decide (j.natAbs.log2 < 9000)
theorem fOk_of {j : Int} {n : Nat} (h : j.natAbs < 2 ^ n) (h0 : 0 < n) (hn : n ≤ 9000) : fOk j = true := decide_eq_true (Nat.lt_of_lt_of_le (log2_lt h h0) hn)
@[simp] theorem fOk_two : fOk 2 = true := (rfl)
@[simp] theorem fdivD_int (i j : Int) : fdivD (.int i) (.int j) = if 0 < j ∧ fOk j = true then some (.d (.int (i / j))) else none := by
  show (if 0 < j ∧ j.natAbs.log2 < 9000 then _ else _) = _
  unfold fOk
  simp only [decide_eq_true_eq]
@[simp] theorem modD_int (i j : Int) : modD (.int i) (.int j) = if 0 < j then some (.d (.int (i % j))) else none := (rfl)
/-- small enough a base -/
def pOk (i : Int) : Bool := decide (i.natAbs < 2 ^ 1000)
theorem pOk_of {i : Int} {n : Nat} (h : i.natAbs < 2 ^ n) (hn : n ≤ 1000) : pOk i = true := decide_eq_true (Nat.lt_of_lt_of_le h (Nat.pow_le_pow_right (by decide) hn))
@[simp] theorem pOk_ten : pOk 10 = true := pOk_of (n := 4) (by decide) (by decide)
@[simp] theorem pOk_two : pOk 2 = true := pOk_of (n := 4) (by decide) (by decide)
@[simp] theorem powD_int (i j : Int) : powD (.int i) (.int j) = if 0 ≤ j ∧ j ≤ 1000 ∧ pOk i = true then some (.d (.int (i ^ j.toNat))) else none := by
  show (if 0 ≤ j ∧ j ≤ 1000 ∧ i.natAbs < 2 ^ 1000 then _ else _) = _
  unfold pOk
  simp only [decide_eq_true_eq]
@[simp] theorem negD_int (i : Int) : negD (.int i) = some (.d (.int (-i))) := (rfl)
@[simp] theorem cmpI_int (p : Int → Int → Bool) (i j : Int) : cmpI p (.int i) (.int j) = some (.d (.bl (p i j))) := (rfl)
@[simp] theorem ltD_int (i j : Int) : ltD (.int i) (.int j) = some (.d (.bl (decide (i < j)))) := (rfl)
@[simp] theorem isNonD_ap (x : D) : isNonD x .non = some (.d (.bl x.isNon)) := (rfl)
@[simp] theorem notNonD_ap (x : D) : notNonD x .non = some (.d (.bl (!x.isNon))) := (rfl)
@[simp] theorem isNon_non : D.non.isNon = true := (rfl)
@[simp] theorem isNon_int (i : Int) : (D.int i).isNon = false := (rfl)
@[simp] theorem isNon_bl (i : Bool) : (D.bl i).isNon = false := (rfl)
@[simp] theorem isNon_str (i : Str) : (D.str i).isNon = false := (rfl)
@[simp] theorem isNon_tup (i : List D) : (D.tup i).isNon = false := (rfl)
@[simp] theorem isNon_lst (i : List D) : (D.lst i).isNon = false := (rfl)
@[simp] theorem isNon_scr (i : List D) : (D.scr i).isNon = false := (rfl)
@[simp] theorem isNon_dk (i : List (Key × D)) : (D.dk i).isNon = false := (rfl)
@[simp] theorem isNon_dt (i : List (List Key × D)) : (D.dt i).isNon = false := (rfl)
@[simp] theorem isBD_ap (a b : Bool) : isBD (.bl a) (.bl b) = some (.d (.bl (decide (a = b)))) := (rfl)
@[simp] theorem eqD_int (i j : Int) : eqD (.int i) (.int j) = some (.d (.bl (i == j))) := (rfl)
@[simp] theorem eqD_bl (i j : Bool) : eqD (.bl i) (.bl j) = some (.d (.bl (i == j))) := by cases i <;> cases j <;> rfl
@[simp] theorem neD_bl (i j : Bool) : neD (.bl i) (.bl j) = some (.d (.bl (!(i == j)))) := by cases i <;> cases j <;> rfl
@[simp] theorem neD_int (i j : Int) : neD (.int i) (.int j) = some (.d (.bl (!(i == j)))) := (rfl)
@[simp] theorem tupC_ap (ds : List D) : tupC ds = if ds.length ≤ 1000 then some (.d (.tup ds)) else none := (rfl)
@[simp] theorem lstC_ap (ds : List D) : lstC ds = if ds.length ≤ 1000 then some (.fl ds) else none := (rfl)
@[simp] theorem lenD_lst (xs : List D) : lenD [.lst xs] = some (.d (.int xs.length)) := (rfl)
@[simp] theorem lenD_scr (xs : List D) : lenD [.scr xs] = some (.d (.int xs.length)) := (rfl)
@[simp] theorem lenD_tup (xs : List D) : lenD [.tup xs] = some (.d (.int xs.length)) := (rfl)
def ixL (xs : List D) (i : Int) : Option O := match atI xs i with
  | some y => some (.d y)
  | none => none
@[simp] theorem ixD_lst (xs : List D) (i : Int) : ixD (.lst xs) (.int i) = ixL xs i := (rfl)
@[simp] theorem ixD_scr (xs : List D) (i : Int) : ixD (.scr xs) (.int i) = ixL xs i := (rfl)
@[simp] theorem ixD_tup (xs : List D) (i : Int) : ixD (.tup xs) (.int i) = ixL xs i := (rfl)
theorem ixL_nat {xs : List D} {i : Nat} {y : D} (h : xs[i]? = some y) : ixL xs (i : Nat) = some (.d y) := by
  unfold ixL
  rw [atI_nat h]
@[simp] theorem ixL_0 (x : D) (xs : List D) : ixL (x :: xs) 0 = some (.d x) := ixL_nat (i := 0) rfl
@[simp] theorem ixL_1 (a x : D) (xs : List D) : ixL (a :: x :: xs) 1 = some (.d x) := ixL_nat (i := 1) rfl
@[simp] theorem ixL_2 (a b x : D) (xs : List D) : ixL (a :: b :: x :: xs) 2 = some (.d x) := ixL_nat (i := 2) rfl
@[simp] theorem ixL_3 (a b c x : D) (xs : List D) : ixL (a :: b :: c :: x :: xs) 3 = some (.d x) := ixL_nat (i := 3) rfl
@[simp] theorem ixL_4 (a b c d x : D) (xs : List D) : ixL (a :: b :: c :: d :: x :: xs) 4 = some (.d x) := ixL_nat (i := 4) rfl
@[simp] theorem ixN_0 (n : Nat) : ixN (n + 1) 0 = some 0 := by
  unfold ixN
  simp
@[simp] theorem ixN_1 (n : Nat) : ixN (n + 2) 1 = some 1 := by
  unfold ixN
  simp
  omega
@[simp] theorem ixN_2 (n : Nat) : ixN (n + 3) 2 = some 2 := by
  unfold ixN
  simp
  omega
@[simp] theorem ixN_3 (n : Nat) : ixN (n + 4) 3 = some 3 := by
  unfold ixN
  simp
  omega
@[simp] theorem ixN_4 (n : Nat) : ixN (n + 5) 4 = some 4 := by
  unfold ixN
  simp
  omega
theorem ixN_nat {n i : Nat} (h : i < n) : ixN n (i : Nat) = some i := by
  unfold ixN
  simp [h]
@[simp] theorem intD_int (i : Int) : intD [.int i] = some (.d (.int i)) := (rfl)
@[simp] theorem intD_bl (b : Bool) : intD [.bl b] = some (.d (.int (if b then 1 else 0))) := (rfl)
@[simp] theorem absD_int (i : Int) : absD [.int i] = some (.d (.int (if i < 0 then -i else i))) := (rfl)
@[simp] theorem maxD_int (i j : Int) : maxD [.int i, .int j] = some (.d (.int (if j > i then j else i))) := (rfl)
@[simp] theorem minD_int (i j : Int) : minD [.int i, .int j] = some (.d (.int (if j < i then j else i))) := (rfl)
@[simp] theorem sumD_lst (ns : List Int) : sumD [.lst (ns.map D.int)] = some (.d (.int ns.sum)) := by
  show (match intsOf (ns.map D.int) with
    | some ns => some (O.d (D.int ns.sum))
    | none => none) = _
  rw [intsOf_map]
@[simp] theorem listD_tup (xs : List D) : listD [.tup xs] = some (.fl xs) := (rfl)
@[simp] theorem listD_lst (xs : List D) : listD [.lst xs] = some (.fl xs) := (rfl)
/-- a is a kind that isinstance tells -/
def isOne (a t : String) : Option O := if kinds.contains t then some (.d (.bl (subTy a t))) else none
def isTwo (a t u : String) : Option O := if kinds.contains t && kinds.contains u then some (.d (.bl (subTy a t || subTy a u))) else none
@[simp] theorem isi_non (t : String) : isiD [.non, .ty t] = isOne "NoneType" t := (rfl)
@[simp] theorem isi_bl (b : Bool) (t : String) : isiD [.bl b, .ty t] = isOne "bool" t := (rfl)
@[simp] theorem isi_int (b : Int) (t : String) : isiD [.int b, .ty t] = isOne "int" t := (rfl)
@[simp] theorem isi_str (b : Str) (t : String) : isiD [.str b, .ty t] = isOne "str" t := (rfl)
@[simp] theorem isi_lst (b : List D) (t : String) : isiD [.lst b, .ty t] = isOne "list" t := (rfl)
@[simp] theorem isi_tup (b : List D) (t : String) : isiD [.tup b, .ty t] = isOne "tuple" t := (rfl)
@[simp] theorem isi_scr (b : List D) (t : String) : isiD [.scr b, .ty t] = isOne "list" t := (rfl)
@[simp] theorem isi_dk (b : List (Key × D)) (t : String) : isiD [.dk b, .ty t] = isOne "dict" t := (rfl)
@[simp] theorem isi_dt (b : List (List Key × D)) (t : String) : isiD [.dt b, .ty t] = isOne "dict" t := (rfl)
@[simp] theorem isi2_scr (b : List D) (t u : String) : isiD [.scr b, .tup [.ty t, .ty u]] = isTwo "list" t u := (rfl)
@[simp] theorem isi2_non (t u : String) : isiD [.non, .tup [.ty t, .ty u]] = isTwo "NoneType" t u := (rfl)
@[simp] theorem isi2_bl (b : Bool) (t u : String) : isiD [.bl b, .tup [.ty t, .ty u]] = isTwo "bool" t u := (rfl)
@[simp] theorem isi2_int (b : Int) (t u : String) : isiD [.int b, .tup [.ty t, .ty u]] = isTwo "int" t u := (rfl)
@[simp] theorem isi2_str (b : Str) (t u : String) : isiD [.str b, .tup [.ty t, .ty u]] = isTwo "str" t u := (rfl)
@[simp] theorem isi2_lst (b : List D) (t u : String) : isiD [.lst b, .tup [.ty t, .ty u]] = isTwo "list" t u := (rfl)
@[simp] theorem isi2_tup (b : List D) (t u : String) : isiD [.tup b, .tup [.ty t, .ty u]] = isTwo "tuple" t u := (rfl)
@[simp] theorem k_int (a : String) : isOne a "int" = some (.d (.bl (subTy a "int"))) := (rfl)
@[simp] theorem k_bool (a : String) : isOne a "bool" = some (.d (.bl (subTy a "bool"))) := (rfl)
@[simp] theorem k_str (a : String) : isOne a "str" = some (.d (.bl (subTy a "str"))) := (rfl)
@[simp] theorem k_list (a : String) : isOne a "list" = some (.d (.bl (subTy a "list"))) := (rfl)
@[simp] theorem k_tuple (a : String) : isOne a "tuple" = some (.d (.bl (subTy a "tuple"))) := (rfl)
@[simp] theorem k_dict (a : String) : isOne a "dict" = some (.d (.bl (subTy a "dict"))) := (rfl)
@[simp] theorem k_tl (a : String) : isTwo a "tuple" "list" = some (.d (.bl (subTy a "tuple" || subTy a "list"))) := (rfl)
@[simp] theorem k_lt (a : String) : isTwo a "list" "tuple" = some (.d (.bl (subTy a "list" || subTy a "tuple"))) := (rfl)
@[simp] theorem subTy_eq (a b : String) : subTy a b = (a == b || (a == "bool" && b == "int")) := (rfl)
@[simp] theorem rangeD1_ap (j : Int) : rangeD1 [.int j] = if okR j then some (rangeL 0 j.toNat) else none := (rfl)
@[simp] theorem rangeD2_ap (i j : Int) : rangeD2 [.int i, .int j] = if okR i && okR j then some (rangeL i (j - i).toNat) else none := (rfl)
@[simp] theorem enumD_lst (xs : List D) : enumD [.lst xs] = some (enumL 0 xs) := (rfl)
@[simp] theorem anyLD_lst (xs : List D) : anyLD [.lst xs] = some xs := (rfl)
@[simp] theorem anyLD_tup (xs : List D) : anyLD [.tup xs] = some xs := (rfl)
@[simp] theorem anyLD_scr (xs : List D) : anyLD [.scr xs] = some xs := (rfl)
end VL

set_option Elab.async false
set_option linter.all false
set_option maxRecDepth 100000
namespace VL
open PySem PySem.Spec PyProof.Rows L2

structure D.Ok (n : Nat) (d : D) : Prop where
  can : d.py.canLay0 = true
  dep : d.py.depth ≤ n
theorem D.Ok.mono {n m : Nat} {d : D} (h : D.Ok n d) (hm : n ≤ m) : D.Ok m d := ⟨h.can, Nat.le_trans h.dep hm⟩
theorem ok_non {n : Nat} : D.Ok n .non := ⟨rfl, Nat.zero_le _⟩
theorem ok_int {n : Nat} (i : Int) : D.Ok n (.int i) := ⟨rfl, Nat.zero_le _⟩
theorem ok_bl {n : Nat} (i : Bool) : D.Ok n (.bl i) := ⟨rfl, Nat.zero_le _⟩
theorem oks {n : Nat} : ∀ {xs : List D}, (∀ x ∈ xs, D.Ok n x) → PyData.canLayAll0 (D.pys xs) = true ∧ PyData.depthAll (D.pys xs) ≤ n
  | [], _ => ⟨rfl, Nat.zero_le _⟩
  | x :: xs, h => by
    obtain ⟨h1, h2⟩ := oks (xs := xs) fun y m => h y (List.mem_cons_of_mem _ m)
    have hx := h x List.mem_cons_self
    refine ⟨?_, ?_⟩
    · rw [D.pys, PyData.canLayAll0, hx.can, h1]
      rfl
    · rw [D.pys, PyData.depthAll]
      exact Nat.max_le.mpr ⟨hx.dep, h2⟩
theorem ok_lst {n : Nat} {xs : List D} (h : ∀ x ∈ xs, D.Ok n x) : D.Ok (n + 1) (.lst xs) := by
  obtain ⟨h1, h2⟩ := oks h
  refine ⟨?_, ?_⟩
  · rw [D.py, PyData.canLay0]
    exact h1
  · rw [D.py, PyData.depth]
    exact Nat.succ_le_succ h2
theorem ok_tup {n : Nat} {xs : List D} (h : ∀ x ∈ xs, D.Ok n x) : D.Ok (n + 1) (.tup xs) := by
  obtain ⟨h1, h2⟩ := oks h
  refine ⟨?_, ?_⟩
  · rw [D.py, PyData.canLay0]
    exact h1
  · rw [D.py, PyData.depth]
    exact Nat.succ_le_succ h2
theorem ok_scr {n : Nat} {xs : List D} (h : ∀ x ∈ xs, D.Ok n x) : D.Ok (n + 1) (.scr xs) := by
  obtain ⟨h1, h2⟩ := oks h
  refine ⟨?_, ?_⟩
  · rw [D.py, PyData.canLay0]
    exact h1
  · rw [D.py, PyData.depth]
    exact Nat.succ_le_succ h2
theorem D.Ok.shaped {n : Nat} {d : D} (h : D.Ok n d) (hn : n ≤ 64) : SeqAt.shaped d.py = true := by
  unfold SeqAt.shaped
  rw [h.can, decide_eq_true (Nat.le_trans h.dep hn)]
  rfl
theorem eqD_ok {n m : Nat} {x y : D} (hx : D.Ok n x) (hy : D.Ok m y) (hn : n ≤ 64 := by decide) (hm : m ≤ 64 := by decide) : eqD x y = some (.d (.bl (PyData.eqv x.py y.py))) := by
  unfold eqD
  rw [hx.shaped hn, hy.shaped hm]
  rfl
theorem neD_ok {n m : Nat} {x y : D} (hx : D.Ok n x) (hy : D.Ok m y) (hn : n ≤ 64 := by decide) (hm : m ≤ 64 := by decide) : neD x y = some (.d (.bl (!PyData.eqv x.py y.py))) := by
  unfold neD
  rw [hx.shaped hn, hy.shaped hm]
  rfl
theorem eqv_nil (xs : List D) : PyData.eqv (D.lst xs).py (D.lst []).py = xs.isEmpty := by
  cases xs with
  | nil => rfl
  | cons x xs =>
    rw [D.py, D.pys, D.py, PyData.eqv]
    rfl
@[simp] theorem eqD_nil2 : eqD (.lst []) (.lst []) = some (.d (.bl true)) := (rfl)
theorem mulOk_l {i j : Int} (h : i.natAbs < 18446744073709551616) : mulOk i j = true := by
  unfold mulOk
  rw [decide_eq_true (show i.natAbs < 2 ^ 64 from h)]
  rfl
theorem mulOk_r {i j : Int} (h : j.natAbs < 18446744073709551616) : mulOk i j = true := by
  unfold mulOk
  rw [decide_eq_true (show j.natAbs < 2 ^ 64 from h), Bool.or_true]
  rfl
theorem okR_nat {n : Nat} (h : n < 4611686018427387904) : okR (n : Int) = true := by
  unfold okR
  rw [Bool.and_eq_true, decide_eq_true_iff, decide_eq_true_iff]
  omega
theorem cut_to {α : Type} (xs : List α) (m : Nat) : cutL xs none (some (m : Int)) = xs.take m := by
  unfold cutL
  rw [HT.sIx_none, HT.sIx_nat]
  simp only [List.drop_zero, Nat.sub_zero]
  rw [List.take_eq_take_iff]
  omega
theorem cut_from {α : Type} (xs : List α) (m : Nat) : cutL xs (some (m : Int)) none = xs.drop m := by
  unfold cutL
  rw [HT.sIx_none, HT.sIx_nat, List.take_of_length_le (by rw [List.length_drop]; omega)]
  by_cases h : m ≤ xs.length
  · rw [Nat.min_eq_left h]
  · rw [Nat.min_eq_right (by omega), List.drop_of_length_le (Nat.le_refl _), List.drop_of_length_le (by omega)]
@[simp] theorem slD_to (xs : List D) (j : Int) : slD false true [.lst xs, .int j] = some (.fl (cutL xs none (some j))) := (rfl)
@[simp] theorem slD_from (xs : List D) (j : Int) : slD true false [.lst xs, .int j] = some (.fl (cutL xs (some j) none)) := (rfl)
@[simp] theorem slD_toS (xs : List D) (j : Int) : slD false true [.scr xs, .int j] = some (.fl (cutL xs none (some j))) := (rfl)
@[simp] theorem slD_fromS (xs : List D) (j : Int) : slD true false [.scr xs, .int j] = some (.fl (cutL xs (some j) none)) := (rfl)
@[simp] theorem slD_toT (xs : List D) (j : Int) : slD false true [.tup xs, .int j] = some (.d (.tup (cutL xs none (some j)))) := (rfl)
@[simp] theorem slD_fromT (xs : List D) (j : Int) : slD true false [.tup xs, .int j] = some (.d (.tup (cutL xs (some j) none))) := (rfl)
theorem forL_inv {tgt : Fg} {body : Fs} : ∀ {ds : List D} (I : Nat → Ev → Prop) {env : Ev} (j : Nat), (∀ k d env, ds[k]? = some d → I (j + k) env → ∃ e1 e2, tgt d env = some e1 ∧ body e1 = .nx e2 ∧ I (j + k + 1) e2) → I j env →
    ∃ e, forL tgt body ds env = .nx e ∧ I (j + ds.length) e
  | [], I, env, j, _, h => ⟨env, rfl, h⟩
  | d :: ds, I, env, j, hs, h => by
    obtain ⟨e1, e2, h1, h2, h3⟩ := hs 0 d env rfl h
    obtain ⟨e, h4, h5⟩ := forL_inv (ds := ds) I (env := e2) (j + 1) (fun k d env hk hI => by
      obtain ⟨e1, e2, h1, h2, h3⟩ := hs (k + 1) d env (by simpa using hk) (by rw [← Nat.add_assoc, Nat.add_right_comm]; exact hI)
      refine ⟨e1, e2, h1, h2, ?_⟩
      rw [show j + (k + 1) + 1 = j + 1 + k + 1 by omega] at h3
      exact h3) h3
    refine ⟨e, ?_, ?_⟩
    · rw [forL_cons, h1, lcF_some, h2, forNext_nx, h4]
    · rw [List.length_cons, show j + (ds.length + 1) = j + 1 + ds.length by omega]
      exact h5
theorem forL_ev {tgt : Fg} {body : Fs} {ds : List D} (I : Nat → Ev → Prop) {env : Ev} (hs : ∀ k d env, ds[k]? = some d → I k env → ∃ e1 e2, tgt d env = some e1 ∧ body e1 = .nx e2 ∧ I (k + 1) e2) (h : I 0 env) :
    ∃ e, forL tgt body ds env = .nx e ∧ I ds.length e := by
  obtain ⟨e, h1, h2⟩ := forL_inv I (env := env) 0 (fun k d env hk hI => by
    rw [Nat.zero_add] at hI ⊢
    exact hs k d env hk hI) h
  rw [Nat.zero_add] at h2
  exact ⟨e, h1, h2⟩
/-- a comprehension whose turns leave the slots as they are -/
theorem lcL_pure {vs : List Nat} {tgt : Fg} {test : Ft} {elt : Fe} {env : Ev} (g : D → Option D) : ∀ (ds : List D) (acc : List D), (∀ d ∈ ds, ∃ e, tgt d env = some e ∧ frees vs e = true ∧ wipeE e vs = env ∧
      ((test e = .ok (false, e) ∧ g d = none) ∨ ∃ o, test e = .ok (true, e) ∧ elt e = .ok (o, e) ∧ o.isUn = false ∧ g d = some o.toD)) → acc.length + ds.length < 16777216 →
    lcL vs tgt test elt ds env acc = .ok (acc ++ ds.filterMap g, env)
  | [], acc, _, _ => by rw [lcL_nil, List.filterMap_nil, List.append_nil]
  | d :: ds, acc, h, hl => by
    obtain ⟨e, h1, h2, h3, h4⟩ := h d List.mem_cons_self
    rw [List.length_cons] at hl
    rw [lcL_cons, h1, lcT_some]
    rcases h4 with ⟨h4, h5⟩ | ⟨o, h4, h5, h6, h7⟩
    · rw [h4, ER.calm_ok, lcQ_f, if_pos h2, h3, lcL_pure g ds acc (fun x m => h x (List.mem_cons_of_mem _ m)) (by omega), List.filterMap_cons_none h5]
    · rw [h4, ER.calm_ok, lcQ_t, h5, ER.calm_ok, lcOn_ap, h6, h2, decide_eq_true (show acc.length < 16777216 by omega), if_neg (by decide), h3,
        lcL_pure g ds (acc ++ [o.toD]) (fun x m => h x (List.mem_cons_of_mem _ m)) (by rw [List.length_append, List.length_singleton]; omega), List.filterMap_cons_some h7, List.append_assoc]
      rfl
/-- a comprehension whose turns change the slots: each item has P -/
theorem lcL_inv {vs : List Nat} {tgt : Fg} {test : Ft} {elt : Fe} (P : D → Prop) (I : Nat → Ev → Prop) : ∀ (ds : List D) (acc : List D) (j : Nat) (env : Ev), (∀ k d env, ds[k]? = some d → I (j + k) env → ∃ e o e2, tgt d env = some e ∧ test e = .ok (true, e) ∧ elt e = .ok (o, e2) ∧ o.isUn = false ∧ P o.toD ∧
      frees vs e2 = true ∧ I (j + k + 1) (wipeE e2 vs)) → acc.length + ds.length < 16777216 → I j env →
    ∃ zs e, lcL vs tgt test elt ds env acc = .ok (acc ++ zs, e) ∧ zs.length = ds.length ∧ (∀ z ∈ zs, P z) ∧ I (j + ds.length) e
  | [], acc, j, env, _, _, hI => ⟨[], env, by rw [lcL_nil, List.append_nil], rfl, fun _ m => (nomatch m), hI⟩
  | d :: ds, acc, j, env, h, hl, hI => by
    obtain ⟨e, o, e2, h1, h2, h3, h4, h5, h6, h7⟩ := h 0 d env rfl hI
    rw [List.length_cons] at hl
    obtain ⟨zs, e3, g1, g2, g3, g4⟩ := lcL_inv P I ds (acc ++ [o.toD]) (j + 1) (wipeE e2 vs) (fun k d env hk hI => by
      obtain ⟨e, o, e2, h1, h2, h3, h4, h5, h6, h7⟩ := h (k + 1) d env (by simpa using hk) (by rw [← Nat.add_assoc, Nat.add_right_comm]; exact hI)
      refine ⟨e, o, e2, h1, h2, h3, h4, h5, h6, ?_⟩
      rw [show j + (k + 1) + 1 = j + 1 + k + 1 by omega] at h7
      exact h7) (by rw [List.length_append, List.length_singleton]; omega) h7
    refine ⟨o.toD :: zs, e3, ?_, by rw [List.length_cons, List.length_cons, g2], fun z m => ?_, ?_⟩
    · rw [lcL_cons, h1, lcT_some, h2, ER.calm_ok, lcQ_t, h3, ER.calm_ok, lcOn_ap, h4, h6, decide_eq_true (show acc.length < 16777216 by omega), if_neg (by decide), g1, List.append_assoc]
      rfl
    · rcases List.mem_cons.mp m with rfl | m
      · exact h5
      · exact g3 z m
    · rw [List.length_cons, show j + (ds.length + 1) = j + 1 + ds.length by omega]
      exact g4
theorem rangeL_get {n k : Nat} {d : D} (h : (rangeL 0 n)[k]? = some d) : k < n ∧ d = .int (k : Nat) := by
  unfold rangeL at h
  rw [List.getElem?_map] at h
  cases q : (List.range n)[k]? with
  | none => rw [q] at h; cases h
  | some j =>
    rw [q] at h
    obtain ⟨h1, h2⟩ := List.getElem?_eq_some_iff.mp q
    rw [List.getElem_range] at h2
    rw [List.length_range] at h1
    subst h2
    cases h
    exact ⟨h1, by simp⟩
theorem rangeL_mem {n : Nat} {d : D} (h : d ∈ rangeL 0 n) : ∃ k : Nat, k < n ∧ d = .int (k : Nat) := by
  obtain ⟨k, h1⟩ := List.getElem?_of_mem h
  obtain ⟨h2, h3⟩ := rangeL_get h1
  exact ⟨k, h2, h3⟩
end VL

set_option Elab.async false
set_option linter.all false
set_option maxRecDepth 100000
set_option maxHeartbeats 0
namespace LW
open PySem PySem.Spec PyProof.Rows L2 VL
def topS (i : Nat) : Stmt := PySem.Challenge.pw_listworks_k80_trees_of_heights.main.body.getD i (.Pass ⟨0, 0, 0, 0⟩)
abbrev s_l_law_of : Stmt := topS 11
theorem sc_l_law_of : FnScope ["urn", "many", "found", "one"] ["urn", "many"] (defScope s_l_law_of) := ⟨rfl, rfl, rfl, by decide +kernel, rfl, by decide +kernel, by decide +kernel⟩
abbrev s_l_law_one : Stmt := topS 12
theorem sc_l_law_one : FnScope ["urn", "some"] ["urn", "some"] (defScope s_l_law_one) := ⟨rfl, rfl, rfl, by decide +kernel, rfl, by decide +kernel, by decide +kernel⟩
abbrev s_l_law_numbered : Stmt := topS 16
theorem sc_l_law_numbered : FnScope ["guess", "left", "height", "right", "rows", "total", "one"] ["guess", "left", "height", "right"] (defScope s_l_law_numbered) := ⟨rfl, rfl, rfl, by decide +kernel, rfl, by decide +kernel, by decide +kernel⟩
abbrev s_l_law_tree : Stmt := topS 17
theorem sc_l_law_tree : FnScope ["urn", "guess", "heights", "middle"] ["urn", "guess", "heights"] (defScope s_l_law_tree) := ⟨rfl, rfl, rfl, by decide +kernel, rfl, by decide +kernel, by decide +kernel⟩
abbrev s_l_law_drawn_height : Stmt := topS 13
theorem sc_l_law_drawn_height : FnScope ["urn"] ["urn"] (defScope s_l_law_drawn_height) := ⟨rfl, rfl, rfl, by decide +kernel, rfl, by decide +kernel, by decide +kernel⟩
abbrev s_l_law_alike : Stmt := topS 9
theorem sc_l_law_alike : FnScope ["one", "due", "at", "key"] ["one", "due"] (defScope s_l_law_alike) := ⟨rfl, rfl, rfl, by decide +kernel, rfl, by decide +kernel, by decide +kernel⟩
abbrev s_l_law_chain : Stmt := topS 18
theorem sc_l_law_chain : FnScope ["guess", "many", "found", "turn"] ["guess", "many"] (defScope s_l_law_chain) := ⟨rfl, rfl, rfl, by decide +kernel, rfl, by decide +kernel, by decide +kernel⟩
abbrev s_l_law_bent : Stmt := topS 19
theorem sc_l_law_bent : FnScope ["urn", "guess", "tree", "side", "inner", "found", "left", "height", "right", "rows", "total", "some"] ["urn", "guess", "tree"] (defScope s_l_law_bent) := ⟨rfl, rfl, rfl, by decide +kernel, rfl, by decide +kernel, by decide +kernel⟩
abbrev s_l_law_is_whole : Stmt := topS 14
theorem sc_l_law_is_whole : FnScope ["value"] ["value"] (defScope s_l_law_is_whole) := ⟨rfl, rfl, rfl, by decide +kernel, rfl, by decide +kernel, by decide +kernel⟩
abbrev s_l_law_judged : Stmt := topS 15
theorem sc_l_law_judged : FnScope ["guess", "tree", "left", "right", "rows", "total"] ["guess", "tree"] (defScope s_l_law_judged) := ⟨rfl, rfl, rfl, by decide +kernel, rfl, by decide +kernel, by decide +kernel⟩
abbrev s_is_integer : Stmt := topS 4
theorem sc_is_integer : FnScope ["value"] ["value"] (defScope s_is_integer) := ⟨rfl, rfl, rfl, by decide +kernel, rfl, by decide +kernel, by decide +kernel⟩
abbrev s_counted : Stmt := topS 1
theorem sc_counted : FnScope ["height", "guess"] ["height", "guess"] (defScope s_counted) := ⟨rfl, rfl, rfl, by decide +kernel, rfl, by decide +kernel, by decide +kernel⟩
abbrev s_measured : Stmt := topS 5
theorem sc_measured : FnScope ["guess", "tree", "left", "height", "right", "rows", "total", "one", "other"] ["guess", "tree"] (defScope s_measured) := ⟨rfl, rfl, rfl, by decide +kernel, rfl, by decide +kernel, by decide +kernel⟩
abbrev s_tree_right : Stmt := topS 6
theorem sc_tree_right : FnScope ["guess", "tree"] ["guess", "tree"] (defScope s_tree_right) := ⟨rfl, rfl, rfl, by decide +kernel, rfl, by decide +kernel, by decide +kernel⟩
abbrev s_heights_of : Stmt := topS 2
theorem sc_heights_of : FnScope ["node"] ["node"] (defScope s_heights_of) := ⟨rfl, rfl, rfl, by decide +kernel, rfl, by decide +kernel, by decide +kernel⟩
abbrev s_heights_in : Stmt := topS 7
theorem sc_heights_in : FnScope ["tree"] ["tree"] (defScope s_heights_in) := ⟨rfl, rfl, rfl, by decide +kernel, rfl, by decide +kernel, by decide +kernel⟩
abbrev s_l_law_right : Stmt := topS 20
theorem sc_l_law_right : FnScope ["urn", "turn", "guess", "heights", "tree", "more", "bent", "other", "deep", "chains", "row", "many"] ["urn"] (defScope s_l_law_right) := ⟨rfl, rfl, rfl, by decide +kernel, rfl, by decide +kernel, by decide +kernel⟩
abbrev s_l_law_urn : Stmt := topS 10
theorem sc_l_law_urn : FnScope ["script", "k", "seed", "at", "cell", "great"] ["script", "k"] (defScope s_l_law_urn) := ⟨rfl, rfl, rfl, by decide +kernel, rfl, by decide +kernel, by decide +kernel⟩
abbrev s_law : Stmt := topS 21
theorem sc_law : FnScope ["script", "k"] ["script"] (defScope s_law) := ⟨rfl, rfl, rfl, by decide +kernel, rfl, by decide +kernel, by decide +kernel⟩
structure Txt (K : PySem.W.Frag) (mg : Str → Option Value) where
  l_law_of : Fnt K mg "_law_of" s_l_law_of ["urn", "many"]
  l_law_one : Fnt K mg "_law_one" s_l_law_one ["urn", "some"]
  l_law_numbered : Fnt K mg "_law_numbered" s_l_law_numbered ["guess", "left", "height", "right"]
  l_law_tree : Fnt K mg "_law_tree" s_l_law_tree ["urn", "guess", "heights"]
  l_law_drawn_height : Fnt K mg "_law_drawn_height" s_l_law_drawn_height ["urn"]
  l_law_alike : Fnt K mg "_law_alike" s_l_law_alike ["one", "due"]
  l_law_chain : Fnt K mg "_law_chain" s_l_law_chain ["guess", "many"]
  l_law_bent : Fnt K mg "_law_bent" s_l_law_bent ["urn", "guess", "tree"]
  l_law_is_whole : Fnt K mg "_law_is_whole" s_l_law_is_whole ["value"]
  l_law_judged : Fnt K mg "_law_judged" s_l_law_judged ["guess", "tree"]
  is_integer : Fnt K mg "is_integer" s_is_integer ["value"]
  counted : Fnt K mg "counted" s_counted ["height", "guess"]
  measured : Fnt K mg "measured" s_measured ["guess", "tree"]
  tree_right : Fnt K mg "tree_right" s_tree_right ["guess", "tree"]
  heights_of : Fnt K mg "heights_of" s_heights_of ["node"]
  heights_in : Fnt K mg "heights_in" s_heights_in ["tree"]
  l_law_right : Fnt K mg "_law_right" s_l_law_right ["urn"]
  l_law_urn : Fnt K mg "_law_urn" s_l_law_urn ["script", "k"]
  law : Fnt K mg "law" s_law ["script"]
  n_abs : mg "abs" = none
  n_bool : mg "bool" = none
  n_dict : mg "dict" = none
  n_enumerate : mg "enumerate" = none
  n_int : mg "int" = none
  n_isinstance : mg "isinstance" = none
  n_len : mg "len" = none
  n_list : mg "list" = none
  n_max : mg "max" = none
  n_min : mg "min" = none
  n_range : mg "range" = none
  n_str : mg "str" = none
  n_sum : mg "sum" = none
  n_tuple : mg "tuple" = none
def S_l_law_of_1a_1 : Fs := (asgZ 2 (op2 modD (.val (opN intD [(.val (op2 ixD (.pk 0) (.val (cE (.int 0)))))])) (.pk 1)))
def S_l_law_of_1a_2 : Fs := (setI 0 (op2 fdivD (.val (op2 ixD (.pk 0) (.val (cE (.int 0))))) (.pk 1)) (cE (.int 0)))
def S_l_law_of_1a_3 : Fs := (retS (varE 2))
def S_l_law_of_1 : Fs := (ifS (tstE (op2 (cmpI fun i j => decide (j < i)) (.val (op2 ixD (.pk 0) (.val (cE (.int 0))))) (.val (cE (.int 0)))))
  (seqS S_l_law_of_1a_1 (seqS S_l_law_of_1a_2 S_l_law_of_1a_3))
  nilS)
def S_l_law_of_2 : Fs := (setI 0 (op2 addD (.val (op2 ixD (.pk 0) (.val (cE (.int 2))))) (.val (cE (.int 1)))) (cE (.int 2)))
def S_l_law_of_3 : Fs := (asgZ 3 (op2 modD (.val (opN intD [(.val (op2 addD (.val (op2 powD (.val (op2 addD (.val (op2 ixD (.pk 0) (.val (cE (.int 1))))) (.val (op2 mulD (.val (op2 ixD (.pk 0) (.val (cE (.int 2))))) (.val (cE (.int 15485867))))))) (.val (cE (.int 2))))) (.val (op2 ixD (.pk 0) (.val (cE (.int 2)))))))])) (.val (op2 addD (.val (op2 powD (.val (cE (.int 10))) (.val (cE (.int 27))))) (.val (cE (.int 103)))))))
def S_l_law_of_4 : Fs := (setI 0 (op2 modD (.val (opN intD [(.val (op2 addD (.val (op2 addD (.val (op2 mulD (.val (op2 ixD (.pk 0) (.val (cE (.int 1))))) (.val (cE (.int 3))))) (.pk 3))) (.val (cE (.int 5)))))])) (.val (op2 addD (.val (op2 powD (.val (cE (.int 10))) (.val (cE (.int 29))))) (.val (cE (.int 319)))))) (cE (.int 1)))
def S_l_law_of_5 : Fs := (retS (op2 modD (.val (opN intD [(.val (op2 fdivD (.pk 3) (.val (cE (.int 999983)))))])) (.pk 1)))
def B_l_law_of : Fs := (seqS S_l_law_of_1 (seqS S_l_law_of_2 (seqS S_l_law_of_3 (seqS S_l_law_of_4 S_l_law_of_5))))
def F_l_law_of : Fe := bodyF [0] 2 B_l_law_of
theorem ok_l_law_of {P : Program} {w : World} {K : PySem.W.Frag} {mg : Str → Option Value} {base : Heap} (T : Txt K mg) : FnV P w K mg base 1 T.l_law_of.f T.l_law_of.fd ["urn", "many"] F_l_law_of :=
  fn_mk T.l_law_of.F sc_l_law_of rfl fun cdv A outer s H E hr =>
    (b_cons (s_if (t_cmp op_gtD (v_val (v_ix (v_pk 0 (pv 0)) (v_val v_int))) (v_val v_int))
    (b_cons (s_setZ (i := 2) sc_l_law_of.nd rfl (.inl rfl) (by rfl) (v_bin op_modD (v_val (v_callTy cr_int (by rfl) T.n_int (by decide +kernel) (va_cons (v_val (v_ix (v_pk 0 (pv 0)) (v_val v_int))) va_nil))) (v_pk 1 (pv 1))))
    (b_cons (s_setI (i := 0) (v_bin op_fdivD (v_val (v_ix (v_pk 0 (pv 0)) (v_val v_int))) (v_pk 1 (pv 1))) (pv 0) v_int)
    (b_one (s_ret (v_var 2 (pv 2))))))
    b_nil)
    (b_cons (s_setI (i := 0) (v_bin op_addD (v_val (v_ix (v_pk 0 (pv 0)) (v_val v_int))) (v_val v_int)) (pv 0) v_int)
    (b_cons (s_setZ (i := 3) sc_l_law_of.nd rfl (.inl rfl) (by rfl) (v_bin op_modD (v_val (v_callTy cr_int (by rfl) T.n_int (by decide +kernel) (va_cons (v_val (v_bin op_addD (v_val (v_bin op_powD (v_val (v_bin op_addD (v_val (v_ix (v_pk 0 (pv 0)) (v_val v_int))) (v_val (v_bin op_mulD (v_val (v_ix (v_pk 0 (pv 0)) (v_val v_int))) (v_val v_int))))) (v_val v_int))) (v_val (v_ix (v_pk 0 (pv 0)) (v_val v_int))))) va_nil))) (v_val (v_bin op_addD (v_val (v_bin op_powD (v_val v_int) (v_val v_int))) (v_val v_int)))))
    (b_cons (s_setI (i := 0) (v_bin op_modD (v_val (v_callTy cr_int (by rfl) T.n_int (by decide +kernel) (va_cons (v_val (v_bin op_addD (v_val (v_bin op_addD (v_val (v_bin op_mulD (v_val (v_ix (v_pk 0 (pv 0)) (v_val v_int))) (v_val v_int))) (v_pk 3 (pv 3)))) (v_val v_int))) va_nil))) (v_val (v_bin op_addD (v_val (v_bin op_powD (v_val v_int) (v_val v_int))) (v_val v_int)))) (pv 0) v_int)
    (b_one (s_ret (v_bin op_modD (v_val (v_callTy cr_int (by rfl) T.n_int (by decide +kernel) (va_cons (v_val (v_bin op_fdivD (v_pk 3 (pv 3)) (v_val v_int))) va_nil))) (v_pk 1 (pv 1)))))))))

def B_l_law_one : Fs := (retS (op2 ixD (.pk 1) (.val (callE F_l_law_of (some 0) [(.pk 0), (.val (opN lenD [(.pk 1)]))]))))
def F_l_law_one : Fe := bodyF [0] 0 B_l_law_one
theorem ok_l_law_one {P : Program} {w : World} {K : PySem.W.Frag} {mg : Str → Option Value} {base : Heap} (T : Txt K mg) : FnV P w K mg base 2 T.l_law_one.f T.l_law_one.fd ["urn", "some"] F_l_law_one :=
  fn_mk T.l_law_one.F sc_l_law_one rfl fun cdv A outer s H E hr =>
    (b_one (s_ret (v_ix (v_pk 1 (pv 1)) (v_val (v_call (some 0) (FnOk.mono (k := 1) (ok_l_law_of T) (by decide)) hr (by rfl) T.l_law_of.g T.l_law_of.F.kp T.l_law_of.b (takes_of rfl rfl rfl rfl) (va_cons (v_pk 0 (pv 0)) (va_cons (v_val (v_callB cr_len (by rfl) T.n_len PySem.boot_len (va_cons (v_pk 1 (pv 1)) va_nil))) va_nil)))))))
def S_l_law_numbered_1 : Fs := (asgZ 4 (op2 addD (.val (cE (.int 1))) (.val (opN sumD [(.val (lcE [6] (srcC anyLD [(.val (opC lstC [(.pk 1), (.pk 3)]))]) (nameG 6) (tstE (op2 notNonD (.pk 6) (.val (cE .non)))) (op2 ixD (.pk 6) (.val (cE (.int 3))))))]))))
def S_l_law_numbered_2 : Fs := (asgZ 5 (op2 addD (.val (ifE (tstE (op2 isNonD (.pk 2) (.val (cE .non)))) (varE 0) (varE 2))) (.val (opN sumD [(.val (lcE [6] (srcC anyLD [(.val (opC lstC [(.pk 1), (.pk 3)]))]) (nameG 6) (tstE (op2 notNonD (.pk 6) (.val (cE .non)))) (op2 ixD (.pk 6) (.val (cE (.int 4))))))]))))
def S_l_law_numbered_3 : Fs := (retS (opC tupC [(.pk 1), (.pk 2), (.pk 3), (.pk 4), (.pk 5)]))
def B_l_law_numbered : Fs := (seqS S_l_law_numbered_1 (seqS S_l_law_numbered_2 S_l_law_numbered_3))
def F_l_law_numbered : Fe := bodyF [] 3 B_l_law_numbered
theorem ok_l_law_numbered {P : Program} {w : World} {K : PySem.W.Frag} {mg : Str → Option Value} {base : Heap} (T : Txt K mg) : FnV P w K mg base 1 T.l_law_numbered.f T.l_law_numbered.fd ["guess", "left", "height", "right"] F_l_law_numbered :=
  fn_mk T.l_law_numbered.F sc_l_law_numbered rfl fun cdv A outer s H E hr =>
    (b_cons (s_setZ (i := 4) sc_l_law_numbered.nd rfl (.inl rfl) (by rfl) (v_bin op_addD (v_val v_int) (v_val (v_callB (cr_sumD rfl) (by rfl) T.n_sum (by decide +kernel) (va_cons (v_val (v_lc (own := [("one", 6)]) (pn := [0, 1, 2, 3, 4, 5]) (vs := [6]) rfl sc_l_law_numbered.nd (i_any (v_val (v_lst (va_cons (v_pk 1 (pv 1)) (va_cons (v_pk 3 (pv 3)) va_nil))))) (blkOk_by (own := [("one", 6)]) (N := ["guess", "left", "height", "right", "rows", "total", "one"]) (sc := (defScope s_l_law_numbered)) (by decide +kernel)) (fun _ _ _ _ _ => (g_name (pg_name (i := 6) sc_l_law_numbered.nd rfl (by first | exact .inl rfl | exact .inr rfl)) (by rfl))) (fun _ _ _ _ _ => (ts_one (t_cmp op_notNonD (v_pk 6 (pv 6)) (v_val v_none)))) (fun _ _ _ _ _ => (v_ix (v_pk 6 (pv 6)) (v_val v_int))) rfl (by decide) (by rfl))) va_nil)))))
    (b_cons (s_setZ (i := 5) sc_l_law_numbered.nd rfl (.inl rfl) (by rfl) (v_bin op_addD (v_val (v_if (t_cmp op_isNonD (v_pk 2 (pv 2)) (v_val v_none)) (v_var 0 (pv 0)) (v_var 2 (pv 2)))) (v_val (v_callB (cr_sumD rfl) (by rfl) T.n_sum (by decide +kernel) (va_cons (v_val (v_lc (own := [("one", 6)]) (pn := [0, 1, 2, 3, 4, 5]) (vs := [6]) rfl sc_l_law_numbered.nd (i_any (v_val (v_lst (va_cons (v_pk 1 (pv 1)) (va_cons (v_pk 3 (pv 3)) va_nil))))) (blkOk_by (own := [("one", 6)]) (N := ["guess", "left", "height", "right", "rows", "total", "one"]) (sc := (defScope s_l_law_numbered)) (by decide +kernel)) (fun _ _ _ _ _ => (g_name (pg_name (i := 6) sc_l_law_numbered.nd rfl (by first | exact .inl rfl | exact .inr rfl)) (by rfl))) (fun _ _ _ _ _ => (ts_one (t_cmp op_notNonD (v_pk 6 (pv 6)) (v_val v_none)))) (fun _ _ _ _ _ => (v_ix (v_pk 6 (pv 6)) (v_val v_int))) rfl (by decide) (by rfl))) va_nil)))))
    (b_one (s_ret (v_tup (va_cons (v_pk 1 (pv 1)) (va_cons (v_pk 2 (pv 2)) (va_cons (v_pk 3 (pv 3)) (va_cons (v_pk 4 (pv 4)) (va_cons (v_pk 5 (pv 5)) va_nil))))))))))
def S_l_law_tree_1 (F_l_law_tree : Fe) : Fs := (ifS (tstE (op2 eqD (.pk 2) (.val (opC lstC []))))
  (retS (cE .non))
  nilS)
def S_l_law_tree_2 (F_l_law_tree : Fe) : Fs := (asgZ 3 (op2 fdivD (.val (op2 subD (.val (opN lenD [(.pk 2)])) (.val (op2 mulD (.val (callE F_l_law_of (some 0) [(.pk 0), (.val (cE (.int 2)))])) (.val (opN intD [(.val (op2 inD (.val (opN lenD [(.pk 2)])) (.val (opC lstC [(.val (cE (.int 2))), (.val (cE (.int 4))), (.val (cE (.int 6)))]))))])))))) (.val (cE (.int 2)))))
def S_l_law_tree_3 (F_l_law_tree : Fe) : Fs := (asgZ 3 (opN minD [(.pk 3), (.val (op2 subD (.val (opN lenD [(.pk 2)])) (.val (cE (.int 1)))))]))
def S_l_law_tree_4 (F_l_law_tree : Fe) : Fs := (retS (callE F_l_law_numbered none [(.pk 1), (.val (callE F_l_law_tree (some 0) [(.pk 0), (.pk 1), (.val (opN (slD false true) [(.pk 2), (.pk 3)]))])), (.val (op2 ixD (.pk 2) (.pk 3))), (.val (callE F_l_law_tree (some 0) [(.pk 0), (.pk 1), (.val (opN (slD true false) [(.pk 2), (.val (op2 addD (.pk 3) (.val (cE (.int 1)))))]))]))]))
def B_l_law_tree (F_l_law_tree : Fe) : Fs := (seqS (S_l_law_tree_1 F_l_law_tree) (seqS (S_l_law_tree_2 F_l_law_tree) (seqS (S_l_law_tree_3 F_l_law_tree) (S_l_law_tree_4 F_l_law_tree))))
def F_l_law_tree : Nat → Fe
  | 0 => fun _ => .st
  | n + 1 => bodyF [0] 1 (B_l_law_tree (F_l_law_tree n))
theorem E_l_law_tree (n : Nat) : F_l_law_tree (n + 1) = bodyF [0] 1 (B_l_law_tree (F_l_law_tree n)) := rfl
theorem ok_l_law_tree {P : Program} {w : World} {K : PySem.W.Frag} {mg : Str → Option Value} {base : Heap} (T : Txt K mg) : ∀ n : Nat, FnV P w K mg base (1 + n) T.l_law_tree.f T.l_law_tree.fd ["urn", "guess", "heights"] (F_l_law_tree n)
  | 0 => fn_st
  | n + 1 => by
    have ih := ok_l_law_tree (P := P) (w := w) (base := base) T n
    exact fn_mk T.l_law_tree.F sc_l_law_tree rfl fun cdv A outer s H E hr =>
    (b_cons (s_if (t_cmp (op_eqDD hr.units) (v_pk 2 (pv 2)) (v_val (v_lst (va_nil))))
    (b_one (s_ret v_none))
    b_nil)
    (b_cons (s_setZ (i := 3) sc_l_law_tree.nd rfl (.inl rfl) (by rfl) (v_bin op_fdivD (v_val (v_bin op_subD (v_val (v_callB cr_len (by rfl) T.n_len PySem.boot_len (va_cons (v_pk 2 (pv 2)) va_nil))) (v_val (v_bin op_mulD (v_val (v_call (some 0) (FnOk.mono (k := 1 + n) (ok_l_law_of T) (Nat.le_trans (m := 1) (by decide) (Nat.le_add_right _ _))) hr (by rfl) T.l_law_of.g T.l_law_of.F.kp T.l_law_of.b (takes_of rfl rfl rfl rfl) (va_cons (v_pk 0 (pv 0)) (va_cons (v_val v_int) va_nil)))) (v_val (v_callTy cr_int (by rfl) T.n_int (by decide +kernel) (va_cons (v_val (v_cmp (op_inDD (Room.units65 hr)) (v_val (v_callB cr_len (by rfl) T.n_len PySem.boot_len (va_cons (v_pk 2 (pv 2)) va_nil))) (v_val (v_lst (va_cons (v_val v_int) (va_cons (v_val v_int) (va_cons (v_val v_int) va_nil))))) (by with_unfolding_all rfl))) va_nil))))))) (v_val v_int)))
    (b_cons (s_setZ (i := 3) sc_l_law_tree.nd rfl (.inl rfl) (by rfl) (v_callB (cr_minD rfl) (by rfl) T.n_min (by decide +kernel) (va_cons (v_pk 3 (pv 3)) (va_cons (v_val (v_bin op_subD (v_val (v_callB cr_len (by rfl) T.n_len PySem.boot_len (va_cons (v_pk 2 (pv 2)) va_nil))) (v_val v_int))) va_nil))))
    (b_one (s_ret (v_call none (FnOk.mono (k := 1 + n) (ok_l_law_numbered T) (Nat.le_trans (m := 1) (by decide) (Nat.le_add_right _ _))) hr (by rfl) T.l_law_numbered.g T.l_law_numbered.F.kp T.l_law_numbered.b (takes_of rfl rfl rfl rfl) (va_cons (v_pk 1 (pv 1)) (va_cons (v_val (v_call (some 0) ih hr (by rfl) T.l_law_tree.g T.l_law_tree.F.kp T.l_law_tree.b (takes_of rfl rfl rfl rfl) (va_cons (v_pk 0 (pv 0)) (va_cons (v_pk 1 (pv 1)) (va_cons (v_val (v_sl2 (v_pk 2 (pv 2)) (v_pk 3 (pv 3)))) va_nil))))) (va_cons (v_val (v_ix (v_pk 2 (pv 2)) (v_pk 3 (pv 3)))) (va_cons (v_val (v_call (some 0) ih hr (by rfl) T.l_law_tree.g T.l_law_tree.F.kp T.l_law_tree.b (takes_of rfl rfl rfl rfl) (va_cons (v_pk 0 (pv 0)) (va_cons (v_pk 1 (pv 1)) (va_cons (v_val (v_sl1 (v_pk 2 (pv 2)) (v_val (v_bin op_addD (v_pk 3 (pv 3)) (v_val v_int))))) va_nil))))) va_nil))))))))))

def B_l_law_drawn_height : Fs := (retS (callE F_l_law_one (some 0) [(.pk 0), (.val (opC lstC [(.val (cE .non)), (.val (cE .non)), (.val (cE (.int 0))), (.val (cE (.int 1))), (.val (cE (.int 4))), (.val (cE (.int 25))), (.val (callE F_l_law_of (some 0) [(.pk 0), (.val (cE (.int 60)))])), (.val (op2 powD (.val (cE (.int 10))) (.val (cE (.int 20)))))]))]))
def F_l_law_drawn_height : Fe := bodyF [0] 0 B_l_law_drawn_height
theorem ok_l_law_drawn_height {P : Program} {w : World} {K : PySem.W.Frag} {mg : Str → Option Value} {base : Heap} (T : Txt K mg) : FnV P w K mg base 3 T.l_law_drawn_height.f T.l_law_drawn_height.fd ["urn"] F_l_law_drawn_height :=
  fn_mk T.l_law_drawn_height.F sc_l_law_drawn_height rfl fun cdv A outer s H E hr =>
    (b_one (s_ret (v_call (some 0) (FnOk.mono (k := 2) (ok_l_law_one T) (by decide)) hr (by rfl) T.l_law_one.g T.l_law_one.F.kp T.l_law_one.b (takes_of rfl rfl rfl rfl) (va_cons (v_pk 0 (pv 0)) (va_cons (v_val (v_lst (va_cons (v_val v_none) (va_cons (v_val v_none) (va_cons (v_val v_int) (va_cons (v_val v_int) (va_cons (v_val v_int) (va_cons (v_val v_int) (va_cons (v_val (v_call (some 0) (FnOk.mono (k := 2) (ok_l_law_of T) (by decide)) hr (by rfl) T.l_law_of.g T.l_law_of.F.kp T.l_law_of.b (takes_of rfl rfl rfl rfl) (va_cons (v_pk 0 (pv 0)) (va_cons (v_val v_int) va_nil)))) (va_cons (v_val (v_bin op_powD (v_val v_int) (v_val v_int))) va_nil)))))))))) va_nil)))))
def S_l_law_alike_1a_1 (F_l_law_alike : Fe) : Fs := (ifS (orT (tstE (op2 neD (.val (opN isiD [(.pk 1), (.val (cE (.ty "tuple")))])) (.val (opN isiD [(.pk 0), (.val (cE (.ty "tuple")))])))) (orT (notT (tstE (opN isiD [(.pk 0), (.val (opC tupC [(.val (cE (.ty "tuple"))), (.val (cE (.ty "list")))]))]))) (tstE (op2 neD (.val (opN lenD [(.pk 0)])) (.val (opN lenD [(.pk 1)]))))))
  (retS (cE (.bl false)))
  nilS)
def S_l_law_alike_1a_2 (F_l_law_alike : Fe) : Fs := (retS (op2 eqD (.val (lcE [2] (srcN rangeD1 [(.val (opN lenD [(.pk 1)]))]) (nameG 2) (notT (tstE (callE F_l_law_alike none [(.val (op2 ixD (.pk 0) (.pk 2))), (.val (op2 ixD (.pk 1) (.pk 2)))]))) (varE 2))) (.val (opC lstC []))))
def S_l_law_alike_1 (F_l_law_alike : Fe) : Fs := (ifS (tstE (opN isiD [(.pk 1), (.val (opC tupC [(.val (cE (.ty "tuple"))), (.val (cE (.ty "list")))]))]))
  (seqS (S_l_law_alike_1a_1 F_l_law_alike) (S_l_law_alike_1a_2 F_l_law_alike))
  nilS)
def S_l_law_alike_2 (F_l_law_alike : Fe) : Fs := (ifS (tstE (opN isiD [(.pk 1), (.val (cE (.ty "dict")))]))
  noS
  nilS)
def S_l_law_alike_3 (F_l_law_alike : Fe) : Fs := (ifS (tstE (op2 isNonD (.pk 1) (.val (cE .non))))
  (retS (op2 isNonD (.pk 0) (.val (cE .non))))
  nilS)
def S_l_law_alike_4 (F_l_law_alike : Fe) : Fs := (ifS (tstE (opN isiD [(.pk 1), (.val (cE (.ty "bool")))]))
  (retS (andE (opN isiD [(.pk 0), (.val (cE (.ty "bool")))]) (op2 eqD (.pk 0) (.pk 1))))
  nilS)
def S_l_law_alike_5 (F_l_law_alike : Fe) : Fs := (ifS (tstE (opN isiD [(.pk 1), (.val (cE (.ty "str")))]))
  (retS (andE (opN isiD [(.pk 0), (.val (cE (.ty "str")))]) (op2 eqD (.pk 0) (.pk 1))))
  nilS)
def S_l_law_alike_6 (F_l_law_alike : Fe) : Fs := (retS (andE (opN isiD [(.pk 0), (.val (cE (.ty "int")))]) (andE (notE (opN isiD [(.pk 0), (.val (cE (.ty "bool")))])) (op2 eqD (.pk 0) (.pk 1)))))
def B_l_law_alike (F_l_law_alike : Fe) : Fs := (seqS (S_l_law_alike_1 F_l_law_alike) (seqS (S_l_law_alike_2 F_l_law_alike) (seqS (S_l_law_alike_3 F_l_law_alike) (seqS (S_l_law_alike_4 F_l_law_alike) (seqS (S_l_law_alike_5 F_l_law_alike) (S_l_law_alike_6 F_l_law_alike))))))
def F_l_law_alike : Nat → Fe
  | 0 => fun _ => .st
  | n + 1 => bodyF [] 2 (B_l_law_alike (F_l_law_alike n))
theorem E_l_law_alike (n : Nat) : F_l_law_alike (n + 1) = bodyF [] 2 (B_l_law_alike (F_l_law_alike n)) := rfl
theorem ok_l_law_alike {P : Program} {w : World} {K : PySem.W.Frag} {mg : Str → Option Value} {base : Heap} (T : Txt K mg) : ∀ n : Nat, FnV P w K mg base (0 + n) T.l_law_alike.f T.l_law_alike.fd ["one", "due"] (F_l_law_alike n)
  | 0 => fn_st
  | n + 1 => by
    have ih := ok_l_law_alike (P := P) (w := w) (base := base) T n
    exact fn_mk T.l_law_alike.F sc_l_law_alike rfl fun cdv A outer s H E hr =>
    (b_cons (s_if (t_val (v_callB cr_isi (by rfl) T.n_isinstance (by decide +kernel) (va_cons (v_pk 1 (pv 1)) (va_cons (v_val (v_tup (va_cons (v_val (v_type (by rfl) T.n_tuple (by decide +kernel))) (va_cons (v_val (v_type (by rfl) T.n_list (by decide +kernel))) va_nil)))) va_nil))))
    (b_cons (s_if (t_w (w_or (t_cmp (op_neDD hr.units) (v_val (v_callB cr_isi (by rfl) T.n_isinstance (by decide +kernel) (va_cons (v_pk 1 (pv 1)) (va_cons (v_val (v_type (by rfl) T.n_tuple (by decide +kernel))) va_nil)))) (v_val (v_callB cr_isi (by rfl) T.n_isinstance (by decide +kernel) (va_cons (v_pk 0 (pv 0)) (va_cons (v_val (v_type (by rfl) T.n_tuple (by decide +kernel))) va_nil))))) (w_or (t_not (t_val (v_callB cr_isi (by rfl) T.n_isinstance (by decide +kernel) (va_cons (v_pk 0 (pv 0)) (va_cons (v_val (v_tup (va_cons (v_val (v_type (by rfl) T.n_tuple (by decide +kernel))) (va_cons (v_val (v_type (by rfl) T.n_list (by decide +kernel))) va_nil)))) va_nil))))) (w_or1 (t_cmp (op_neDD hr.units) (v_val (v_callB cr_len (by rfl) T.n_len PySem.boot_len (va_cons (v_pk 0 (pv 0)) va_nil))) (v_val (v_callB cr_len (by rfl) T.n_len PySem.boot_len (va_cons (v_pk 1 (pv 1)) va_nil))))))))
    (b_one (s_ret v_bool))
    b_nil)
    (b_one (s_ret (v_cmp (op_eqDD hr.units) (v_val (v_lc (own := [("at", 2)]) (pn := [0, 1, 3]) (vs := [2]) rfl sc_l_law_alike.nd (i_range1 (by rfl) T.n_range (va_cons (v_val (v_callB cr_len (by rfl) T.n_len PySem.boot_len (va_cons (v_pk 1 (pv 1)) va_nil))) va_nil)) (blkOk_by (own := [("at", 2)]) (N := ["one", "due", "at", "key"]) (sc := (defScope s_l_law_alike)) (by decide +kernel)) (fun _ _ _ _ _ => (g_name (pg_name (i := 2) sc_l_law_alike.nd rfl (by first | exact .inl rfl | exact .inr rfl)) (by rfl))) (fun _ _ _ _ _ => (ts_one (t_not (t_val (v_call none ih hr (by rfl) T.l_law_alike.g T.l_law_alike.F.kp T.l_law_alike.b takes0 (va_cons (v_val (v_ix (v_pk 0 (pv 0)) (v_pk 2 (pv 2)))) (va_cons (v_val (v_ix (v_pk 1 (pv 1)) (v_pk 2 (pv 2)))) va_nil))))))) (fun _ _ _ _ _ => (v_var 2 (pv 2))) rfl (by decide) (by rfl))) (v_val (v_lst (va_nil)))))))
    b_nil)
    (b_cons (s_if (t_val (v_callB cr_isi (by rfl) T.n_isinstance (by decide +kernel) (va_cons (v_pk 1 (pv 1)) (va_cons (v_val (v_type (by rfl) T.n_dict (by decide +kernel))) va_nil))))
    (b_one s_dead)
    b_nil)
    (b_cons (s_if (t_cmp op_isNonD (v_pk 1 (pv 1)) (v_val v_none))
    (b_one (s_ret (v_cmp op_isNonD (v_pk 0 (pv 0)) (v_val v_none))))
    b_nil)
    (b_cons (s_if (t_val (v_callB cr_isi (by rfl) T.n_isinstance (by decide +kernel) (va_cons (v_pk 1 (pv 1)) (va_cons (v_val (v_type (by rfl) T.n_bool (by decide +kernel))) va_nil))))
    (b_one (s_ret (v_and (v_callB cr_isi (by rfl) T.n_isinstance (by decide +kernel) (va_cons (v_pk 0 (pv 0)) (va_cons (v_val (v_type (by rfl) T.n_bool (by decide +kernel))) va_nil))) (v_one (v_cmp (op_eqDD hr.units) (v_pk 0 (pv 0)) (v_pk 1 (pv 1)))))))
    b_nil)
    (b_cons (s_if (t_val (v_callB cr_isi (by rfl) T.n_isinstance (by decide +kernel) (va_cons (v_pk 1 (pv 1)) (va_cons (v_val (v_type (by rfl) T.n_str (by decide +kernel))) va_nil))))
    (b_one (s_ret (v_and (v_callB cr_isi (by rfl) T.n_isinstance (by decide +kernel) (va_cons (v_pk 0 (pv 0)) (va_cons (v_val (v_type (by rfl) T.n_str (by decide +kernel))) va_nil))) (v_one (v_cmp (op_eqDD hr.units) (v_pk 0 (pv 0)) (v_pk 1 (pv 1)))))))
    b_nil)
    (b_one (s_ret (v_and (v_callB cr_isi (by rfl) T.n_isinstance (by decide +kernel) (va_cons (v_pk 0 (pv 0)) (va_cons (v_val (v_type (by rfl) T.n_int (by decide +kernel))) va_nil))) (v_and (v_not (v_callB cr_isi (by rfl) T.n_isinstance (by decide +kernel) (va_cons (v_pk 0 (pv 0)) (va_cons (v_val (v_type (by rfl) T.n_bool (by decide +kernel))) va_nil)))) (v_one (v_cmp (op_eqDD hr.units) (v_pk 0 (pv 0)) (v_pk 1 (pv 1)))))))))))))
def S_l_law_chain_1 : Fs := (asgZ 2 (cE .non))
def S_l_law_chain_2_1 : Fs := (asgZ 2 (callE F_l_law_numbered none [(.pk 0), (.pk 2), (.val (cE (.int 3))), (.val (cE .non))]))
def S_l_law_chain_2 : Fs := (forS (srcN rangeD1 [(.pk 1)]) (nameG 3)
  S_l_law_chain_2_1)
def S_l_law_chain_3 : Fs := (retS (varE 2))
def B_l_law_chain : Fs := (seqS S_l_law_chain_1 (seqS S_l_law_chain_2 S_l_law_chain_3))
def F_l_law_chain : Fe := bodyF [] 2 B_l_law_chain
theorem ok_l_law_chain {P : Program} {w : World} {K : PySem.W.Frag} {mg : Str → Option Value} {base : Heap} (T : Txt K mg) : FnV P w K mg base 2 T.l_law_chain.f T.l_law_chain.fd ["guess", "many"] F_l_law_chain :=
  fn_mk T.l_law_chain.F sc_l_law_chain rfl fun cdv A outer s H E hr =>
    (b_cons (s_setZ (i := 2) sc_l_law_chain.nd rfl (.inl rfl) (by rfl) v_none)
    (b_cons (s_for (passes_of rfl) (by rfl) (i_range1 (by rfl) T.n_range (va_cons (v_pk 1 (pv 1)) va_nil)) (g_name (pg_name (i := 3) sc_l_law_chain.nd rfl (by first | exact .inl rfl | exact .inr rfl)) (by rfl))
    (b_one (s_setZ (i := 2) sc_l_law_chain.nd rfl (.inl rfl) (by rfl) (v_call none (FnOk.mono (k := 1) (ok_l_law_numbered T) (by decide)) hr (by rfl) T.l_law_numbered.g T.l_law_numbered.F.kp T.l_law_numbered.b (takes_of rfl rfl rfl rfl) (va_cons (v_pk 0 (pv 0)) (va_cons (v_pk 2 (pv 2)) (va_cons (v_val v_int) (va_cons (v_val v_none) va_nil))))))))
    (b_one (s_ret (v_var 2 (pv 2))))))
def S_l_law_bent_1a_1 (F_l_law_bent : Fe) : Fs := (asgZ 3 (op2 mulD (.val (cE (.int 2))) (.val (callE F_l_law_of (some 0) [(.pk 0), (.val (cE (.int 2)))]))))
def S_l_law_bent_1a_2 (F_l_law_bent : Fe) : Fs := (asgZ 4 (callE F_l_law_bent (some 0) [(.pk 0), (.pk 1), (.val (op2 ixD (.pk 2) (.pk 3)))]))
def S_l_law_bent_1a_3 (F_l_law_bent : Fe) : Fs := (asgZ 5 (op2 addD (.val (op2 addD (.val (opN (slD false true) [(.pk 2), (.pk 3)])) (.val (opC tupC [(.pk 4)])))) (.val (opN (slD true false) [(.pk 2), (.val (op2 addD (.pk 3) (.val (cE (.int 1)))))]))))
def S_l_law_bent_1a_4 (F_l_law_bent : Fe) : Fs := (retS (varE 5))
def S_l_law_bent_1 (F_l_law_bent : Fe) : Fs := (ifS (andT (tstE (op2 notNonD (.pk 2) (.val (cE .non)))) (tstE (op2 (cmpI fun i j => decide (j < i)) (.val (callE F_l_law_of (some 0) [(.pk 0), (.val (cE (.int 3)))])) (.val (cE (.int 0))))))
  (seqS (S_l_law_bent_1a_1 F_l_law_bent) (seqS (S_l_law_bent_1a_2 F_l_law_bent) (seqS (S_l_law_bent_1a_3 F_l_law_bent) (S_l_law_bent_1a_4 F_l_law_bent))))
  nilS)
def S_l_law_bent_2 (F_l_law_bent : Fe) : Fs := (ifS (tstE (op2 isNonD (.pk 2) (.val (cE .non))))
  (retS (callE F_l_law_one (some 0) [(.pk 0), (.val (opC lstC [(.val (opC tupC [])), (.val (opC lstC [])), (.val (cE (.int 0))), (.val (cE (.bl false))), (.val (opC tupC [(.val (cE .non)), (.val (cE (.int 1))), (.val (cE .non)), (.val (cE (.int 1))), (.val (cE (.int 1)))])), (.val (opC tupC [(.val (cE .non)), (.val (cE .non)), (.val (cE .non)), (.val (cE (.int 1))), (.pk 1)])), (.val (cE (.str "x"))), (.val (opC tupC [(.val (cE .non)), (.val (op1 negD (.val (cE (.int 1))))), (.val (cE .non)), (.val (cE (.int 1))), (.val (op1 negD (.val (cE (.int 1)))))]))]))]))
  nilS)
def S_l_law_bent_3 (F_l_law_bent : Fe) : Fs := (unS [6, 7, 8, 9, 10] (varE 2))
def S_l_law_bent_4 (F_l_law_bent : Fe) : Fs := (asgZ 11 (opC lstC [(.val (opC tupC [(.pk 6), (.pk 7), (.pk 8), (.val (op2 addD (.pk 9) (.val (cE (.int 1))))), (.pk 10)])), (.val (opC tupC [(.pk 6), (.pk 7), (.pk 8), (.pk 9), (.val (op2 addD (.pk 10) (.val (cE (.int 1)))))])), (.val (opC tupC [(.pk 6), (.pk 7), (.pk 8), (.val (cE (.bl true))), (.pk 10)])), (.val (opC tupC [(.pk 6), (.val (cE (.bl true))), (.pk 8), (.pk 9), (.pk 10)]))]))
def S_l_law_bent_5 (F_l_law_bent : Fe) : Fs := (asgZ 11 (op2 addD (.pk 11) (.val (opC lstC [(.val (opC tupC [(.pk 6), (.val (op1 negD (.val (cE (.int 1))))), (.pk 8), (.pk 9), (.val (op2 subD (.val (op2 subD (.pk 10) (.val (ifE (tstE (op2 isNonD (.pk 7) (.val (cE .non)))) (varE 1) (varE 7))))) (.val (cE (.int 1)))))])), (.val (opC tupC [(.pk 6), (.pk 7), (.pk 8), (.pk 9)])), (.val (op2 addD (.pk 2) (.val (opC tupC [(.val (cE (.int 0)))])))), (.val (opN listD [(.pk 2)])), (.val (opC tupC [(.pk 8), (.pk 7), (.pk 6), (.pk 9), (.pk 10)]))]))))
def S_l_law_bent_6 (F_l_law_bent : Fe) : Fs := (asgZ 11 (op2 addD (.pk 11) (.val (opC lstC [(.val (opC tupC [(.pk 6), (.val (cE .non)), (.pk 8), (.pk 9), (.pk 10)])), (.val (opC tupC [(.pk 6), (.pk 1), (.pk 8), (.pk 9), (.pk 10)])), (.val (opC tupC [(.pk 6), (.val (cE (.str "1"))), (.pk 8), (.pk 9), (.pk 10)])), (.val (callE F_l_law_numbered none [(.pk 1), (.val (callE F_l_law_chain none [(.pk 1), (.val (cE (.int 3)))])), (.pk 7), (.val (cE .non))]))]))))
def S_l_law_bent_7 (F_l_law_bent : Fe) : Fs := (retS (callE F_l_law_one (some 0) [(.pk 0), (.val (op2 addD (.pk 11) (.val (opC lstC [(.val (cE .non)), (.val (opC tupC [(.pk 6), (.pk 7), (.pk 8), (.pk 9), (.val (cE .non))])), (.val (opC tupC [(.pk 6), (.pk 7), (.pk 8), (.val (opN strD [(.pk 9)])), (.pk 10)]))]))))]))
def B_l_law_bent (F_l_law_bent : Fe) : Fs := (seqS (S_l_law_bent_1 F_l_law_bent) (seqS (S_l_law_bent_2 F_l_law_bent) (seqS (S_l_law_bent_3 F_l_law_bent) (seqS (S_l_law_bent_4 F_l_law_bent) (seqS (S_l_law_bent_5 F_l_law_bent) (seqS (S_l_law_bent_6 F_l_law_bent) (S_l_law_bent_7 F_l_law_bent)))))))
def F_l_law_bent : Nat → Fe
  | 0 => fun _ => .st
  | n + 1 => bodyF [0] 9 (B_l_law_bent (F_l_law_bent n))
theorem E_l_law_bent (n : Nat) : F_l_law_bent (n + 1) = bodyF [0] 9 (B_l_law_bent (F_l_law_bent n)) := rfl
theorem ok_l_law_bent {P : Program} {w : World} {K : PySem.W.Frag} {mg : Str → Option Value} {base : Heap} (T : Txt K mg) : ∀ n : Nat, FnV P w K mg base (2 + n) T.l_law_bent.f T.l_law_bent.fd ["urn", "guess", "tree"] (F_l_law_bent n)
  | 0 => fn_st
  | n + 1 => by
    have ih := ok_l_law_bent (P := P) (w := w) (base := base) T n
    exact fn_mk T.l_law_bent.F sc_l_law_bent rfl fun cdv A outer s H E hr =>
    (b_cons (s_if (t_w (w_and (t_cmp op_notNonD (v_pk 2 (pv 2)) (v_val v_none)) (w_and1 (t_cmp op_gtD (v_val (v_call (some 0) (FnOk.mono (k := 2 + n) (ok_l_law_of T) (Nat.le_trans (m := 2) (by decide) (Nat.le_add_right _ _))) hr (by rfl) T.l_law_of.g T.l_law_of.F.kp T.l_law_of.b (takes_of rfl rfl rfl rfl) (va_cons (v_pk 0 (pv 0)) (va_cons (v_val v_int) va_nil)))) (v_val v_int)))))
    (b_cons (s_setZ (i := 3) sc_l_law_bent.nd rfl (.inl rfl) (by rfl) (v_bin op_mulD (v_val v_int) (v_val (v_call (some 0) (FnOk.mono (k := 2 + n) (ok_l_law_of T) (Nat.le_trans (m := 2) (by decide) (Nat.le_add_right _ _))) hr (by rfl) T.l_law_of.g T.l_law_of.F.kp T.l_law_of.b (takes_of rfl rfl rfl rfl) (va_cons (v_pk 0 (pv 0)) (va_cons (v_val v_int) va_nil))))))
    (b_cons (s_setZ (i := 4) sc_l_law_bent.nd rfl (.inl rfl) (by rfl) (v_call (some 0) ih hr (by rfl) T.l_law_bent.g T.l_law_bent.F.kp T.l_law_bent.b (takes_of rfl rfl rfl rfl) (va_cons (v_pk 0 (pv 0)) (va_cons (v_pk 1 (pv 1)) (va_cons (v_val (v_ix (v_pk 2 (pv 2)) (v_pk 3 (pv 3)))) va_nil)))))
    (b_cons (s_setZ (i := 5) sc_l_law_bent.nd rfl (.inl rfl) (by rfl) (v_bin op_addD (v_val (v_bin op_addD (v_val (v_sl2 (v_pk 2 (pv 2)) (v_pk 3 (pv 3)))) (v_val (v_tup (va_cons (v_pk 4 (pv 4)) va_nil))))) (v_val (v_sl1 (v_pk 2 (pv 2)) (v_val (v_bin op_addD (v_pk 3 (pv 3)) (v_val v_int)))))))
    (b_one (s_ret (v_var 5 (pv 5)))))))
    b_nil)
    (b_cons (s_if (t_cmp op_isNonD (v_pk 2 (pv 2)) (v_val v_none))
    (b_one (s_ret (v_call (some 0) (FnOk.mono (k := 2 + n) (ok_l_law_one T) (Nat.le_trans (m := 2) (by decide) (Nat.le_add_right _ _))) hr (by rfl) T.l_law_one.g T.l_law_one.F.kp T.l_law_one.b (takes_of rfl rfl rfl rfl) (va_cons (v_pk 0 (pv 0)) (va_cons (v_val (v_lst (va_cons (v_val (v_tup (va_nil))) (va_cons (v_val (v_lst (va_nil))) (va_cons (v_val v_int) (va_cons (v_val v_bool) (va_cons (v_val (v_tup (va_cons (v_val v_none) (va_cons (v_val v_int) (va_cons (v_val v_none) (va_cons (v_val v_int) (va_cons (v_val v_int) va_nil))))))) (va_cons (v_val (v_tup (va_cons (v_val v_none) (va_cons (v_val v_none) (va_cons (v_val v_none) (va_cons (v_val v_int) (va_cons (v_pk 1 (pv 1)) va_nil))))))) (va_cons (v_val v_str) (va_cons (v_val (v_tup (va_cons (v_val v_none) (va_cons (v_val (v_un un_negD (v_val v_int))) (va_cons (v_val v_none) (va_cons (v_val v_int) (va_cons (v_val (v_un un_negD (v_val v_int))) va_nil))))))) va_nil)))))))))) va_nil)))))
    b_nil)
    (b_cons (s_unpack (v_var 2 (pv 2)) (g_tup (by rfl) (gs_cons (pg_name (i := 6) sc_l_law_bent.nd rfl (by first | exact .inl rfl | exact .inr rfl)) (by rfl) (gs_cons (pg_name (i := 7) sc_l_law_bent.nd rfl (by first | exact .inl rfl | exact .inr rfl)) (by rfl) (gs_cons (pg_name (i := 8) sc_l_law_bent.nd rfl (by first | exact .inl rfl | exact .inr rfl)) (by rfl) (gs_cons (pg_name (i := 9) sc_l_law_bent.nd rfl (by first | exact .inl rfl | exact .inr rfl)) (by rfl) (gs_cons (pg_name (i := 10) sc_l_law_bent.nd rfl (by first | exact .inl rfl | exact .inr rfl)) (by rfl) gs_nil)))))))
    (b_cons (s_setZ (i := 11) sc_l_law_bent.nd rfl (.inl rfl) (by rfl) (v_lst (va_cons (v_val (v_tup (va_cons (v_pk 6 (pv 6)) (va_cons (v_pk 7 (pv 7)) (va_cons (v_pk 8 (pv 8)) (va_cons (v_val (v_bin op_addD (v_pk 9 (pv 9)) (v_val v_int))) (va_cons (v_pk 10 (pv 10)) va_nil))))))) (va_cons (v_val (v_tup (va_cons (v_pk 6 (pv 6)) (va_cons (v_pk 7 (pv 7)) (va_cons (v_pk 8 (pv 8)) (va_cons (v_pk 9 (pv 9)) (va_cons (v_val (v_bin op_addD (v_pk 10 (pv 10)) (v_val v_int))) va_nil))))))) (va_cons (v_val (v_tup (va_cons (v_pk 6 (pv 6)) (va_cons (v_pk 7 (pv 7)) (va_cons (v_pk 8 (pv 8)) (va_cons (v_val v_bool) (va_cons (v_pk 10 (pv 10)) va_nil))))))) (va_cons (v_val (v_tup (va_cons (v_pk 6 (pv 6)) (va_cons (v_val v_bool) (va_cons (v_pk 8 (pv 8)) (va_cons (v_pk 9 (pv 9)) (va_cons (v_pk 10 (pv 10)) va_nil))))))) va_nil))))))
    (b_cons (s_setZ (i := 11) sc_l_law_bent.nd rfl (.inl rfl) (by rfl) (v_bin op_addD (v_pk 11 (pv 11)) (v_val (v_lst (va_cons (v_val (v_tup (va_cons (v_pk 6 (pv 6)) (va_cons (v_val (v_un un_negD (v_val v_int))) (va_cons (v_pk 8 (pv 8)) (va_cons (v_pk 9 (pv 9)) (va_cons (v_val (v_bin op_subD (v_val (v_bin op_subD (v_pk 10 (pv 10)) (v_val (v_if (t_cmp op_isNonD (v_pk 7 (pv 7)) (v_val v_none)) (v_var 1 (pv 1)) (v_var 7 (pv 7)))))) (v_val v_int))) va_nil))))))) (va_cons (v_val (v_tup (va_cons (v_pk 6 (pv 6)) (va_cons (v_pk 7 (pv 7)) (va_cons (v_pk 8 (pv 8)) (va_cons (v_pk 9 (pv 9)) va_nil)))))) (va_cons (v_val (v_bin op_addD (v_pk 2 (pv 2)) (v_val (v_tup (va_cons (v_val v_int) va_nil))))) (va_cons (v_val (v_callTy cr_list (by rfl) T.n_list (by decide +kernel) (va_cons (v_pk 2 (pv 2)) va_nil))) (va_cons (v_val (v_tup (va_cons (v_pk 8 (pv 8)) (va_cons (v_pk 7 (pv 7)) (va_cons (v_pk 6 (pv 6)) (va_cons (v_pk 9 (pv 9)) (va_cons (v_pk 10 (pv 10)) va_nil))))))) va_nil)))))))))
    (b_cons (s_setZ (i := 11) sc_l_law_bent.nd rfl (.inl rfl) (by rfl) (v_bin op_addD (v_pk 11 (pv 11)) (v_val (v_lst (va_cons (v_val (v_tup (va_cons (v_pk 6 (pv 6)) (va_cons (v_val v_none) (va_cons (v_pk 8 (pv 8)) (va_cons (v_pk 9 (pv 9)) (va_cons (v_pk 10 (pv 10)) va_nil))))))) (va_cons (v_val (v_tup (va_cons (v_pk 6 (pv 6)) (va_cons (v_pk 1 (pv 1)) (va_cons (v_pk 8 (pv 8)) (va_cons (v_pk 9 (pv 9)) (va_cons (v_pk 10 (pv 10)) va_nil))))))) (va_cons (v_val (v_tup (va_cons (v_pk 6 (pv 6)) (va_cons (v_val v_str) (va_cons (v_pk 8 (pv 8)) (va_cons (v_pk 9 (pv 9)) (va_cons (v_pk 10 (pv 10)) va_nil))))))) (va_cons (v_val (v_call none (FnOk.mono (k := 2 + n) (ok_l_law_numbered T) (Nat.le_trans (m := 2) (by decide) (Nat.le_add_right _ _))) hr (by rfl) T.l_law_numbered.g T.l_law_numbered.F.kp T.l_law_numbered.b (takes_of rfl rfl rfl rfl) (va_cons (v_pk 1 (pv 1)) (va_cons (v_val (v_call none (FnOk.mono (k := 2 + n) (ok_l_law_chain T) (Nat.le_trans (m := 2) (by decide) (Nat.le_add_right _ _))) hr (by rfl) T.l_law_chain.g T.l_law_chain.F.kp T.l_law_chain.b (takes_of rfl rfl rfl rfl) (va_cons (v_pk 1 (pv 1)) (va_cons (v_val v_int) va_nil)))) (va_cons (v_pk 7 (pv 7)) (va_cons (v_val v_none) va_nil)))))) va_nil))))))))
    (b_one (s_ret (v_call (some 0) (FnOk.mono (k := 2 + n) (ok_l_law_one T) (Nat.le_trans (m := 2) (by decide) (Nat.le_add_right _ _))) hr (by rfl) T.l_law_one.g T.l_law_one.F.kp T.l_law_one.b (takes_of rfl rfl rfl rfl) (va_cons (v_pk 0 (pv 0)) (va_cons (v_val (v_bin op_addD (v_pk 11 (pv 11)) (v_val (v_lst (va_cons (v_val v_none) (va_cons (v_val (v_tup (va_cons (v_pk 6 (pv 6)) (va_cons (v_pk 7 (pv 7)) (va_cons (v_pk 8 (pv 8)) (va_cons (v_pk 9 (pv 9)) (va_cons (v_val v_none) va_nil))))))) (va_cons (v_val (v_tup (va_cons (v_pk 6 (pv 6)) (va_cons (v_pk 7 (pv 7)) (va_cons (v_pk 8 (pv 8)) (va_cons (v_val (v_callTy cr_str (by rfl) T.n_str (by decide +kernel) (va_cons (v_pk 9 (pv 9)) va_nil))) (va_cons (v_pk 10 (pv 10)) va_nil))))))) va_nil))))))) va_nil)))))))))))

def B_l_law_is_whole : Fs := (retS (andE (opN isiD [(.pk 0), (.val (cE (.ty "int")))]) (notE (opN isiD [(.pk 0), (.val (cE (.ty "bool")))]))))
def F_l_law_is_whole : Fe := bodyF [] 0 B_l_law_is_whole
theorem ok_l_law_is_whole {P : Program} {w : World} {K : PySem.W.Frag} {mg : Str → Option Value} {base : Heap} (T : Txt K mg) : FnV P w K mg base 1 T.l_law_is_whole.f T.l_law_is_whole.fd ["value"] F_l_law_is_whole :=
  fn_mk T.l_law_is_whole.F sc_l_law_is_whole rfl fun cdv A outer s H E hr =>
    (b_one (s_ret (v_and (v_callB cr_isi (by rfl) T.n_isinstance (by decide +kernel) (va_cons (v_pk 0 (pv 0)) (va_cons (v_val (v_type (by rfl) T.n_int (by decide +kernel))) va_nil))) (v_one (v_not (v_callB cr_isi (by rfl) T.n_isinstance (by decide +kernel) (va_cons (v_pk 0 (pv 0)) (va_cons (v_val (v_type (by rfl) T.n_bool (by decide +kernel))) va_nil))))))))
def S_l_law_judged_1 (F_l_law_judged : Fe) : Fs := (ifS (tstE (op2 isNonD (.pk 1) (.val (cE .non))))
  (retS (opC tupC [(.val (cE (.int 0))), (.val (cE (.int 0))), (.val (cE (.int 0)))]))
  nilS)
def S_l_law_judged_2 (F_l_law_judged : Fe) : Fs := (ifS (orT (notT (tstE (opN isiD [(.pk 1), (.val (cE (.ty "tuple")))]))) (orT (tstE (op2 neD (.val (opN lenD [(.pk 1)])) (.val (cE (.int 5))))) (orT (notT (tstE (callE F_l_law_is_whole none [(.val (op2 ixD (.pk 1) (.val (cE (.int 3)))))]))) (notT (tstE (callE F_l_law_is_whole none [(.val (op2 ixD (.pk 1) (.val (cE (.int 4)))))]))))))
  (retS (cE .non))
  nilS)
def S_l_law_judged_3 (F_l_law_judged : Fe) : Fs := (ifS (andT (tstE (op2 notNonD (.val (op2 ixD (.pk 1) (.val (cE (.int 1))))) (.val (cE .non)))) (orT (notT (tstE (callE F_l_law_is_whole none [(.val (op2 ixD (.pk 1) (.val (cE (.int 1)))))]))) (tstE (op2 ltD (.val (op2 ixD (.pk 1) (.val (cE (.int 1))))) (.val (cE (.int 0)))))))
  (retS (cE .non))
  nilS)
def S_l_law_judged_4 (F_l_law_judged : Fe) : Fs := (parS 2 3 true true (callE F_l_law_judged none [(.pk 0), (.val (op2 ixD (.pk 1) (.val (cE (.int 0)))))]) (callE F_l_law_judged none [(.pk 0), (.val (op2 ixD (.pk 1) (.val (cE (.int 2)))))]))
def S_l_law_judged_5 (F_l_law_judged : Fe) : Fs := (ifS (orT (tstE (op2 isNonD (.pk 2) (.val (cE .non)))) (orT (tstE (op2 isNonD (.pk 3) (.val (cE .non)))) (tstE (op2 (cmpI fun i j => decide (j < i)) (.val (opN absD [(.val (op2 subD (.val (op2 ixD (.pk 2) (.val (cE (.int 0))))) (.val (op2 ixD (.pk 3) (.val (cE (.int 0)))))))])) (.val (cE (.int 1)))))))
  (retS (cE .non))
  nilS)
def S_l_law_judged_6 (F_l_law_judged : Fe) : Fs := (parS 4 5 true true (op2 addD (.val (op2 addD (.val (op2 ixD (.pk 2) (.val (cE (.int 1))))) (.val (op2 ixD (.pk 3) (.val (cE (.int 1))))))) (.val (cE (.int 1)))) (op2 addD (.val (op2 addD (.val (op2 ixD (.pk 2) (.val (cE (.int 2))))) (.val (op2 ixD (.pk 3) (.val (cE (.int 2))))))) (.val (ifE (tstE (op2 isNonD (.val (op2 ixD (.pk 1) (.val (cE (.int 1))))) (.val (cE .non)))) (varE 0) (op2 ixD (.pk 1) (.val (cE (.int 1))))))))
def S_l_law_judged_7 (F_l_law_judged : Fe) : Fs := (retS (ifE (tstE (op2 eqD (.val (opC tupC [(.val (op2 ixD (.pk 1) (.val (cE (.int 3))))), (.val (op2 ixD (.pk 1) (.val (cE (.int 4)))))])) (.val (opC tupC [(.pk 4), (.pk 5)])))) (opC tupC [(.val (op2 addD (.val (cE (.int 1))) (.val (opN maxD [(.val (op2 ixD (.pk 2) (.val (cE (.int 0))))), (.val (op2 ixD (.pk 3) (.val (cE (.int 0)))))])))), (.pk 4), (.pk 5)]) (cE .non)))
def B_l_law_judged (F_l_law_judged : Fe) : Fs := (seqS (S_l_law_judged_1 F_l_law_judged) (seqS (S_l_law_judged_2 F_l_law_judged) (seqS (S_l_law_judged_3 F_l_law_judged) (seqS (S_l_law_judged_4 F_l_law_judged) (seqS (S_l_law_judged_5 F_l_law_judged) (seqS (S_l_law_judged_6 F_l_law_judged) (S_l_law_judged_7 F_l_law_judged)))))))
def F_l_law_judged : Nat → Fe
  | 0 => fun _ => .st
  | n + 1 => bodyF [] 4 (B_l_law_judged (F_l_law_judged n))
theorem E_l_law_judged (n : Nat) : F_l_law_judged (n + 1) = bodyF [] 4 (B_l_law_judged (F_l_law_judged n)) := rfl
theorem ok_l_law_judged {P : Program} {w : World} {K : PySem.W.Frag} {mg : Str → Option Value} {base : Heap} (T : Txt K mg) : ∀ n : Nat, FnV P w K mg base (1 + n) T.l_law_judged.f T.l_law_judged.fd ["guess", "tree"] (F_l_law_judged n)
  | 0 => fn_st
  | n + 1 => by
    have ih := ok_l_law_judged (P := P) (w := w) (base := base) T n
    exact fn_mk T.l_law_judged.F sc_l_law_judged rfl fun cdv A outer s H E hr =>
    (b_cons (s_if (t_cmp op_isNonD (v_pk 1 (pv 1)) (v_val v_none))
    (b_one (s_ret (v_tup (va_cons (v_val v_int) (va_cons (v_val v_int) (va_cons (v_val v_int) va_nil))))))
    b_nil)
    (b_cons (s_if (t_w (w_or (t_not (t_val (v_callB cr_isi (by rfl) T.n_isinstance (by decide +kernel) (va_cons (v_pk 1 (pv 1)) (va_cons (v_val (v_type (by rfl) T.n_tuple (by decide +kernel))) va_nil))))) (w_or (t_cmp (op_neDD hr.units) (v_val (v_callB cr_len (by rfl) T.n_len PySem.boot_len (va_cons (v_pk 1 (pv 1)) va_nil))) (v_val v_int)) (w_or (t_not (t_val (v_call none (FnOk.mono (k := 1 + n) (ok_l_law_is_whole T) (Nat.le_trans (m := 1) (by decide) (Nat.le_add_right _ _))) hr (by rfl) T.l_law_is_whole.g T.l_law_is_whole.F.kp T.l_law_is_whole.b (takes_of rfl rfl rfl rfl) (va_cons (v_val (v_ix (v_pk 1 (pv 1)) (v_val v_int))) va_nil)))) (w_or1 (t_not (t_val (v_call none (FnOk.mono (k := 1 + n) (ok_l_law_is_whole T) (Nat.le_trans (m := 1) (by decide) (Nat.le_add_right _ _))) hr (by rfl) T.l_law_is_whole.g T.l_law_is_whole.F.kp T.l_law_is_whole.b (takes_of rfl rfl rfl rfl) (va_cons (v_val (v_ix (v_pk 1 (pv 1)) (v_val v_int))) va_nil)))))))))
    (b_one (s_ret v_none))
    b_nil)
    (b_cons (s_if (t_w (w_and (t_cmp op_notNonD (v_val (v_ix (v_pk 1 (pv 1)) (v_val v_int))) (v_val v_none)) (w_and1 (t_w (w_or (t_not (t_val (v_call none (FnOk.mono (k := 1 + n) (ok_l_law_is_whole T) (Nat.le_trans (m := 1) (by decide) (Nat.le_add_right _ _))) hr (by rfl) T.l_law_is_whole.g T.l_law_is_whole.F.kp T.l_law_is_whole.b (takes_of rfl rfl rfl rfl) (va_cons (v_val (v_ix (v_pk 1 (pv 1)) (v_val v_int))) va_nil)))) (w_or1 (t_cmp op_ltD (v_val (v_ix (v_pk 1 (pv 1)) (v_val v_int))) (v_val v_int))))))))
    (b_one (s_ret v_none))
    b_nil)
    (b_cons (s_par (i := 2) (j := 3) (zi := true) (zj := true) (by rfl) sc_l_law_judged.nd rfl rfl (by decide) rfl rfl (by rfl) (by rfl) (v_call none ih hr (by rfl) T.l_law_judged.g T.l_law_judged.F.kp T.l_law_judged.b (takes_of rfl rfl rfl rfl) (va_cons (v_pk 0 (pv 0)) (va_cons (v_val (v_ix (v_pk 1 (pv 1)) (v_val v_int))) va_nil))) (v_call none ih hr (by rfl) T.l_law_judged.g T.l_law_judged.F.kp T.l_law_judged.b (takes_of rfl rfl rfl rfl) (va_cons (v_pk 0 (pv 0)) (va_cons (v_val (v_ix (v_pk 1 (pv 1)) (v_val v_int))) va_nil))) (by rfl))
    (b_cons (s_if (t_w (w_or (t_cmp op_isNonD (v_pk 2 (pv 2)) (v_val v_none)) (w_or (t_cmp op_isNonD (v_pk 3 (pv 3)) (v_val v_none)) (w_or1 (t_cmp op_gtD (v_val (v_callB cr_abs (by rfl) T.n_abs (by decide +kernel) (va_cons (v_val (v_bin op_subD (v_val (v_ix (v_pk 2 (pv 2)) (v_val v_int))) (v_val (v_ix (v_pk 3 (pv 3)) (v_val v_int))))) va_nil))) (v_val v_int))))))
    (b_one (s_ret v_none))
    b_nil)
    (b_cons (s_par (i := 4) (j := 5) (zi := true) (zj := true) (by rfl) sc_l_law_judged.nd rfl rfl (by decide) rfl rfl (by rfl) (by rfl) (v_bin op_addD (v_val (v_bin op_addD (v_val (v_ix (v_pk 2 (pv 2)) (v_val v_int))) (v_val (v_ix (v_pk 3 (pv 3)) (v_val v_int))))) (v_val v_int)) (v_bin op_addD (v_val (v_bin op_addD (v_val (v_ix (v_pk 2 (pv 2)) (v_val v_int))) (v_val (v_ix (v_pk 3 (pv 3)) (v_val v_int))))) (v_val (v_if (t_cmp op_isNonD (v_val (v_ix (v_pk 1 (pv 1)) (v_val v_int))) (v_val v_none)) (v_var 0 (pv 0)) (v_ix (v_pk 1 (pv 1)) (v_val v_int))))) (by rfl))
    (b_one (s_ret (v_if (t_cmp (op_eqDD hr.units) (v_val (v_tup (va_cons (v_val (v_ix (v_pk 1 (pv 1)) (v_val v_int))) (va_cons (v_val (v_ix (v_pk 1 (pv 1)) (v_val v_int))) va_nil)))) (v_val (v_tup (va_cons (v_pk 4 (pv 4)) (va_cons (v_pk 5 (pv 5)) va_nil))))) (v_tup (va_cons (v_val (v_bin op_addD (v_val v_int) (v_val (v_callB (cr_maxD rfl) (by rfl) T.n_max (by decide +kernel) (va_cons (v_val (v_ix (v_pk 2 (pv 2)) (v_val v_int))) (va_cons (v_val (v_ix (v_pk 3 (pv 3)) (v_val v_int))) va_nil)))))) (va_cons (v_pk 4 (pv 4)) (va_cons (v_pk 5 (pv 5)) va_nil)))) v_none)))))))))

def B_is_integer : Fs := (retS (andE (opN isiD [(.pk 0), (.val (cE (.ty "int")))]) (notE (opN isiD [(.pk 0), (.val (cE (.ty "bool")))]))))
def F_is_integer : Fe := bodyF [] 0 B_is_integer
theorem ok_is_integer {P : Program} {w : World} {K : PySem.W.Frag} {mg : Str → Option Value} {base : Heap} (T : Txt K mg) : FnV P w K mg base 1 T.is_integer.f T.is_integer.fd ["value"] F_is_integer :=
  fn_mk T.is_integer.F sc_is_integer rfl fun cdv A outer s H E hr =>
    (b_one (s_ret (v_and (v_callB cr_isi (by rfl) T.n_isinstance (by decide +kernel) (va_cons (v_pk 0 (pv 0)) (va_cons (v_val (v_type (by rfl) T.n_int (by decide +kernel))) va_nil))) (v_one (v_not (v_callB cr_isi (by rfl) T.n_isinstance (by decide +kernel) (va_cons (v_pk 0 (pv 0)) (va_cons (v_val (v_type (by rfl) T.n_bool (by decide +kernel))) va_nil))))))))

def B_counted : Fs := (retS (ifE (tstE (op2 isNonD (.pk 0) (.val (cE .non)))) (varE 1) (varE 0)))
def F_counted : Fe := bodyF [] 0 B_counted
theorem ok_counted {P : Program} {w : World} {K : PySem.W.Frag} {mg : Str → Option Value} {base : Heap} (T : Txt K mg) : FnV P w K mg base 1 T.counted.f T.counted.fd ["height", "guess"] F_counted :=
  fn_mk T.counted.F sc_counted rfl fun cdv A outer s H E hr =>
    (b_one (s_ret (v_if (t_cmp op_isNonD (v_pk 0 (pv 0)) (v_val v_none)) (v_var 1 (pv 1)) (v_var 0 (pv 0)))))
def S_measured_1 (F_measured : Fe) : Fs := (ifS (tstE (op2 isNonD (.pk 1) (.val (cE .non))))
  (retS (opC tupC [(.val (cE (.int 0))), (.val (cE (.int 0))), (.val (cE (.int 0)))]))
  nilS)
def S_measured_2 (F_measured : Fe) : Fs := (ifS (orT (notT (tstE (opN isiD [(.pk 1), (.val (cE (.ty "tuple")))]))) (tstE (op2 neD (.val (opN lenD [(.pk 1)])) (.val (cE (.int 5))))))
  (retS (cE .non))
  nilS)
def S_measured_3 (F_measured : Fe) : Fs := (unS [2, 3, 4, 5, 6] (varE 1))
def S_measured_4 (F_measured : Fe) : Fs := (ifS (andT (tstE (op2 notNonD (.pk 3) (.val (cE .non)))) (orT (notT (tstE (callE F_is_integer none [(.pk 3)]))) (tstE (op2 ltD (.pk 3) (.val (cE (.int 0)))))))
  (retS (cE .non))
  nilS)
def S_measured_5 (F_measured : Fe) : Fs := (asgZ 7 (callE F_measured none [(.pk 0), (.pk 2)]))
def S_measured_6 (F_measured : Fe) : Fs := (asgZ 8 (ifE (tstE (op2 isNonD (.pk 7) (.val (cE .non)))) (cE .non) (callE F_measured none [(.pk 0), (.pk 4)])))
def S_measured_7 (F_measured : Fe) : Fs := (ifS (orT (tstE (op2 isNonD (.pk 8) (.val (cE .non)))) (orT (tstE (op2 (cmpI fun i j => decide (j < i)) (.val (opN absD [(.val (op2 subD (.val (op2 ixD (.pk 7) (.val (cE (.int 2))))) (.val (op2 ixD (.pk 8) (.val (cE (.int 2)))))))])) (.val (cE (.int 1))))) (orT (notT (tstE (callE F_is_integer none [(.pk 5)]))) (notT (tstE (callE F_is_integer none [(.pk 6)]))))))
  (retS (cE .non))
  nilS)
def S_measured_8 (F_measured : Fe) : Fs := (ifS (orT (tstE (op2 neD (.pk 5) (.val (op2 addD (.val (op2 addD (.val (op2 ixD (.pk 7) (.val (cE (.int 0))))) (.val (cE (.int 1))))) (.val (op2 ixD (.pk 8) (.val (cE (.int 0))))))))) (tstE (op2 neD (.pk 6) (.val (op2 addD (.val (op2 addD (.val (op2 ixD (.pk 7) (.val (cE (.int 1))))) (.val (callE F_counted none [(.pk 3), (.pk 0)])))) (.val (op2 ixD (.pk 8) (.val (cE (.int 1))))))))))
  (retS (cE .non))
  nilS)
def S_measured_9 (F_measured : Fe) : Fs := (retS (opC tupC [(.pk 5), (.pk 6), (.val (op2 addD (.val (cE (.int 1))) (.val (opN maxD [(.val (op2 ixD (.pk 7) (.val (cE (.int 2))))), (.val (op2 ixD (.pk 8) (.val (cE (.int 2)))))]))))]))
def B_measured (F_measured : Fe) : Fs := (seqS (S_measured_1 F_measured) (seqS (S_measured_2 F_measured) (seqS (S_measured_3 F_measured) (seqS (S_measured_4 F_measured) (seqS (S_measured_5 F_measured) (seqS (S_measured_6 F_measured) (seqS (S_measured_7 F_measured) (seqS (S_measured_8 F_measured) (S_measured_9 F_measured)))))))))
def F_measured : Nat → Fe
  | 0 => fun _ => .st
  | n + 1 => bodyF [] 7 (B_measured (F_measured n))
theorem E_measured (n : Nat) : F_measured (n + 1) = bodyF [] 7 (B_measured (F_measured n)) := rfl
theorem ok_measured {P : Program} {w : World} {K : PySem.W.Frag} {mg : Str → Option Value} {base : Heap} (T : Txt K mg) : ∀ n : Nat, FnV P w K mg base (1 + n) T.measured.f T.measured.fd ["guess", "tree"] (F_measured n)
  | 0 => fn_st
  | n + 1 => by
    have ih := ok_measured (P := P) (w := w) (base := base) T n
    exact fn_mk T.measured.F sc_measured rfl fun cdv A outer s H E hr =>
    (b_cons (s_if (t_cmp op_isNonD (v_pk 1 (pv 1)) (v_val v_none))
    (b_one (s_ret (v_tup (va_cons (v_val v_int) (va_cons (v_val v_int) (va_cons (v_val v_int) va_nil))))))
    b_nil)
    (b_cons (s_if (t_w (w_or (t_not (t_val (v_callB cr_isi (by rfl) T.n_isinstance (by decide +kernel) (va_cons (v_pk 1 (pv 1)) (va_cons (v_val (v_type (by rfl) T.n_tuple (by decide +kernel))) va_nil))))) (w_or1 (t_cmp (op_neDD hr.units) (v_val (v_callB cr_len (by rfl) T.n_len PySem.boot_len (va_cons (v_pk 1 (pv 1)) va_nil))) (v_val v_int)))))
    (b_one (s_ret v_none))
    b_nil)
    (b_cons (s_unpack (v_var 1 (pv 1)) (g_tup (by rfl) (gs_cons (pg_name (i := 2) sc_measured.nd rfl (by first | exact .inl rfl | exact .inr rfl)) (by rfl) (gs_cons (pg_name (i := 3) sc_measured.nd rfl (by first | exact .inl rfl | exact .inr rfl)) (by rfl) (gs_cons (pg_name (i := 4) sc_measured.nd rfl (by first | exact .inl rfl | exact .inr rfl)) (by rfl) (gs_cons (pg_name (i := 5) sc_measured.nd rfl (by first | exact .inl rfl | exact .inr rfl)) (by rfl) (gs_cons (pg_name (i := 6) sc_measured.nd rfl (by first | exact .inl rfl | exact .inr rfl)) (by rfl) gs_nil)))))))
    (b_cons (s_if (t_w (w_and (t_cmp op_notNonD (v_pk 3 (pv 3)) (v_val v_none)) (w_and1 (t_w (w_or (t_not (t_val (v_call none (FnOk.mono (k := 1 + n) (ok_is_integer T) (Nat.le_trans (m := 1) (by decide) (Nat.le_add_right _ _))) hr (by rfl) T.is_integer.g T.is_integer.F.kp T.is_integer.b (takes_of rfl rfl rfl rfl) (va_cons (v_pk 3 (pv 3)) va_nil)))) (w_or1 (t_cmp op_ltD (v_pk 3 (pv 3)) (v_val v_int))))))))
    (b_one (s_ret v_none))
    b_nil)
    (b_cons (s_setZ (i := 7) sc_measured.nd rfl (.inl rfl) (by rfl) (v_call none ih hr (by rfl) T.measured.g T.measured.F.kp T.measured.b (takes_of rfl rfl rfl rfl) (va_cons (v_pk 0 (pv 0)) (va_cons (v_pk 2 (pv 2)) va_nil))))
    (b_cons (s_setZ (i := 8) sc_measured.nd rfl (.inl rfl) (by rfl) (v_if (t_cmp op_isNonD (v_pk 7 (pv 7)) (v_val v_none)) v_none (v_call none ih hr (by rfl) T.measured.g T.measured.F.kp T.measured.b (takes_of rfl rfl rfl rfl) (va_cons (v_pk 0 (pv 0)) (va_cons (v_pk 4 (pv 4)) va_nil)))))
    (b_cons (s_if (t_w (w_or (t_cmp op_isNonD (v_pk 8 (pv 8)) (v_val v_none)) (w_or (t_cmp op_gtD (v_val (v_callB cr_abs (by rfl) T.n_abs (by decide +kernel) (va_cons (v_val (v_bin op_subD (v_val (v_ix (v_pk 7 (pv 7)) (v_val v_int))) (v_val (v_ix (v_pk 8 (pv 8)) (v_val v_int))))) va_nil))) (v_val v_int)) (w_or (t_not (t_val (v_call none (FnOk.mono (k := 1 + n) (ok_is_integer T) (Nat.le_trans (m := 1) (by decide) (Nat.le_add_right _ _))) hr (by rfl) T.is_integer.g T.is_integer.F.kp T.is_integer.b (takes_of rfl rfl rfl rfl) (va_cons (v_pk 5 (pv 5)) va_nil)))) (w_or1 (t_not (t_val (v_call none (FnOk.mono (k := 1 + n) (ok_is_integer T) (Nat.le_trans (m := 1) (by decide) (Nat.le_add_right _ _))) hr (by rfl) T.is_integer.g T.is_integer.F.kp T.is_integer.b (takes_of rfl rfl rfl rfl) (va_cons (v_pk 6 (pv 6)) va_nil)))))))))
    (b_one (s_ret v_none))
    b_nil)
    (b_cons (s_if (t_w (w_or (t_cmp (op_neDD hr.units) (v_pk 5 (pv 5)) (v_val (v_bin op_addD (v_val (v_bin op_addD (v_val (v_ix (v_pk 7 (pv 7)) (v_val v_int))) (v_val v_int))) (v_val (v_ix (v_pk 8 (pv 8)) (v_val v_int)))))) (w_or1 (t_cmp (op_neDD hr.units) (v_pk 6 (pv 6)) (v_val (v_bin op_addD (v_val (v_bin op_addD (v_val (v_ix (v_pk 7 (pv 7)) (v_val v_int))) (v_val (v_call none (FnOk.mono (k := 1 + n) (ok_counted T) (Nat.le_trans (m := 1) (by decide) (Nat.le_add_right _ _))) hr (by rfl) T.counted.g T.counted.F.kp T.counted.b (takes_of rfl rfl rfl rfl) (va_cons (v_pk 3 (pv 3)) (va_cons (v_pk 0 (pv 0)) va_nil)))))) (v_val (v_ix (v_pk 8 (pv 8)) (v_val v_int)))))))))
    (b_one (s_ret v_none))
    b_nil)
    (b_one (s_ret (v_tup (va_cons (v_pk 5 (pv 5)) (va_cons (v_pk 6 (pv 6)) (va_cons (v_val (v_bin op_addD (v_val v_int) (v_val (v_callB (cr_maxD rfl) (by rfl) T.n_max (by decide +kernel) (va_cons (v_val (v_ix (v_pk 7 (pv 7)) (v_val v_int))) (va_cons (v_val (v_ix (v_pk 8 (pv 8)) (v_val v_int))) va_nil)))))) va_nil))))))))))))))

def B_tree_right : Fs := (retS (op2 notNonD (.val (callE (F_measured 100) none [(.pk 0), (.pk 1)])) (.val (cE .non))))
def F_tree_right : Fe := bodyF [] 0 B_tree_right
theorem ok_tree_right {P : Program} {w : World} {K : PySem.W.Frag} {mg : Str → Option Value} {base : Heap} (T : Txt K mg) : FnV P w K mg base 102 T.tree_right.f T.tree_right.fd ["guess", "tree"] F_tree_right :=
  fn_mk T.tree_right.F sc_tree_right rfl fun cdv A outer s H E hr =>
    (b_one (s_ret (v_cmp op_notNonD (v_val (v_call none (FnOk.mono (k := 101) (ok_measured T 100) (by decide)) hr (by rfl) T.measured.g T.measured.F.kp T.measured.b (takes_of rfl rfl rfl rfl) (va_cons (v_pk 0 (pv 0)) (va_cons (v_pk 1 (pv 1)) va_nil)))) (v_val v_none))))
def S_heights_of_1 (F_heights_of : Fe) : Fs := (ifS (tstE (op2 isNonD (.pk 0) (.val (cE .non))))
  (retS (opC lstC []))
  nilS)
def S_heights_of_2 (F_heights_of : Fe) : Fs := (retS (op2 addD (.val (op2 addD (.val (callE F_heights_of none [(.val (op2 ixD (.pk 0) (.val (cE (.int 0)))))])) (.val (opC lstC [(.val (op2 ixD (.pk 0) (.val (cE (.int 1)))))])))) (.val (callE F_heights_of none [(.val (op2 ixD (.pk 0) (.val (cE (.int 2)))))]))))
def B_heights_of (F_heights_of : Fe) : Fs := (seqS (S_heights_of_1 F_heights_of) (S_heights_of_2 F_heights_of))
def F_heights_of : Nat → Fe
  | 0 => fun _ => .st
  | n + 1 => bodyF [] 0 (B_heights_of (F_heights_of n))
theorem E_heights_of (n : Nat) : F_heights_of (n + 1) = bodyF [] 0 (B_heights_of (F_heights_of n)) := rfl
theorem ok_heights_of {P : Program} {w : World} {K : PySem.W.Frag} {mg : Str → Option Value} {base : Heap} (T : Txt K mg) : ∀ n : Nat, FnV P w K mg base (0 + n) T.heights_of.f T.heights_of.fd ["node"] (F_heights_of n)
  | 0 => fn_st
  | n + 1 => by
    have ih := ok_heights_of (P := P) (w := w) (base := base) T n
    exact fn_mk T.heights_of.F sc_heights_of rfl fun cdv A outer s H E hr =>
    (b_cons (s_if (t_cmp op_isNonD (v_pk 0 (pv 0)) (v_val v_none))
    (b_one (s_ret (v_lst (va_nil))))
    b_nil)
    (b_one (s_ret (v_bin op_addD (v_val (v_bin op_addD (v_val (v_call none ih hr (by rfl) T.heights_of.g T.heights_of.F.kp T.heights_of.b (takes_of rfl rfl rfl rfl) (va_cons (v_val (v_ix (v_pk 0 (pv 0)) (v_val v_int))) va_nil))) (v_val (v_lst (va_cons (v_val (v_ix (v_pk 0 (pv 0)) (v_val v_int))) va_nil))))) (v_val (v_call none ih hr (by rfl) T.heights_of.g T.heights_of.F.kp T.heights_of.b (takes_of rfl rfl rfl rfl) (va_cons (v_val (v_ix (v_pk 0 (pv 0)) (v_val v_int))) va_nil)))))))

def B_heights_in : Fs := (retS (callE (F_heights_of 70) none [(.pk 0)]))
def F_heights_in : Fe := bodyF [] 0 B_heights_in
theorem ok_heights_in {P : Program} {w : World} {K : PySem.W.Frag} {mg : Str → Option Value} {base : Heap} (T : Txt K mg) : FnV P w K mg base 71 T.heights_in.f T.heights_in.fd ["tree"] F_heights_in :=
  fn_mk T.heights_in.F sc_heights_in rfl fun cdv A outer s H E hr =>
    (b_one (s_ret (v_call none (FnOk.mono (k := 70) (ok_heights_of T 70) (by decide)) hr (by rfl) T.heights_of.g T.heights_of.F.kp T.heights_of.b (takes_of rfl rfl rfl rfl) (va_cons (v_pk 0 (pv 0)) va_nil))))
def S_l_law_right_1_1 : Fs := (asgZ 2 (callE F_l_law_one (some 0) [(.pk 0), (.val (opC lstC [(.val (cE (.int 1))), (.val (cE (.int 10))), (.val (op2 powD (.val (cE (.int 10))) (.val (cE (.int 20)))))]))]))
def S_l_law_right_1_2 : Fs := (asgZ 3 (lcE [10] (srcN rangeD1 [(.val (callE F_l_law_of (some 0) [(.pk 0), (.val (cE (.int 15)))]))]) (nameG 10) yesT (callE F_l_law_drawn_height (some 0) [(.pk 0)])))
def S_l_law_right_1_3 : Fs := (asgZ 4 (callE (F_l_law_tree 70) (some 0) [(.pk 0), (.pk 2), (.pk 3)]))
def S_l_law_right_1_4 : Fs := (ifS (notT (tstE (callE (F_l_law_alike 70) none [(.val (callE F_tree_right none [(.pk 2), (.pk 4)])), (.val (op2 notNonD (.val (callE (F_l_law_judged 100) none [(.pk 2), (.pk 4)])) (.val (cE .non))))])))
  (retS (cE (.bl false)))
  nilS)
def S_l_law_right_1_5 : Fs := (ifS (andT (tstE (op2 notNonD (.val (callE (F_l_law_judged 100) none [(.pk 2), (.pk 4)])) (.val (cE .non)))) (notT (tstE (callE (F_l_law_alike 70) none [(.val (callKE F_heights_in [0] [(.pk 4)])), (.pk 3)]))))
  (retS (cE (.bl false)))
  nilS)
def S_l_law_right_1_6_1 : Fs := (asgZ 6 (callE (F_l_law_bent 70) (some 0) [(.pk 0), (.pk 2), (.pk 4)]))
def S_l_law_right_1_6_2 : Fs := (ifS (notT (tstE (callE (F_l_law_alike 70) none [(.val (callE F_tree_right none [(.pk 2), (.pk 6)])), (.val (op2 notNonD (.val (callE (F_l_law_judged 100) none [(.pk 2), (.pk 6)])) (.val (cE .non))))])))
  (retS (cE (.bl false)))
  nilS)
def S_l_law_right_1_6L : Fs := (seqS S_l_law_right_1_6_1 S_l_law_right_1_6_2)
def S_l_law_right_1_6 : Fs := (forS (srcN rangeD1 [(.val (cE (.int 12)))]) (nameG 5)
  S_l_law_right_1_6L)
def S_l_law_right_1_7 : Fs := (asgZ 7 (callE F_l_law_one (some 0) [(.pk 0), (.val (opC lstC [(.val (op2 addD (.pk 2) (.val (cE (.int 1))))), (.pk 2), (.val (op2 mulD (.val (cE (.int 2))) (.pk 2)))]))]))
def S_l_law_right_1_8 : Fs := (ifS (notT (tstE (callE (F_l_law_alike 70) none [(.val (callE F_tree_right none [(.pk 7), (.pk 4)])), (.val (op2 notNonD (.val (callE (F_l_law_judged 100) none [(.pk 7), (.pk 4)])) (.val (cE .non))))])))
  (retS (cE (.bl false)))
  nilS)
def S_l_law_right_1L : Fs := (seqS S_l_law_right_1_1 (seqS S_l_law_right_1_2 (seqS S_l_law_right_1_3 (seqS S_l_law_right_1_4 (seqS S_l_law_right_1_5 (seqS S_l_law_right_1_6 (seqS S_l_law_right_1_7 S_l_law_right_1_8)))))))
def S_l_law_right_1 : Fs := (forS (srcN rangeD1 [(.val (cE (.int 10)))]) (nameG 1)
  S_l_law_right_1L)
def S_l_law_right_2 : Fs := (asgZ 8 (cE .non))
def S_l_law_right_3_1 : Fs := (asgZ 8 (opC tupC [(.pk 8), (.val (cE (.int 0))), (.val (cE .non)), (.val (cE (.int 1))), (.val (cE (.int 0)))]))
def S_l_law_right_3 : Fs := (forS (srcN rangeD1 [(.val (cE (.int 90)))]) (nameG 1)
  S_l_law_right_3_1)
def S_l_law_right_4 : Fs := (asgZ 9 (lcE [11] (srcC anyLD [(.val (opC lstC [(.val (cE (.int 0))), (.val (cE (.int 1))), (.val (cE (.int 2))), (.val (cE (.int 3))), (.val (cE (.int 4)))]))]) (nameG 11) yesT (op2 notNonD (.val (callE (F_l_law_judged 100) none [(.val (cE (.int 10))), (.val (callE F_l_law_chain none [(.val (cE (.int 10))), (.pk 11)]))])) (.val (cE .non)))))
def S_l_law_right_5 : Fs := (ifS (orT (tstE (op2 neD (.pk 9) (.val (opC lstC [(.val (cE (.bl true))), (.val (cE (.bl true))), (.val (cE (.bl true))), (.val (cE (.bl false))), (.val (cE (.bl false)))])))) (tstE (op2 neD (.val (lcE [11] (srcC anyLD [(.val (opC lstC [(.val (cE (.int 0))), (.val (cE (.int 1))), (.val (cE (.int 2))), (.val (cE (.int 3))), (.val (cE (.int 4)))]))]) (nameG 11) yesT (callE F_tree_right none [(.val (cE (.int 10))), (.val (callE F_l_law_chain none [(.val (cE (.int 10))), (.pk 11)]))]))) (.pk 9))))
  (retS (cE (.bl false)))
  nilS)
def S_l_law_right_6 : Fs := (retS (andE (op2 isBD (.val (callE F_tree_right none [(.val (cE (.int 10))), (.pk 8)])) (.val (cE (.bl false)))) (andE (op2 isBD (.val (callKE F_tree_right [1, 0] [(.val (cE .non)), (.val (cE (.int 1)))])) (.val (cE (.bl true)))) (op2 eqD (.val (callE F_heights_in none [(.val (cE .non))])) (.val (opC lstC []))))))
def B_l_law_right : Fs := (seqS S_l_law_right_1 (seqS S_l_law_right_2 (seqS S_l_law_right_3 (seqS S_l_law_right_4 (seqS S_l_law_right_5 S_l_law_right_6)))))
def F_l_law_right : Fe := bodyF [0] 11 B_l_law_right
theorem ok_l_law_right {P : Program} {w : World} {K : PySem.W.Frag} {mg : Str → Option Value} {base : Heap} (T : Txt K mg) : FnV P w K mg base 103 T.l_law_right.f T.l_law_right.fd ["urn"] F_l_law_right :=
  fn_mk T.l_law_right.F sc_l_law_right rfl fun cdv A outer s H E hr =>
    (b_cons (s_for (passes_of rfl) (by rfl) (i_range1 (by rfl) T.n_range (va_cons (v_val v_int) va_nil)) (g_name (pg_name (i := 1) sc_l_law_right.nd rfl (by first | exact .inl rfl | exact .inr rfl)) (by rfl))
    (b_cons (s_setZ (i := 2) sc_l_law_right.nd rfl (.inl rfl) (by rfl) (v_call (some 0) (FnOk.mono (k := 102) (ok_l_law_one T) (by decide)) hr (by rfl) T.l_law_one.g T.l_law_one.F.kp T.l_law_one.b (takes_of rfl rfl rfl rfl) (va_cons (v_pk 0 (pv 0)) (va_cons (v_val (v_lst (va_cons (v_val v_int) (va_cons (v_val v_int) (va_cons (v_val (v_bin op_powD (v_val v_int) (v_val v_int))) va_nil))))) va_nil))))
    (b_cons (s_setLcZ (i := 3) (own := [("row", 10)]) (pn := [0, 1, 2, 3, 4, 5, 6, 7, 8, 9, 11]) (vs := [10]) rfl sc_l_law_right.nd rfl rfl (by rfl) (sw_true rfl rfl rfl (by decide +kernel)) (i_range1 (by rfl) T.n_range (va_cons (v_val (v_call (some 0) (FnOk.mono (k := 102) (ok_l_law_of T) (by decide)) hr (by rfl) T.l_law_of.g T.l_law_of.F.kp T.l_law_of.b (takes_of rfl rfl rfl rfl) (va_cons (v_pk 0 (pv 0)) (va_cons (v_val v_int) va_nil)))) va_nil)) (blkOk_by (own := [("row", 10)]) (N := ["urn", "turn", "guess", "heights", "tree", "more", "bent", "other", "deep", "chains", "row", "many"]) (sc := (defScope s_l_law_right)) (by decide +kernel)) (fun _ _ _ _ _ => (g_name (pg_name (i := 10) sc_l_law_right.nd rfl (by first | exact .inl rfl | exact .inr rfl)) (by rfl))) (fun _ _ _ _ _ => ts_nil) (fun _ _ _ _ _ => (v_call (some 0) (FnOk.mono (k := 102) (ok_l_law_drawn_height T) (by decide)) hr (by rfl) T.l_law_drawn_height.g T.l_law_drawn_height.F.kp T.l_law_drawn_height.b takes0 (va_cons (v_pk 0 (pv 0)) va_nil))) rfl (by decide) (by rfl))
    (b_cons (s_setZ (i := 4) sc_l_law_right.nd rfl (.inl rfl) (by rfl) (v_call (some 0) (FnOk.mono (k := 102) (ok_l_law_tree T 70) (by decide)) hr (by rfl) T.l_law_tree.g T.l_law_tree.F.kp T.l_law_tree.b (takes_of rfl rfl rfl rfl) (va_cons (v_pk 0 (pv 0)) (va_cons (v_pk 2 (pv 2)) (va_cons (v_pk 3 (pv 3)) va_nil)))))
    (b_cons (s_if (t_not (t_val (v_call none (FnOk.mono (k := 102) (ok_l_law_alike T 70) (by decide)) hr (by rfl) T.l_law_alike.g T.l_law_alike.F.kp T.l_law_alike.b (takes_of rfl rfl rfl rfl) (va_cons (v_val (v_call none (FnOk.mono (k := 102) (ok_tree_right T) (by decide)) hr (by rfl) T.tree_right.g T.tree_right.F.kp T.tree_right.b (takes_of rfl rfl rfl rfl) (va_cons (v_pk 2 (pv 2)) (va_cons (v_pk 4 (pv 4)) va_nil)))) (va_cons (v_val (v_cmp op_notNonD (v_val (v_call none (FnOk.mono (k := 102) (ok_l_law_judged T 100) (by decide)) hr (by rfl) T.l_law_judged.g T.l_law_judged.F.kp T.l_law_judged.b (takes_of rfl rfl rfl rfl) (va_cons (v_pk 2 (pv 2)) (va_cons (v_pk 4 (pv 4)) va_nil)))) (v_val v_none))) va_nil)))))
    (b_one (s_ret v_bool))
    b_nil)
    (b_cons (s_if (t_w (w_and (t_cmp op_notNonD (v_val (v_call none (FnOk.mono (k := 102) (ok_l_law_judged T 100) (by decide)) hr (by rfl) T.l_law_judged.g T.l_law_judged.F.kp T.l_law_judged.b (takes_of rfl rfl rfl rfl) (va_cons (v_pk 2 (pv 2)) (va_cons (v_pk 4 (pv 4)) va_nil)))) (v_val v_none)) (w_and1 (t_not (t_val (v_call none (FnOk.mono (k := 102) (ok_l_law_alike T 70) (by decide)) hr (by rfl) T.l_law_alike.g T.l_law_alike.F.kp T.l_law_alike.b (takes_of rfl rfl rfl rfl) (va_cons (v_val (v_callK0 (ks := ["tree"]) [0] (FnOk.mono (k := 102) (ok_heights_in T) (by decide)) hr (by rfl) T.heights_in.g T.heights_in.F.kp (Fun.kbinds 0 [0] T.heights_in.F (by decide) fun _ _ _ _ _ _ us ws hu hw => match us, ws, hu, hw with | [], [_], _, _ => rfl) (takes_of rfl rfl rfl rfl) (vk_cons (v_pk 4 (pv 4)) vk_nil))) (va_cons (v_pk 3 (pv 3)) va_nil))))))))
    (b_one (s_ret v_bool))
    b_nil)
    (b_cons (s_for (passes_of rfl) (by rfl) (i_range1 (by rfl) T.n_range (va_cons (v_val v_int) va_nil)) (g_name (pg_name (i := 5) sc_l_law_right.nd rfl (by first | exact .inl rfl | exact .inr rfl)) (by rfl))
    (b_cons (s_setZ (i := 6) sc_l_law_right.nd rfl (.inl rfl) (by rfl) (v_call (some 0) (FnOk.mono (k := 102) (ok_l_law_bent T 70) (by decide)) hr (by rfl) T.l_law_bent.g T.l_law_bent.F.kp T.l_law_bent.b (takes_of rfl rfl rfl rfl) (va_cons (v_pk 0 (pv 0)) (va_cons (v_pk 2 (pv 2)) (va_cons (v_pk 4 (pv 4)) va_nil)))))
    (b_one (s_if (t_not (t_val (v_call none (FnOk.mono (k := 102) (ok_l_law_alike T 70) (by decide)) hr (by rfl) T.l_law_alike.g T.l_law_alike.F.kp T.l_law_alike.b (takes_of rfl rfl rfl rfl) (va_cons (v_val (v_call none (FnOk.mono (k := 102) (ok_tree_right T) (by decide)) hr (by rfl) T.tree_right.g T.tree_right.F.kp T.tree_right.b (takes_of rfl rfl rfl rfl) (va_cons (v_pk 2 (pv 2)) (va_cons (v_pk 6 (pv 6)) va_nil)))) (va_cons (v_val (v_cmp op_notNonD (v_val (v_call none (FnOk.mono (k := 102) (ok_l_law_judged T 100) (by decide)) hr (by rfl) T.l_law_judged.g T.l_law_judged.F.kp T.l_law_judged.b (takes_of rfl rfl rfl rfl) (va_cons (v_pk 2 (pv 2)) (va_cons (v_pk 6 (pv 6)) va_nil)))) (v_val v_none))) va_nil)))))
    (b_one (s_ret v_bool))
    b_nil))))
    (b_cons (s_setZ (i := 7) sc_l_law_right.nd rfl (.inl rfl) (by rfl) (v_call (some 0) (FnOk.mono (k := 102) (ok_l_law_one T) (by decide)) hr (by rfl) T.l_law_one.g T.l_law_one.F.kp T.l_law_one.b (takes_of rfl rfl rfl rfl) (va_cons (v_pk 0 (pv 0)) (va_cons (v_val (v_lst (va_cons (v_val (v_bin op_addD (v_pk 2 (pv 2)) (v_val v_int))) (va_cons (v_pk 2 (pv 2)) (va_cons (v_val (v_bin op_mulD (v_val v_int) (v_pk 2 (pv 2)))) va_nil))))) va_nil))))
    (b_one (s_if (t_not (t_val (v_call none (FnOk.mono (k := 102) (ok_l_law_alike T 70) (by decide)) hr (by rfl) T.l_law_alike.g T.l_law_alike.F.kp T.l_law_alike.b (takes_of rfl rfl rfl rfl) (va_cons (v_val (v_call none (FnOk.mono (k := 102) (ok_tree_right T) (by decide)) hr (by rfl) T.tree_right.g T.tree_right.F.kp T.tree_right.b (takes_of rfl rfl rfl rfl) (va_cons (v_pk 7 (pv 7)) (va_cons (v_pk 4 (pv 4)) va_nil)))) (va_cons (v_val (v_cmp op_notNonD (v_val (v_call none (FnOk.mono (k := 102) (ok_l_law_judged T 100) (by decide)) hr (by rfl) T.l_law_judged.g T.l_law_judged.F.kp T.l_law_judged.b (takes_of rfl rfl rfl rfl) (va_cons (v_pk 7 (pv 7)) (va_cons (v_pk 4 (pv 4)) va_nil)))) (v_val v_none))) va_nil)))))
    (b_one (s_ret v_bool))
    b_nil))))))))))
    (b_cons (s_setZ (i := 8) sc_l_law_right.nd rfl (.inl rfl) (by rfl) v_none)
    (b_cons (s_for (passes_of rfl) (by rfl) (i_range1 (by rfl) T.n_range (va_cons (v_val v_int) va_nil)) (g_name (pg_name (i := 1) sc_l_law_right.nd rfl (by first | exact .inl rfl | exact .inr rfl)) (by rfl))
    (b_one (s_setZ (i := 8) sc_l_law_right.nd rfl (.inl rfl) (by rfl) (v_tup (va_cons (v_pk 8 (pv 8)) (va_cons (v_val v_int) (va_cons (v_val v_none) (va_cons (v_val v_int) (va_cons (v_val v_int) va_nil)))))))))
    (b_cons (s_setLcZ (i := 9) (own := [("many", 11)]) (pn := [0, 1, 2, 3, 4, 5, 6, 7, 8, 9, 10]) (vs := [11]) rfl sc_l_law_right.nd rfl rfl (by rfl) (sw_true rfl rfl rfl (by decide +kernel)) (i_any (v_val (v_lst (va_cons (v_val v_int) (va_cons (v_val v_int) (va_cons (v_val v_int) (va_cons (v_val v_int) (va_cons (v_val v_int) va_nil)))))))) (blkOk_by (own := [("many", 11)]) (N := ["urn", "turn", "guess", "heights", "tree", "more", "bent", "other", "deep", "chains", "row", "many"]) (sc := (defScope s_l_law_right)) (by decide +kernel)) (fun _ _ _ _ _ => (g_name (pg_name (i := 11) sc_l_law_right.nd rfl (by first | exact .inl rfl | exact .inr rfl)) (by rfl))) (fun _ _ _ _ _ => ts_nil) (fun _ _ _ _ _ => (v_cmp op_notNonD (v_val (v_call none (FnOk.mono (k := 102) (ok_l_law_judged T 100) (by decide)) hr (by rfl) T.l_law_judged.g T.l_law_judged.F.kp T.l_law_judged.b takes0 (va_cons (v_val v_int) (va_cons (v_val (v_call none (FnOk.mono (k := 102) (ok_l_law_chain T) (by decide)) hr (by rfl) T.l_law_chain.g T.l_law_chain.F.kp T.l_law_chain.b takes0 (va_cons (v_val v_int) (va_cons (v_pk 11 (pv 11)) va_nil)))) va_nil)))) (v_val v_none))) rfl (by decide) (by rfl))
    (b_cons (s_if (t_w (w_or (t_cmp (op_neDD hr.units) (v_pk 9 (pv 9)) (v_val (v_lst (va_cons (v_val v_bool) (va_cons (v_val v_bool) (va_cons (v_val v_bool) (va_cons (v_val v_bool) (va_cons (v_val v_bool) va_nil)))))))) (w_or1 (t_cmp (op_neDD hr.units) (v_val (v_lc (own := [("many", 11)]) (pn := [0, 1, 2, 3, 4, 5, 6, 7, 8, 9, 10]) (vs := [11]) rfl sc_l_law_right.nd (i_any (v_val (v_lst (va_cons (v_val v_int) (va_cons (v_val v_int) (va_cons (v_val v_int) (va_cons (v_val v_int) (va_cons (v_val v_int) va_nil)))))))) (blkOk_by (own := [("many", 11)]) (N := ["urn", "turn", "guess", "heights", "tree", "more", "bent", "other", "deep", "chains", "row", "many"]) (sc := (defScope s_l_law_right)) (by decide +kernel)) (fun _ _ _ _ _ => (g_name (pg_name (i := 11) sc_l_law_right.nd rfl (by first | exact .inl rfl | exact .inr rfl)) (by rfl))) (fun _ _ _ _ _ => ts_nil) (fun _ _ _ _ _ => (v_call none (FnOk.mono (k := 102) (ok_tree_right T) (by decide)) hr (by rfl) T.tree_right.g T.tree_right.F.kp T.tree_right.b takes0 (va_cons (v_val v_int) (va_cons (v_val (v_call none (FnOk.mono (k := 102) (ok_l_law_chain T) (by decide)) hr (by rfl) T.l_law_chain.g T.l_law_chain.F.kp T.l_law_chain.b takes0 (va_cons (v_val v_int) (va_cons (v_pk 11 (pv 11)) va_nil)))) va_nil)))) rfl (by decide) (by rfl))) (v_pk 9 (pv 9))))))
    (b_one (s_ret v_bool))
    b_nil)
    (b_one (s_ret (v_and (v_cmp op_isBD (v_val (v_call none (FnOk.mono (k := 102) (ok_tree_right T) (by decide)) hr (by rfl) T.tree_right.g T.tree_right.F.kp T.tree_right.b (takes_of rfl rfl rfl rfl) (va_cons (v_val v_int) (va_cons (v_pk 8 (pv 8)) va_nil)))) (v_val v_bool)) (v_and (v_cmp op_isBD (v_val (v_callK0 (ks := ["tree", "guess"]) [1, 0] (FnOk.mono (k := 102) (ok_tree_right T) (by decide)) hr (by rfl) T.tree_right.g T.tree_right.F.kp (Fun.kbinds 0 [1, 0] T.tree_right.F (by decide) fun _ _ _ _ _ _ us ws hu hw => match us, ws, hu, hw with | [], [_, _], _, _ => rfl) (takes_of rfl rfl rfl rfl) (vk_cons (v_val v_none) (vk_cons (v_val v_int) vk_nil)))) (v_val v_bool)) (v_one (v_cmp (op_eqDD hr.units) (v_val (v_call none (FnOk.mono (k := 102) (ok_heights_in T) (by decide)) hr (by rfl) T.heights_in.g T.heights_in.F.kp T.heights_in.b (takes_of rfl rfl rfl rfl) (va_cons (v_val v_none) va_nil))) (v_val (v_lst (va_nil))))))))))))))
def S_l_law_urn_1 : Fs := (asgZ 2 (op2 addD (.val (op2 mulD (.val (cE (.int 331))) (.pk 1))) (.val (cE (.int 17)))))
def S_l_law_urn_2_1 : Fs := (asgZ 2 (op2 modD (.val (opN intD [(.val (op2 addD (.val (op2 addD (.val (op2 mulD (.pk 2) (.val (cE (.int 48271))))) (.val (op2 mulD (.val (op2 modD (.val (opN intD [(.pk 4)])) (.val (op2 addD (.val (op2 powD (.val (cE (.int 10))) (.val (cE (.int 23))))) (.val (cE (.int 117))))))) (.val (op2 addD (.val (op2 mulD (.val (cE (.int 2))) (.pk 3))) (.val (cE (.int 7))))))))) (.val (cE (.int 11)))))])) (.val (op2 addD (.val (op2 powD (.val (cE (.int 10))) (.val (cE (.int 29))))) (.val (cE (.int 319)))))))
def S_l_law_urn_2 : Fs := (forS (srcC enumD [(.val (opN (slD false true) [(.pk 0), (.val (cE (.int 63)))]))]) (tupG [3, 4])
  S_l_law_urn_2_1)
def S_l_law_urn_3 : Fs := (asgZ 5 (ifE (tstE (op2 ltD (.pk 1) (.val (opN lenD [(.pk 0)])))) (opN absD [(.val (opN intD [(.val (op2 ixD (.pk 0) (.pk 1)))]))]) (cE (.int 0))))
def S_l_law_urn_4 : Fs := (retS (opC lstC [(.val (ifE (tstE (op2 (cmpI fun i j => decide (j ≤ i)) (.pk 5) (.val (op2 powD (.val (cE (.int 10))) (.val (cE (.int 18))))))) (varE 5) (cE (.int 0)))), (.pk 2), (.pk 1)]))
def B_l_law_urn : Fs := (seqS S_l_law_urn_1 (seqS S_l_law_urn_2 (seqS S_l_law_urn_3 S_l_law_urn_4)))
def F_l_law_urn : Fe := bodyF [] 4 B_l_law_urn
theorem ok_l_law_urn {P : Program} {w : World} {K : PySem.W.Frag} {mg : Str → Option Value} {base : Heap} (T : Txt K mg) : FnV P w K mg base 1 T.l_law_urn.f T.l_law_urn.fd ["script", "k"] F_l_law_urn :=
  fn_mk T.l_law_urn.F sc_l_law_urn rfl fun cdv A outer s H E hr =>
    (b_cons (s_setZ (i := 2) sc_l_law_urn.nd rfl (.inl rfl) (by rfl) (v_bin op_addD (v_val (v_bin op_mulD (v_val v_int) (v_pk 1 (pv 1)))) (v_val v_int)))
    (b_cons (s_for (passes_of rfl) (by rfl) (i_enum (by rfl) T.n_enumerate (va_cons (v_val (v_sl2 (v_pk 0 (pv 0)) (v_val v_int))) va_nil)) (g_tup (by rfl) (gs_cons (pg_name (i := 3) sc_l_law_urn.nd rfl (by first | exact .inl rfl | exact .inr rfl)) (by rfl) (gs_cons (pg_name (i := 4) sc_l_law_urn.nd rfl (by first | exact .inl rfl | exact .inr rfl)) (by rfl) gs_nil)))
    (b_one (s_setZ (i := 2) sc_l_law_urn.nd rfl (.inl rfl) (by rfl) (v_bin op_modD (v_val (v_callTy cr_int (by rfl) T.n_int (by decide +kernel) (va_cons (v_val (v_bin op_addD (v_val (v_bin op_addD (v_val (v_bin op_mulD (v_pk 2 (pv 2)) (v_val v_int))) (v_val (v_bin op_mulD (v_val (v_bin op_modD (v_val (v_callTy cr_int (by rfl) T.n_int (by decide +kernel) (va_cons (v_pk 4 (pv 4)) va_nil))) (v_val (v_bin op_addD (v_val (v_bin op_powD (v_val v_int) (v_val v_int))) (v_val v_int))))) (v_val (v_bin op_addD (v_val (v_bin op_mulD (v_val v_int) (v_pk 3 (pv 3)))) (v_val v_int))))))) (v_val v_int))) va_nil))) (v_val (v_bin op_addD (v_val (v_bin op_powD (v_val v_int) (v_val v_int))) (v_val v_int)))))))
    (b_cons (s_setZ (i := 5) sc_l_law_urn.nd rfl (.inl rfl) (by rfl) (v_if (t_cmp op_ltD (v_pk 1 (pv 1)) (v_val (v_callB cr_len (by rfl) T.n_len PySem.boot_len (va_cons (v_pk 0 (pv 0)) va_nil)))) (v_callB cr_abs (by rfl) T.n_abs (by decide +kernel) (va_cons (v_val (v_callTy cr_int (by rfl) T.n_int (by decide +kernel) (va_cons (v_val (v_ix (v_pk 0 (pv 0)) (v_pk 1 (pv 1)))) va_nil))) va_nil)) v_int))
    (b_one (s_ret (v_lst (va_cons (v_val (v_if (t_cmp op_geD (v_pk 5 (pv 5)) (v_val (v_bin op_powD (v_val v_int) (v_val v_int)))) (v_var 5 (pv 5)) v_int)) (va_cons (v_pk 2 (pv 2)) (va_cons (v_pk 1 (pv 1)) va_nil)))))))))
def S_law_1_1 : Fs := (ifS (notT (tstE (callE F_l_law_right (some 0) [(.val (callE F_l_law_urn none [(.pk 0), (.pk 1)]))])))
  (retS (cE (.bl false)))
  nilS)
def S_law_1 : Fs := (forS (srcN rangeD1 [(.val (opN maxD [(.val (cE (.int 1))), (.val (opN minD [(.val (cE (.int 3))), (.val (opN lenD [(.pk 0)]))]))]))]) (nameG 1)
  S_law_1_1)
def S_law_2 : Fs := (retS (cE (.bl true)))
def B_law : Fs := (seqS S_law_1 S_law_2)
def F_law : Fe := bodyF [] 1 B_law
theorem ok_law {P : Program} {w : World} {K : PySem.W.Frag} {mg : Str → Option Value} {base : Heap} (T : Txt K mg) : FnV P w K mg base 104 T.law.f T.law.fd ["script"] F_law :=
  fn_mk T.law.F sc_law rfl fun cdv A outer s H E hr =>
    (b_cons (s_for (passes_of rfl) (by rfl) (i_range1 (by rfl) T.n_range (va_cons (v_val (v_callB (cr_maxD rfl) (by rfl) T.n_max (by decide +kernel) (va_cons (v_val v_int) (va_cons (v_val (v_callB (cr_minD rfl) (by rfl) T.n_min (by decide +kernel) (va_cons (v_val v_int) (va_cons (v_val (v_callB cr_len (by rfl) T.n_len PySem.boot_len (va_cons (v_pk 0 (pv 0)) va_nil))) va_nil)))) va_nil)))) va_nil)) (g_name (pg_name (i := 1) sc_law.nd rfl (by first | exact .inl rfl | exact .inr rfl)) (by rfl))
    (b_one (s_if (t_not (t_val (v_call (some 0) (FnOk.mono (k := 103) (ok_l_law_right T) (by decide)) hr (by rfl) T.l_law_right.g T.l_law_right.F.kp T.l_law_right.b (takes_of rfl rfl rfl rfl) (va_cons (v_val (v_call none (FnOk.mono (k := 103) (ok_l_law_urn T) (by decide)) hr (by rfl) T.l_law_urn.g T.l_law_urn.F.kp T.l_law_urn.b (takes_of rfl rfl rfl rfl) (va_cons (v_pk 0 (pv 0)) (va_cons (v_pk 1 (pv 1)) va_nil)))) va_nil))))
    (b_one (s_ret v_bool))
    b_nil)))
    (b_one (s_ret v_bool)))
end LW

set_option maxRecDepth 100000
set_option linter.all false
namespace LW
open PySem PySem.Spec PyProof.Rows L2 VL
/-- an urn that was drawn from at most c times -/
def Urn (c : Nat) (o : O) : Prop := ∃ g s k : Int, o = .fl [.int g, .int s, .int k] ∧ 0 ≤ g ∧ 0 ≤ s ∧ s < 10 ^ 29 + 319 ∧ 0 ≤ k ∧ k ≤ c
theorem Urn.mono {c d : Nat} {o : O} (h : Urn c o) (hd : c ≤ d) : Urn d o := by
  obtain ⟨g, s, k, e, h1, h2, h3, h4, h5⟩ := h
  exact ⟨g, s, k, e, h1, h2, h3, h4, by omega⟩
theorem Urn.un {c : Nat} {o : O} (h : Urn c o) : o.isUn = false := by
  obtain ⟨g, s, k, e, h1, h2, h3, h4, h5⟩ := h
  rw [e]
  rfl
theorem of_eq {c : Nat} {u : O} {m : Int} (h : Urn c u) (hc : c ≤ 2 ^ 64) (hm : 0 < m) (hm2 : m < 2 ^ 64) : ∃ r u', F_l_law_of [u, .d (.int m)] = .ok (.d (.int r), [u', .d (.int m)]) ∧ 0 ≤ r ∧ r < m ∧ Urn (c + 1) u' := by
  obtain ⟨g, s, k, rfl, hg, hs, hs2, hk, hk2⟩ := h
  have hl : fOk m = true := fOk_of (n := 64) (by omega) (by decide) (by decide)
  by_cases h0 : 0 < g
  · refine ⟨g % m, .fl [.int (g / m), .int s, .int k], ?_, Int.emod_nonneg _ (by omega), Int.emod_lt_of_pos _ hm, g / m, s, k, rfl, Int.ediv_nonneg hg (by omega), hs, hs2, hk, by omega⟩
    simp [F_l_law_of, bodyF_ap, B_l_law_of, S_l_law_of_1, S_l_law_of_1a_1, S_l_law_of_1a_2, S_l_law_of_1a_3, S_l_law_of_2, S_l_law_of_3, S_l_law_of_4, S_l_law_of_5, h0, hm, hl]
  · have hp : pOk (s + (k + 1) * 15485867) = true := pOk_of (n := 200) (by omega) (by decide)
    have hf : fOk 999983 = true := by decide
    refine ⟨((s + (k + 1) * 15485867) ^ 2 + (k + 1)) % (10 ^ 27 + 103) / 999983 % m, .fl [.int g, .int ((s * 3 + ((s + (k + 1) * 15485867) ^ 2 + (k + 1)) % (10 ^ 27 + 103) + 5) % (10 ^ 29 + 319)), .int (k + 1)], ?_, Int.emod_nonneg _ (by omega), Int.emod_lt_of_pos _ hm,
      g, _, k + 1, rfl, hg, Int.emod_nonneg _ (by decide), Int.emod_lt_of_pos _ (by decide), by omega, by omega⟩
    simp [F_l_law_of, bodyF_ap, B_l_law_of, S_l_law_of_1, S_l_law_of_1a_1, S_l_law_of_1a_2, S_l_law_of_1a_3, S_l_law_of_2, S_l_law_of_3, S_l_law_of_4, S_l_law_of_5, h0, hm, hl, mulOk, hp, hf]
theorem one_eq {c : Nat} {u : O} {ds : List D} (h : Urn c u) (hc : c ≤ 2 ^ 64) (hd : ds ≠ []) (hd2 : ds.length < 2 ^ 64) : ∃ z u', F_l_law_one [u, .d (.lst ds)] = .ok (.d z, [u', .d (.lst ds)]) ∧ z ∈ ds ∧ Urn (c + 1) u' := by
  have hp : 0 < ds.length := List.length_pos_iff.mpr hd
  obtain ⟨r, u', e, h1, h2, h3⟩ := of_eq (m := (ds.length : Int)) h hc (by omega) (by omega)
  obtain ⟨k, rfl⟩ : ∃ k : Nat, r = k := ⟨r.toNat, by omega⟩
  have hk : k < ds.length := by omega
  refine ⟨ds[k], u', ?_, List.getElem_mem hk, h3⟩
  have hx : ixL ds (k : Int) = some (.d ds[k]) := ixL_nat (List.getElem?_eq_getElem hk)
  simp [F_l_law_one, bodyF_ap, B_l_law_one, h.un, e, hx]
theorem urn_eq {ns : List Int} {k : Nat} (hk : k < 3) (hn : ns.length ≤ 63) : ∃ u, F_l_law_urn [.d (.scr (ns.map D.int)), .d (.int k)] = .ok (u, [.d (.scr (ns.map D.int)), .d (.int k)]) ∧ Urn k u := by
  have hb : pOk 10 = true := pOk_ten
  -- the seed
  obtain ⟨e, he, s, ⟨h1, h2, o3, o4, rfl⟩⟩ := forL_ev (tgt := tupG [3, 4]) (body := S_l_law_urn_2_1) (ds := enumL 0 (cutL (ns.map D.int) none (some ((63 : Nat) : Int))))
    (fun _ env => ∃ s : Int, 0 ≤ s ∧ s < 10 ^ 29 + 319 ∧ ∃ o3 o4, env = [.d (.scr (ns.map D.int)), .d (.int k), .d (.int s), o3, o4, .un]) (env := [.d (.scr (ns.map D.int)), .d (.int k), .d (.int (331 * k + 17)), .un, .un, .un])
    (fun j d env hd ⟨s, h1, h2, o3, o4, e⟩ => by
      subst e
      obtain ⟨x, hx, rfl⟩ := enumL_get _ _ _ _ hd
      rw [cut_to] at hx
      have hx2 := List.mem_of_getElem? hx
      have hx3 := List.mem_of_mem_take hx2
      obtain ⟨i, _, rfl⟩ := List.mem_map.mp hx3
      have hj : j < 63 := by
        have := (List.getElem?_eq_some_iff.mp hx).1
        rw [List.length_take] at this
        omega
      have hmul : (2 * (j : Int) + 7).natAbs < 18446744073709551616 := by omega
      refine ⟨_, _, rfl, ?_, (s * 48271 + i % (10 ^ 23 + 117) * (2 * (j : Int) + 7) + 11) % (10 ^ 29 + 319), Int.emod_nonneg _ (by decide), Int.emod_lt_of_pos _ (by decide), .d (.int j), .d (.int i), rfl⟩
      simp [S_l_law_urn_2_1, mulOk, hmul])
    ⟨331 * k + 17, by omega, by omega, .un, .un, rfl⟩
  have he2 : forL (tupG [3, 4]) S_l_law_urn_2_1 (enumL 0 (cutL (ns.map D.int) none (some 63))) [.d (.scr (ns.map D.int)), .d (.int k), .d (.int (331 * k + 17)), .un, .un, .un] = .nx [.d (.scr (ns.map D.int)), .d (.int k), .d (.int s), o3, o4, .un] := he
  by_cases hl : k < ns.length
  · have hx : ixL (ns.map D.int) (k : Int) = some (.d (.int ns[k])) := ixL_nat (by rw [List.getElem?_map, List.getElem?_eq_getElem hl]; rfl)
    by_cases hg : 1000000000000000000 ≤ (if ns[k] < 0 then -ns[k] else ns[k])
    · refine ⟨.fl [.int (if ns[k] < 0 then -ns[k] else ns[k]), .int s, .int k], ?_, _, s, k, rfl, by omega, h1, h2, by omega, by omega⟩
      simp [F_l_law_urn, bodyF_ap, B_l_law_urn, S_l_law_urn_1, S_l_law_urn_2, S_l_law_urn_3, S_l_law_urn_4, mulOk, he2, hl, hx, hg]
    · refine ⟨.fl [.int 0, .int s, .int k], ?_, 0, s, k, rfl, by omega, h1, h2, by omega, by omega⟩
      simp [F_l_law_urn, bodyF_ap, B_l_law_urn, S_l_law_urn_1, S_l_law_urn_2, S_l_law_urn_3, S_l_law_urn_4, mulOk, he2, hl, hx, hg]
  · refine ⟨.fl [.int 0, .int s, .int k], ?_, 0, s, k, rfl, by omega, h1, h2, by omega, by omega⟩
    simp [F_l_law_urn, bodyF_ap, B_l_law_urn, S_l_law_urn_1, S_l_law_urn_2, S_l_law_urn_3, S_l_law_urn_4, mulOk, he2, hl]
def Hgt (z : D) : Prop := z = .non ∨ ∃ i : Int, 0 ≤ i ∧ z = .int i
theorem height_eq {c : Nat} {u : O} (h : Urn c u) (hc : c < 2 ^ 64) : ∃ z u', F_l_law_drawn_height [u] = .ok (.d z, [u']) ∧ Hgt z ∧ Urn (c + 2) u' := by
  obtain ⟨r, u1, e1, h1, h2, h3⟩ := of_eq (m := 60) h (by omega) (by decide) (by decide)
  obtain ⟨z, u2, e2, hz, h5⟩ := one_eq (ds := [.non, .non, .int 0, .int 1, .int 4, .int 25, .int r, .int 100000000000000000000]) h3 (by omega) (by simp) (by simp)
  refine ⟨z, u2, ?_, ?_, h5⟩
  · simp [F_l_law_drawn_height, bodyF_ap, B_l_law_drawn_height, h.un, h3.un, e1, e2]
  · simp only [List.mem_cons, List.not_mem_nil, or_false] at hz
    rcases hz with rfl | rfl | rfl | rfl | rfl | rfl | rfl | rfl
    · exact .inl rfl
    · exact .inl rfl
    all_goals exact .inr ⟨_, by omega, rfl⟩
/-- its kind is known -/
def Pl (x : D) : Prop := (tyName x).isSome = true
def isW : D → Bool
  | .int _ => true
  | _ => false
theorem isW_eq {x : D} (h : isW x = true) : ∃ i, x = .int i := by
  cases x <;> first | (cases h; done) | exact ⟨_, rfl⟩
theorem whole_eq {x : D} (h : Pl x) : F_l_law_is_whole [.d x] = .ok (.d (.bl (isW x)), [.d x]) := by
  cases x <;> first | (cases h; done) | simp [F_l_law_is_whole, bodyF_ap, B_l_law_is_whole, isW] | rfl
theorem integer_eq {x : D} (h : Pl x) : F_is_integer [.d x] = .ok (.d (.bl (isW x)), [.d x]) := by
  cases x <;> first | (cases h; done) | simp [F_is_integer, bodyF_ap, B_is_integer, isW] | rfl
theorem counted_eq (g h : D) : F_counted [.d h, .d g] = .ok (.d (if h.isNon then g else h), [.d h, .d g]) := by
  cases hn : h.isNon <;> simp [F_counted, bodyF_ap, B_counted, hn]
theorem alike_bl {n : Nat} (hn : 1 ≤ n) (a b : Bool) : F_l_law_alike n [.d (.bl a), .d (.bl b)] = .ok (.d (.bl (a == b)), [.d (.bl a), .d (.bl b)]) := by
  obtain ⟨n, rfl⟩ : ∃ m, n = m + 1 := ⟨n - 1, by omega⟩
  rw [E_l_law_alike]
  simp [bodyF_ap, B_l_law_alike, S_l_law_alike_1, S_l_law_alike_2, S_l_law_alike_3, S_l_law_alike_4]
theorem alike_hgt {n : Nat} (hn : 1 ≤ n) {z : D} (h : Hgt z) : F_l_law_alike n [.d z, .d z] = .ok (.d (.bl true), [.d z, .d z]) := by
  obtain ⟨n, rfl⟩ : ∃ m, n = m + 1 := ⟨n - 1, by omega⟩
  rw [E_l_law_alike]
  rcases h with rfl | ⟨i, _, rfl⟩
  · simp [bodyF_ap, B_l_law_alike, S_l_law_alike_1, S_l_law_alike_2, S_l_law_alike_3, S_l_law_alike_4]
  · simp [bodyF_ap, B_l_law_alike, S_l_law_alike_1, S_l_law_alike_2, S_l_law_alike_3, S_l_law_alike_4, S_l_law_alike_5, S_l_law_alike_6]
theorem alike_lst {n : Nat} (hn : 2 ≤ n) {zs : List D} (h : ∀ z ∈ zs, Hgt z) (hl : zs.length < 1000) : F_l_law_alike n [.d (.lst zs), .d (.lst zs)] = .ok (.d (.bl true), [.d (.lst zs), .d (.lst zs)]) := by
  obtain ⟨n, rfl⟩ : ∃ m, n = m + 1 := ⟨n - 1, by omega⟩
  have hr : okR (zs.length : Int) = true := by
    unfold okR
    simp
    omega
  have hz : lcL [2] (nameG 2) (notT (tstE (callE (F_l_law_alike n) none [(.val (op2 ixD (.pk 0) (.pk 2))), (.val (op2 ixD (.pk 1) (.pk 2)))]))) (varE 2) (rangeL 0 zs.length) [.d (.lst zs), .d (.lst zs), .un, .un] [] = .ok ([], [.d (.lst zs), .d (.lst zs), .un, .un]) := by
    rw [lcL_pure (fun _ => none) _ [] (fun d m => ?_) (by rw [rangeL_length]; simp; omega)]
    · simp
    · obtain ⟨k, hk, rfl⟩ := rangeL_mem m
      have hx : ixL zs (k : Int) = some (.d zs[k]) := ixL_nat (List.getElem?_eq_getElem hk)
      have ha := alike_hgt (show 1 ≤ n by omega) (h zs[k] (List.getElem_mem hk))
      refine ⟨[.d (.lst zs), .d (.lst zs), .d (.int k), .un], by simp, by simp, by simp, .inl ⟨?_, rfl⟩⟩
      simp [hx, ha]
  rw [E_l_law_alike]
  simp [bodyF_ap, B_l_law_alike, S_l_law_alike_1, S_l_law_alike_1a_1, S_l_law_alike_1a_2, hr, hz]
def ofW : D → Int
  | .int i => i
  | _ => 0
@[simp] theorem ofW_int (i : Int) : ofW (.int i) = i := (rfl)
def hOk : D → Bool
  | .non => true
  | .int i => decide (0 ≤ i)
  | _ => false
def cnt (g : Int) : D → Int
  | .int i => i
  | _ => g
/-- depth, rows, total -/
def both (g : Int) (h : D) (a b : Int) : Option (Int × Int × Int) → Option (Int × Int × Int) → Option (Int × Int × Int)
  | some (dl, rl, tl), some (dr, rr, tr) => if 1 < (if dl - dr < 0 then -(dl - dr) else dl - dr) then none else if a = rl + rr + 1 ∧ b = tl + tr + cnt g h then some (1 + (if dr > dl then dr else dl), rl + rr + 1, tl + tr + cnt g h) else none
  | _, _ => none
def spec (g : Int) : Nat → D → Option (Int × Int × Int)
  | 0 => fun t => if t.isNon then some (0, 0, 0) else none
  | n + 1 => fun t => match t with
    | .non => some (0, 0, 0)
    | .tup [l, h, r, .int a, .int b] => if hOk h then both g h a b (spec g n l) (spec g n r) else none
    | _ => none
/-- plain trees, at most n deep -/
def Td : Nat → D → Prop
  | 0 => fun t => Pl t ∧ ∀ l h r a b, t ≠ .tup [l, h, r, a, b]
  | n + 1 => fun t => Pl t ∧ ∀ l h r a b, t = .tup [l, h, r, a, b] → Td n l ∧ Td n r ∧ Pl h ∧ Pl a ∧ Pl b
def encJ : Option (Int × Int × Int) → D
  | some (d, r, t) => .tup [.int d, .int r, .int t]
  | none => .non
def encM : Option (Int × Int × Int) → D
  | some (d, r, t) => .tup [.int r, .int t, .int d]
  | none => .non
theorem td_pl {n : Nat} {t : D} (h : Td n t) : Pl t := by
  cases n <;> exact h.1
theorem five {xs : List D} (h : xs.length = 5) : ∃ l h r a b, xs = [l, h, r, a, b] := by
  match xs, h with
  | [l, h, r, a, b], _ => exact ⟨l, h, r, a, b, rfl⟩
theorem spec_no (g : Int) (n : Nat) {t : D} (h1 : t.isNon = false) (h2 : ∀ l h r a b, t ≠ .tup [l, h, r, a, b]) : spec g n t = none := by
  cases n with
  | zero => simp [spec, h1]
  | succ n =>
    show (match t with
      | .non => some (0, 0, 0)
      | .tup [l, h, r, .int a, .int b] => if hOk h then both g h a b (spec g n l) (spec g n r) else none
      | _ => none) = none
    split
    · cases h1
    · exact absurd rfl (h2 _ _ _ _ _)
    · rfl
theorem judged_no {n : Nat} (g : Int) {t : D} (hp : Pl t) (h1 : t.isNon = false) (h2 : ∀ l h r a b, t ≠ .tup [l, h, r, a, b]) : F_l_law_judged (n + 1) [.d (.int g), .d t] = .ok (.d .non, [.d (.int g), .d t]) := by
  rw [E_l_law_judged]
  cases t <;> first | (cases hp; done) | (cases h1; done) | skip
  case tup xs =>
    have hl : ((xs.length : Int) == 5) = false := by
      rw [beq_eq_false_iff_ne]
      intro e
      obtain ⟨l, h, r, a, b, rfl⟩ := five (xs := xs) (by omega)
      exact h2 _ _ _ _ _ rfl
    simp [bodyF_ap, B_l_law_judged, S_l_law_judged_1, S_l_law_judged_2, hl]
  all_goals simp [bodyF_ap, B_l_law_judged, S_l_law_judged_1, S_l_law_judged_2]
theorem measured_no {n : Nat} (g : Int) {t : D} (hp : Pl t) (h1 : t.isNon = false) (h2 : ∀ l h r a b, t ≠ .tup [l, h, r, a, b]) : F_measured (n + 1) [.d (.int g), .d t] = .ok (.d .non, [.d (.int g), .d t]) := by
  rw [E_measured]
  cases t <;> first | (cases hp; done) | (cases h1; done) | skip
  case tup xs =>
    have hl : ((xs.length : Int) == 5) = false := by
      rw [beq_eq_false_iff_ne]
      intro e
      obtain ⟨l, h, r, a, b, rfl⟩ := five (xs := xs) (by omega)
      exact h2 _ _ _ _ _ rfl
    simp [bodyF_ap, B_measured, S_measured_1, S_measured_2, hl]
  all_goals simp [bodyF_ap, B_measured, S_measured_1, S_measured_2]
theorem judged_non (n : Nat) (g : Int) : F_l_law_judged (n + 1) [.d (.int g), .d .non] = .ok (.d (.tup [.int 0, .int 0, .int 0]), [.d (.int g), .d .non]) := by
  rw [E_l_law_judged]
  simp [bodyF_ap, B_l_law_judged, S_l_law_judged_1]
theorem measured_non (n : Nat) (g : Int) : F_measured (n + 1) [.d (.int g), .d .non] = .ok (.d (.tup [.int 0, .int 0, .int 0]), [.d (.int g), .d .non]) := by
  rw [E_measured]
  simp [bodyF_ap, B_measured, S_measured_1]
theorem hgt_cases {h : D} (hp : Pl h) : h = .non ∨ (∃ i, h = .int i) ∨ (h.isNon = false ∧ isW h = false ∧ hOk h = false) := by
  cases h <;> first | (cases hp; done) | exact .inl rfl | exact .inr (.inl ⟨_, rfl⟩) | exact .inr (.inr ⟨rfl, rfl, rfl⟩)
theorem pair_eqv (a b c d : Int) : eqD (.tup [.int a, .int b]) (.tup [.int c, .int d]) = some (.d (.bl (decide (a = c ∧ b = d)))) := by
  have hs : ∀ x ∈ [D.int a, .int b], D.Ok 0 x := by simp [ok_int]
  have ht : ∀ x ∈ [D.int c, .int d], D.Ok 0 x := by simp [ok_int]
  rw [eqD_ok (ok_tup hs) (ok_tup ht)]
  have e : PyData.eqv (D.tup [.int a, .int b]).py (D.tup [.int c, .int d]).py = decide (a = c ∧ b = d) := by
    show ((a == c) && ((b == d) && true)) = _
    rw [Bool.eq_iff_iff]
    simp
  rw [e]
theorem judged_tup {n : Nat} (g : Int) {l h r a b : D} {x y : Option (Int × Int × Int)} (hl : F_l_law_judged n [.d (.int g), .d l] = .ok (.d (encJ x), [.d (.int g), .d l])) (hr : F_l_law_judged n [.d (.int g), .d r] = .ok (.d (encJ y), [.d (.int g), .d r]))
    (ph : Pl h) (pa : Pl a) (pb : Pl b) : F_l_law_judged (n + 1) [.d (.int g), .d (.tup [l, h, r, a, b])] = .ok (.d (encJ (if isW a && isW b && hOk h then both g h (ofW a) (ofW b) x y else none)), [.d (.int g), .d (.tup [l, h, r, a, b])]) := by
  have wa := whole_eq pa
  have wb := whole_eq pb
  have wh := whole_eq ph
  rw [E_l_law_judged]
  cases qa : isW a with
  | false => simp [bodyF_ap, B_l_law_judged, S_l_law_judged_1, S_l_law_judged_2, wa, qa, encJ]
  | true =>
    cases qb : isW b with
    | false => simp [bodyF_ap, B_l_law_judged, S_l_law_judged_1, S_l_law_judged_2, wa, qa, wb, qb, encJ]
    | true =>
      obtain ⟨a, rfl⟩ := isW_eq qa
      obtain ⟨b, rfl⟩ := isW_eq qb
      have step3 : ∀ (k : Bool), hOk h = k → S_l_law_judged_3 (F_l_law_judged n) [.d (.int g), .d (.tup [l, h, r, .int a, .int b]), .un, .un, .un, .un] = if k then .nx [.d (.int g), .d (.tup [l, h, r, .int a, .int b]), .un, .un, .un, .un] else .rt (.d .non) [.d (.int g), .d (.tup [l, h, r, .int a, .int b]), .un, .un, .un, .un] := fun k hk => by
        rcases hgt_cases ph with rfl | ⟨i, rfl⟩ | ⟨q1, q2, q3⟩
        · rw [← hk]
          simp [S_l_law_judged_3, hOk]
        · rw [← hk]
          by_cases hi : i < 0
          · have hi2 : ¬ 0 ≤ i := by omega
            simp [S_l_law_judged_3, hOk, wh, isW, hi, hi2]
          · have hi2 : 0 ≤ i := by omega
            simp [S_l_law_judged_3, hOk, wh, isW, hi, hi2]
        · rw [← hk, q3]
          simp [S_l_law_judged_3, q1, wh, q2]
      cases qh : hOk h with
      | false =>
        have := step3 _ qh
        simp [bodyF_ap, B_l_law_judged, S_l_law_judged_1, S_l_law_judged_2, wa, qa, wb, qb, encJ, this]
      | true =>
        have h3 := step3 _ qh
        rw [if_pos rfl] at h3
        have e4 : S_l_law_judged_4 (F_l_law_judged n) [.d (.int g), .d (.tup [l, h, r, .int a, .int b]), .un, .un, .un, .un] = .nx [.d (.int g), .d (.tup [l, h, r, .int a, .int b]), .d (encJ x), .d (encJ y), .un, .un] := by
          simp [S_l_law_judged_4, hl, hr, parR]
        cases x with
        | none => simp [bodyF_ap, B_l_law_judged, S_l_law_judged_1, S_l_law_judged_2, wa, qa, wb, qb, h3, e4, S_l_law_judged_5, encJ, both]
        | some x =>
          cases y with
          | none =>
            obtain ⟨dl, rl, tl⟩ := x
            simp [bodyF_ap, B_l_law_judged, S_l_law_judged_1, S_l_law_judged_2, wa, qa, wb, qb, h3, e4, S_l_law_judged_5, encJ, both]
          | some y =>
            obtain ⟨dl, rl, tl⟩ := x
            obtain ⟨dr, rr, tr⟩ := y
            by_cases hd : 1 < (if dl - dr < 0 then -(dl - dr) else dl - dr)
            · simp [bodyF_ap, B_l_law_judged, S_l_law_judged_1, S_l_law_judged_2, wa, qa, wb, qb, h3, e4, S_l_law_judged_5, encJ, both, hd]
            · have c2 : op2 addD (.val (op2 addD (.val (op2 ixD (.pk 2) (.val (cE (.int 2))))) (.val (op2 ixD (.pk 3) (.val (cE (.int 2))))))) (.val (ifE (tstE (op2 isNonD (.val (op2 ixD (.pk 1) (.val (cE (.int 1))))) (.val (cE .non)))) (varE 0) (op2 ixD (.pk 1) (.val (cE (.int 1))))))
                [.d (.int g), .d (.tup [l, h, r, .int a, .int b]), .d (.tup [.int dl, .int rl, .int tl]), .d (.tup [.int dr, .int rr, .int tr]), .un, .un] = .ok (.d (.int (tl + tr + cnt g h)), [.d (.int g), .d (.tup [l, h, r, .int a, .int b]), .d (.tup [.int dl, .int rl, .int tl]), .d (.tup [.int dr, .int rr, .int tr]), .un, .un]) := by
                rcases hgt_cases ph with rfl | ⟨i, rfl⟩ | ⟨q1, q2, q3⟩
                · simp [cnt]
                · simp [cnt]
                · rw [q3] at qh
                  cases qh
              have e6 : S_l_law_judged_6 (F_l_law_judged n) [.d (.int g), .d (.tup [l, h, r, .int a, .int b]), .d (.tup [.int dl, .int rl, .int tl]), .d (.tup [.int dr, .int rr, .int tr]), .un, .un] =
                .nx [.d (.int g), .d (.tup [l, h, r, .int a, .int b]), .d (.tup [.int dl, .int rl, .int tl]), .d (.tup [.int dr, .int rr, .int tr]), .d (.int (rl + rr + 1)), .d (.int (tl + tr + cnt g h))] := by
                unfold S_l_law_judged_6
                rw [parS_ap]
                have c1 : op2 addD (.val (op2 addD (.val (op2 ixD (.pk 2) (.val (cE (.int 1))))) (.val (op2 ixD (.pk 3) (.val (cE (.int 1))))))) (.val (cE (.int 1))) [.d (.int g), .d (.tup [l, h, r, .int a, .int b]), .d (.tup [.int dl, .int rl, .int tl]), .d (.tup [.int dr, .int rr, .int tr]), .un, .un] =
                  .ok (.d (.int (rl + rr + 1)), [.d (.int g), .d (.tup [l, h, r, .int a, .int b]), .d (.tup [.int dl, .int rl, .int tl]), .d (.tup [.int dr, .int rr, .int tr]), .un, .un]) := by simp
                rw [c1, ER.then_ok, c2, ER.then_ok]
                simp [parR]
              by_cases hq : a = rl + rr + 1 ∧ b = tl + tr + cnt g h
              · obtain ⟨rfl, rfl⟩ := hq
                simp [bodyF_ap, B_l_law_judged, S_l_law_judged_1, S_l_law_judged_2, wa, qa, wb, qb, h3, e4, S_l_law_judged_5, encJ, both, hd, e6, S_l_law_judged_7, pair_eqv]
              · simp [bodyF_ap, B_l_law_judged, S_l_law_judged_1, S_l_law_judged_2, wa, qa, wb, qb, h3, e4, S_l_law_judged_5, encJ, both, hd, e6, S_l_law_judged_7, pair_eqv, hq]
theorem measured_tup {n : Nat} (g : Int) {l h r a b : D} {x y : Option (Int × Int × Int)} (hl : F_measured n [.d (.int g), .d l] = .ok (.d (encM x), [.d (.int g), .d l])) (hr : F_measured n [.d (.int g), .d r] = .ok (.d (encM y), [.d (.int g), .d r]))
    (ph : Pl h) (pa : Pl a) (pb : Pl b) : F_measured (n + 1) [.d (.int g), .d (.tup [l, h, r, a, b])] = .ok (.d (encM (if isW a && isW b && hOk h then both g h (ofW a) (ofW b) x y else none)), [.d (.int g), .d (.tup [l, h, r, a, b])]) := by
  have wa := integer_eq pa
  have wb := integer_eq pb
  have wh := integer_eq ph
  rw [E_measured]
  have step4 : ∀ (k : Bool), hOk h = k → S_measured_4 (F_measured n) [.d (.int g), .d (.tup [l, h, r, a, b]), .d l, .d h, .d r, .d a, .d b, .un, .un] = if k then .nx [.d (.int g), .d (.tup [l, h, r, a, b]), .d l, .d h, .d r, .d a, .d b, .un, .un] else .rt (.d .non) [.d (.int g), .d (.tup [l, h, r, a, b]), .d l, .d h, .d r, .d a, .d b, .un, .un] := fun k hk => by
    rcases hgt_cases ph with rfl | ⟨i, rfl⟩ | ⟨q1, q2, q3⟩
    · rw [← hk]
      simp [S_measured_4, hOk]
    · rw [← hk]
      by_cases hi : i < 0
      · have hi2 : ¬ 0 ≤ i := by omega
        simp [S_measured_4, hOk, wh, isW, hi, hi2]
      · have hi2 : 0 ≤ i := by omega
        simp [S_measured_4, hOk, wh, isW, hi, hi2]
    · rw [← hk, q3]
      simp [S_measured_4, q1, wh, q2]
  cases qh : hOk h with
  | false =>
    have := step4 _ qh
    simp [bodyF_ap, B_measured, S_measured_1, S_measured_2, S_measured_3, this, encM]
  | true =>
    have h4 := step4 _ qh
    rw [if_pos rfl] at h4
    cases x with
    | none => simp [bodyF_ap, B_measured, S_measured_1, S_measured_2, S_measured_3, h4, S_measured_5, hl, S_measured_6, S_measured_7, encM, both]
    | some x =>
      obtain ⟨dl, rl, tl⟩ := x
      cases y with
      | none => simp [bodyF_ap, B_measured, S_measured_1, S_measured_2, S_measured_3, h4, S_measured_5, hl, hr, S_measured_6, S_measured_7, encM, both]
      | some y =>
        obtain ⟨dr, rr, tr⟩ := y
        by_cases hd : 1 < (if dl - dr < 0 then -(dl - dr) else dl - dr)
        · simp [bodyF_ap, B_measured, S_measured_1, S_measured_2, S_measured_3, h4, S_measured_5, hl, hr, S_measured_6, S_measured_7, encM, both, hd]
        · cases qa : isW a with
          | false => simp [bodyF_ap, B_measured, S_measured_1, S_measured_2, S_measured_3, h4, S_measured_5, hl, hr, S_measured_6, S_measured_7, encM, hd, wa, qa]
          | true =>
            cases qb : isW b with
            | false => simp [bodyF_ap, B_measured, S_measured_1, S_measured_2, S_measured_3, h4, S_measured_5, hl, hr, S_measured_6, S_measured_7, encM, hd, wa, qa, wb, qb]
            | true =>
              obtain ⟨a, rfl⟩ := isW_eq qa
              obtain ⟨b, rfl⟩ := isW_eq qb
              have ec : (if h.isNon then D.int g else h) = .int (cnt g h) := by
                rcases hgt_cases ph with rfl | ⟨i, rfl⟩ | ⟨q1, q2, q3⟩
                · rfl
                · rfl
                · rw [q3] at qh
                  cases qh
              have cn := counted_eq (.int g) h
              rw [ec] at cn
              by_cases hq1 : a = rl + rr + 1
              · by_cases hq2 : b = tl + tr + cnt g h
                · have g1 : (a == rl + 1 + rr) = true := by rw [beq_iff_eq]; omega
                  have g2 : (b == tl + cnt g h + tr) = true := by rw [beq_iff_eq]; omega
                  have hb : both g h a b (some (dl, rl, tl)) (some (dr, rr, tr)) = some (1 + (if dr > dl then dr else dl), a, b) := by simp [both, hd, ← hq1, ← hq2]
                  simp [bodyF_ap, B_measured, S_measured_1, S_measured_2, S_measured_3, h4, S_measured_5, hl, hr, S_measured_6, S_measured_7, encM, hd, wa, qa, wb, qb, S_measured_8, cn, g1, g2, S_measured_9, hb]
                · have g1 : (a == rl + 1 + rr) = true := by rw [beq_iff_eq]; omega
                  have g2 : (b == tl + cnt g h + tr) = false := by rw [beq_eq_false_iff_ne]; omega
                  have hb : both g h a b (some (dl, rl, tl)) (some (dr, rr, tr)) = none := by simp [both, hd, hq2]
                  simp [bodyF_ap, B_measured, S_measured_1, S_measured_2, S_measured_3, h4, S_measured_5, hl, hr, S_measured_6, S_measured_7, encM, hd, wa, qa, wb, qb, S_measured_8, cn, g1, g2, hb]
              · have g1 : (a == rl + 1 + rr) = false := by rw [beq_eq_false_iff_ne]; omega
                have hb : both g h a b (some (dl, rl, tl)) (some (dr, rr, tr)) = none := by simp [both, hd, hq1]
                simp [bodyF_ap, B_measured, S_measured_1, S_measured_2, S_measured_3, h4, S_measured_5, hl, hr, S_measured_6, S_measured_7, encM, hd, wa, qa, wb, qb, S_measured_8, cn, g1, hb]
theorem spec_tup (g : Int) (n : Nat) (l h r a b : D) : spec g (n + 1) (.tup [l, h, r, a, b]) = if isW a && isW b && hOk h then both g h (ofW a) (ofW b) (spec g n l) (spec g n r) else none := by
  cases a <;> first | (simp [spec, isW]; done) | skip
  cases b <;> simp [spec, isW]
theorem trees (g : Int) : ∀ (n : Nat) (t : D), Td n t → F_l_law_judged (n + 1) [.d (.int g), .d t] = .ok (.d (encJ (spec g n t)), [.d (.int g), .d t]) ∧ F_measured (n + 1) [.d (.int g), .d t] = .ok (.d (encM (spec g n t)), [.d (.int g), .d t])
  | 0, t, h => by
    cases hn : t.isNon with
    | true =>
      cases t <;> first | (cases hn; done) | skip
      exact ⟨judged_non 0 g, measured_non 0 g⟩
    | false =>
      rw [spec_no g 0 hn h.2]
      exact ⟨judged_no g h.1 hn h.2, measured_no g h.1 hn h.2⟩
  | n + 1, t, h => by
    cases hn : t.isNon with
    | true =>
      cases t <;> first | (cases hn; done) | skip
      exact ⟨judged_non (n + 1) g, measured_non (n + 1) g⟩
    | false =>
      by_cases h5 : ∀ l h r a b, t ≠ .tup [l, h, r, a, b]
      · rw [spec_no g (n + 1) hn h5]
        exact ⟨judged_no g h.1 hn h5, measured_no g h.1 hn h5⟩
      · simp only [Classical.not_forall, ne_eq, Classical.not_not] at h5
        obtain ⟨l, h', r, a, b, rfl⟩ := h5
        obtain ⟨p1, p2, p3, p4, p5⟩ := h.2 _ _ _ _ _ rfl
        obtain ⟨l1, l2⟩ := trees g n l p1
        obtain ⟨r1, r2⟩ := trees g n r p2
        rw [spec_tup]
        exact ⟨judged_tup g l1 r1 p3 p4 p5, measured_tup g l2 r2 p3 p4 p5⟩
theorem td_mono : ∀ {n : Nat} {t : D}, Td n t → Td (n + 1) t
  | 0, t, h => ⟨h.1, fun l x r a b e => absurd e (h.2 l x r a b)⟩
  | n + 1, t, h => ⟨h.1, fun l x r a b e => by
    obtain ⟨p1, p2, p3⟩ := h.2 l x r a b e
    exact ⟨td_mono p1, td_mono p2, p3⟩⟩
theorem td_le {n m : Nat} {t : D} (h : Td n t) (hm : n ≤ m) : Td m t := by
  induction hm with
  | refl => exact h
  | step _ ih => exact td_mono ih
/-- the law's question of a tree -/
theorem asked {g : Int} {t : D} (h : Td 99 t) : ∃ x : Option (Int × Int × Int), F_l_law_judged 100 [.d (.int g), .d t] = .ok (.d (encJ x), [.d (.int g), .d t]) ∧ F_tree_right [.d (.int g), .d t] = .ok (.d (.bl x.isSome), [.d (.int g), .d t]) := by
  obtain ⟨h1, h2⟩ := trees g 99 t h
  have h2 : F_measured 100 [.d (.int g), .d t] = .ok (.d (encM (spec g 99 t)), [.d (.int g), .d t]) := h2
  refine ⟨spec g 99 t, h1, ?_⟩
  cases q : spec g 99 t with
  | none =>
    rw [q] at h2
    simp [F_tree_right, bodyF_ap, B_tree_right, h2, encM]
  | some x =>
    rw [q] at h2
    obtain ⟨a, b, c⟩ := x
    simp [F_tree_right, bodyF_ap, B_tree_right, h2, encM]
theorem encJ_non (x : Option (Int × Int × Int)) : (!(encJ x).isNon) = x.isSome := by
  rcases x with _ | ⟨a, b, c⟩ <;> rfl
end LW

set_option maxRecDepth 100000
set_option linter.all false
namespace LW
open PySem PySem.Spec PyProof.Rows L2 VL
inductive Tr : D → List D → Prop
  | leaf : Tr .non []
  | node {l r h : D} {a b : Int} {xs ys : List D} : Tr l xs → Tr r ys → Hgt h → 0 ≤ a → a ≤ xs.length + ys.length + 1 → Tr (.tup [l, h, r, .int a, .int b]) (xs ++ h :: ys)
theorem Hgt.pl {h : D} (q : Hgt h) : Pl h := by
  rcases q with rfl | ⟨i, _, rfl⟩ <;> rfl
theorem Tr.td {t : D} {zs : List D} (h : Tr t zs) : Td zs.length t := by
  induction h with
  | leaf => exact ⟨rfl, fun _ _ _ _ _ e => by cases e⟩
  | node hl hr hh h0 h1 il ir =>
    rename_i l r h a b xs ys
    rw [List.length_append, List.length_cons]
    refine ⟨rfl, fun l' h' r' a' b' e => ?_⟩
    cases e
    exact ⟨td_le il (show xs.length ≤ xs.length + ys.length by omega), td_le ir (show ys.length ≤ xs.length + ys.length by omega), hh.pl, rfl, rfl⟩
theorem Tr.hgts {t : D} {zs : List D} (h : Tr t zs) : ∀ z ∈ zs, Hgt z := by
  induction h with
  | leaf => exact fun _ m => nomatch m
  | node hl hr hh h0 h1 il ir =>
    intro z m
    rcases List.mem_append.mp m with m | m
    · exact il z m
    · rcases List.mem_cons.mp m with rfl | m
      · exact hh
      · exact ir z m
def at3 : D → Int
  | .tup [_, _, _, .int a, _] => a
  | _ => 0
def at4 : D → Int
  | .tup [_, _, _, _, .int a] => a
  | _ => 0
/-- nothing, or five with numbers at the end -/
def Nd (t : D) : Prop := t = .non ∨ ∃ l h r a b, t = .tup [l, h, r, .int a, .int b]
theorem Tr.nd {t : D} {zs : List D} (h : Tr t zs) : Nd t := by
  cases h with
  | leaf => exact .inl rfl
  | node _ _ _ _ _ => exact .inr ⟨_, _, _, _, _, rfl⟩
theorem numbered_eq (g : Int) {l h r : D} (hl : Nd l) (hr : Nd r) (hh : Hgt h) : ∃ b : Int, F_l_law_numbered [.d (.int g), .d l, .d h, .d r] = .ok (.d (.tup [l, h, r, .int (1 + (at3 l + at3 r)), .int b]), [.d (.int g), .d l, .d h, .d r]) := by
  have s1 : ∀ a : Int, sumD [.lst [.int a]] = some (.d (.int a)) := fun a => by
    have := sumD_lst [a]
    simpa using this
  have s2 : ∀ a b : Int, sumD [.lst [.int a, .int b]] = some (.d (.int (a + b))) := fun a b => by
    have := sumD_lst [a, b]
    simpa using this
  have s0 : sumD [.lst []] = some (.d (.int 0)) := rfl
  refine ⟨cnt g h + (at4 l + at4 r), ?_⟩
  rcases hl with rfl | ⟨l1, h1, r1, a1, b1, rfl⟩
  · rcases hr with rfl | ⟨l2, h2, r2, a2, b2, rfl⟩
    · rcases hh with rfl | ⟨i, _, rfl⟩
      · simp [F_l_law_numbered, bodyF_ap, B_l_law_numbered, S_l_law_numbered_1, S_l_law_numbered_2, S_l_law_numbered_3, lcL_cons, s0, s1, s2, at3, at4, cnt]
      · simp [F_l_law_numbered, bodyF_ap, B_l_law_numbered, S_l_law_numbered_1, S_l_law_numbered_2, S_l_law_numbered_3, lcL_cons, s0, s1, s2, at3, at4, cnt]
    · rcases hh with rfl | ⟨i, _, rfl⟩
      · simp [F_l_law_numbered, bodyF_ap, B_l_law_numbered, S_l_law_numbered_1, S_l_law_numbered_2, S_l_law_numbered_3, lcL_cons, s0, s1, s2, at3, at4, cnt]
      · simp [F_l_law_numbered, bodyF_ap, B_l_law_numbered, S_l_law_numbered_1, S_l_law_numbered_2, S_l_law_numbered_3, lcL_cons, s0, s1, s2, at3, at4, cnt]
  · rcases hr with rfl | ⟨l2, h2, r2, a2, b2, rfl⟩
    · rcases hh with rfl | ⟨i, _, rfl⟩
      · simp [F_l_law_numbered, bodyF_ap, B_l_law_numbered, S_l_law_numbered_1, S_l_law_numbered_2, S_l_law_numbered_3, lcL_cons, s0, s1, s2, at3, at4, cnt]
      · simp [F_l_law_numbered, bodyF_ap, B_l_law_numbered, S_l_law_numbered_1, S_l_law_numbered_2, S_l_law_numbered_3, lcL_cons, s0, s1, s2, at3, at4, cnt]
    · rcases hh with rfl | ⟨i, _, rfl⟩
      · simp [F_l_law_numbered, bodyF_ap, B_l_law_numbered, S_l_law_numbered_1, S_l_law_numbered_2, S_l_law_numbered_3, lcL_cons, s0, s1, s2, at3, at4, cnt]
      · simp [F_l_law_numbered, bodyF_ap, B_l_law_numbered, S_l_law_numbered_1, S_l_law_numbered_2, S_l_law_numbered_3, lcL_cons, s0, s1, s2, at3, at4, cnt]
theorem Tr.at3 {t : D} {zs : List D} (h : Tr t zs) : 0 ≤ at3 t ∧ at3 t ≤ zs.length := by
  cases h with
  | leaf => exact ⟨by show (0 : Int) ≤ 0; omega, by show (0 : Int) ≤ _; simp⟩
  | node _ _ _ h0 h1 =>
    refine ⟨h0, ?_⟩
    rw [List.length_append, List.length_cons]
    show _ ≤ _
    simp only [LW.at3]
    omega
theorem hgt_flat {zs : List D} (h : ∀ z ∈ zs, Hgt z) : D.Ok 1 (.lst zs) := ok_lst (n := 0) fun z m => by
  rcases h z m with rfl | ⟨i, _, rfl⟩
  · exact ok_non
  · exact ok_int i
theorem eq_nil (zs : List D) (h : ∀ z ∈ zs, Hgt z) : eqD (.lst zs) (.lst []) = some (.d (.bl zs.isEmpty)) := by
  rw [eqD_ok (hgt_flat h) (hgt_flat (zs := []) (fun _ m => nomatch m)), eqv_nil]
theorem in_246 (n : Nat) : ∃ b : Bool, inD (.int n) (.lst [.int 2, .int 4, .int 6]) = some (.d (.bl b)) := ⟨_, rfl⟩
theorem tree_eq (g : Int) : ∀ (n : Nat) {c : Nat} {u : O} {zs : List D}, Urn c u → c + zs.length ≤ 2 ^ 64 → zs.length < n → zs.length < 1000 → (∀ z ∈ zs, Hgt z) →
    ∃ t u', F_l_law_tree n [u, .d (.int g), .d (.lst zs)] = .ok (.d t, [u', .d (.int g), .d (.lst zs)]) ∧ Tr t zs ∧ Urn (c + zs.length) u'
  | 0, c, u, zs, _, _, h, _, _ => absurd h (by omega)
  | n + 1, c, u, ws, hu, hc, hn, hl, hz => by
    by_cases hws : ws = []
    · subst hws
      refine ⟨.non, u, ?_, .leaf, hu⟩
      rw [E_l_law_tree]
      simp [bodyF_ap, B_l_law_tree, S_l_law_tree_1]
    have hpos : 0 < ws.length := List.length_pos_iff.mpr hws
    obtain ⟨r, u1, e1, h1, h2, h3⟩ := of_eq (m := 2) hu (by omega) (by decide) (by decide)
    obtain ⟨b, hb⟩ := in_246 ws.length
    -- the middle
    obtain ⟨m, hm, hml⟩ : ∃ m : Nat, (if (ws.length : Int) - 1 < ((ws.length : Int) - r * (if b then 1 else 0)) / 2 then (ws.length : Int) - 1 else ((ws.length : Int) - r * (if b then 1 else 0)) / 2) = (m : Int) ∧ m < ws.length := by
      have hr : r * (if b then 1 else 0) = 0 ∨ r * (if b then 1 else 0) = r := by
        cases b
        · left; simp
        · right; simp
      have hq : 0 ≤ ((ws.length : Int) - r * (if b then 1 else 0)) / 2 := by
        rcases hr with hr | hr <;> rw [hr] <;> omega
      refine ⟨(if (ws.length : Int) - 1 < ((ws.length : Int) - r * (if b then 1 else 0)) / 2 then (ws.length : Int) - 1 else ((ws.length : Int) - r * (if b then 1 else 0)) / 2).toNat, ?_, ?_⟩
      · split <;> omega
      · split <;> omega
    have hx : ixL ws (m : Int) = some (.d ws[m]) := ixL_nat (List.getElem?_eq_getElem hml)
    obtain ⟨t1, u2, e2, q2, v2⟩ := tree_eq g n (c := c + 1) (u := u1) (zs := ws.take m) h3 (by rw [List.length_take]; omega) (by rw [List.length_take]; omega) (by rw [List.length_take]; omega) fun z m => hz z (List.mem_of_mem_take m)
    obtain ⟨t2, u3, e3, q3, v3⟩ := tree_eq g n (c := c + 1 + (ws.take m).length) (u := u2) (zs := ws.drop (m + 1)) v2 (by rw [List.length_take, List.length_drop]; omega) (by rw [List.length_drop]; omega) (by rw [List.length_drop]; omega) fun z m => hz z (List.mem_of_mem_drop m)
    obtain ⟨k, e4⟩ := numbered_eq g q2.nd q3.nd (hz ws[m] (List.getElem_mem hml))
    have split : ws = ws.take m ++ ws[m] :: ws.drop (m + 1) := by rw [← List.drop_eq_getElem_cons hml, List.take_append_drop]
    refine ⟨.tup [t1, ws[m], t2, .int (1 + (at3 t1 + at3 t2)), .int k], u3, ?_, ?_, v3.mono (by rw [List.length_take, List.length_drop]; omega)⟩
    rotate_left
    · have z := Tr.node (a := 1 + (at3 t1 + at3 t2)) (b := k) q2 q3 (hz ws[m] (List.getElem_mem hml)) (by have := q2.at3; have := q3.at3; omega) (by have := q2.at3; have := q3.at3; omega)
      rw [← split] at z
      exact z
    · have he : ws.isEmpty = false := by
        cases ws with
        | nil => exact absurd rfl hws
        | cons _ _ => rfl
      have s1 : S_l_law_tree_1 (F_l_law_tree n) [u, .d (.int g), .d (.lst ws), .un] = .nx [u, .d (.int g), .d (.lst ws), .un] := by
        simp [S_l_law_tree_1, eq_nil ws hz, he]
      have s2 : S_l_law_tree_2 (F_l_law_tree n) [u, .d (.int g), .d (.lst ws), .un] = .nx [u1, .d (.int g), .d (.lst ws), .d (.int (((ws.length : Int) - r * (if b then 1 else 0)) / 2))] := by
        have hmk : mulOk r (if b = true then 1 else 0) = true := mulOk_l (by omega)
        simp [S_l_law_tree_2, hu.un, h3.un, e1, hb, hmk]
      have s3 : ∀ x : Int, S_l_law_tree_3 (F_l_law_tree n) [u1, .d (.int g), .d (.lst ws), .d (.int x)] = .nx [u1, .d (.int g), .d (.lst ws), .d (.int (if (ws.length : Int) - 1 < x then (ws.length : Int) - 1 else x))] := fun x => by
        simp [S_l_law_tree_3]
      have c1 : cutL ws none (some (m : Int)) = ws.take m := cut_to ws m
      have c2 : cutL ws (some ((m : Int) + 1)) none = ws.drop (m + 1) := cut_from ws (m + 1)
      rw [E_l_law_tree]
      simp [bodyF_ap, B_l_law_tree, s1, s2, s3, hm, S_l_law_tree_4, h3.un, v2.un, e2, e3, c1, c2, hx, e4]
theorem heights_eq : ∀ (n : Nat) {t : D} {zs : List D}, Tr t zs → zs.length < n → zs.length < 1000 → F_heights_of n [.d t] = .ok (.fl zs, [.d t])
  | 0, _, _, _, h, _ => absurd h (by omega)
  | n + 1, t, zs, h, hn, hl => by
    rw [E_heights_of]
    cases h with
    | leaf => simp [bodyF_ap, B_heights_of, S_heights_of_1]
    | node h1 h2 h3 h4 h5 =>
      rename_i l r h a b xs ys
      rw [List.length_append, List.length_cons] at hn hl
      have e1 := heights_eq n h1 (by omega) (by omega)
      have e2 := heights_eq n h2 (by omega) (by omega)
      have b1 : xs.length + 1 ≤ 16777216 := by omega
      have b2 : xs.length + 1 + ys.length ≤ 16777216 := by omega
      simp [bodyF_ap, B_heights_of, S_heights_of_1, S_heights_of_2, e1, e2, b1, b2]
end LW

set_option maxRecDepth 100000
set_option linter.all false
namespace LW
open PySem PySem.Spec PyProof.Rows L2 VL
theorem hgt3 : Hgt (.int 3) := .inr ⟨3, by decide, rfl⟩
theorem chain_eq (g : Int) : ∃ t, F_l_law_chain [.d (.int g), .d (.int 3)] = .ok (.d t, [.d (.int g), .d (.int 3)]) ∧ Tr t [.int 3, .int 3, .int 3] := by
  obtain ⟨b1, e1⟩ := numbered_eq g (l := .non) (r := .non) (.inl rfl) (.inl rfl) hgt3
  have t1 : Tr (.tup [.non, .int 3, .non, .int 1, .int b1]) ([] ++ .int 3 :: []) := .node .leaf .leaf hgt3 (by decide) (by decide)
  obtain ⟨b2, e2⟩ := numbered_eq g (l := .tup [.non, .int 3, .non, .int 1, .int b1]) (r := .non) t1.nd (.inl rfl) hgt3
  have t2 : Tr (.tup [.tup [.non, .int 3, .non, .int 1, .int b1], .int 3, .non, .int 2, .int b2]) (([] ++ .int 3 :: []) ++ .int 3 :: []) := .node t1 .leaf hgt3 (by decide) (by decide)
  obtain ⟨b3, e3⟩ := numbered_eq g (l := .tup [.tup [.non, .int 3, .non, .int 1, .int b1], .int 3, .non, .int 2, .int b2]) (r := .non) t2.nd (.inl rfl) hgt3
  have t3 : Tr (.tup [.tup [.tup [.non, .int 3, .non, .int 1, .int b1], .int 3, .non, .int 2, .int b2], .int 3, .non, .int 3, .int b3]) ((([] ++ .int 3 :: []) ++ .int 3 :: []) ++ .int 3 :: []) := .node t2 .leaf hgt3 (by decide) (by decide)
  refine ⟨_, ?_, t3⟩
  have hr : rangeL 0 3 = [.int 0, .int 1, .int 2] := rfl
  have hk : okR 3 = true := rfl
  simp [at3] at e1 e2 e3
  simp [F_l_law_chain, bodyF_ap, B_l_law_chain, S_l_law_chain_1, S_l_law_chain_2, hk, hr, forL_cons, S_l_law_chain_2_1, e1, e2, e3, S_l_law_chain_3]
theorem td_other (n : Nat) {t : D} (hp : Pl t) (h : ∀ l h r a b, t ≠ .tup [l, h, r, a, b]) : Td n t := by
  cases n with
  | zero => exact ⟨hp, h⟩
  | succ n => exact ⟨hp, fun l x r a b e => absurd e (h l x r a b)⟩
theorem td_five {n : Nat} {l h r a b : D} (hl : Td n l) (hr : Td n r) (ph : Pl h) (pa : Pl a) (pb : Pl b) : Td (n + 1) (.tup [l, h, r, a, b]) := ⟨rfl, fun l' h' r' a' b' e => by
  cases e
  exact ⟨hl, hr, ph, pa, pb⟩⟩
theorem td_non (n : Nat) : Td n .non := td_other n rfl fun _ _ _ _ _ e => by cases e
theorem bent_eq (g : Int) : ∀ (n : Nat) {c : Nat} {u : O} {t : D} {zs : List D}, Urn c u → c + 2 * n ≤ 2 ^ 64 → zs.length < n → zs.length < 1000 → Tr t zs →
    ∃ b u', F_l_law_bent n [u, .d (.int g), .d t] = .ok (.d b, [u', .d (.int g), .d t]) ∧ Td (zs.length + 5) b ∧ Urn (c + 2 * n) u'
  | 0, c, u, t, zs, _, _, h, _, _ => absurd h (by omega)
  | n + 1, c, u, t, zs, hu, hc, hn, hl, ht => by
    cases ht with
    | leaf =>
      obtain ⟨z, u1, e1, hz, h1⟩ := one_eq (ds := [.tup [], .lst [], .int 0, .bl false, .tup [.non, .int 1, .non, .int 1, .int 1], .tup [.non, .non, .non, .int 1, .int g], .str "x", .tup [.non, .int (-1), .non, .int 1, .int (-1)]]) hu (by omega) (by simp) (by simp)
      refine ⟨z, u1, ?_, ?_, h1.mono (by omega)⟩
      · rw [E_l_law_bent]
        simp [bodyF_ap, B_l_law_bent, S_l_law_bent_1, S_l_law_bent_2, hu.un, e1]
      · simp only [List.mem_cons, List.not_mem_nil, or_false] at hz
        rcases hz with rfl | rfl | rfl | rfl | rfl | rfl | rfl | rfl
        · exact td_other _ rfl fun _ _ _ _ _ e => by cases e
        · exact td_other _ rfl fun _ _ _ _ _ e => by cases e
        · exact td_other _ rfl fun _ _ _ _ _ e => by cases e
        · exact td_other _ rfl fun _ _ _ _ _ e => by cases e
        · exact td_five (td_non _) (td_non _) rfl rfl rfl
        · exact td_five (td_non _) (td_non _) rfl rfl rfl
        · exact td_other _ rfl fun _ _ _ _ _ e => by cases e
        · exact td_five (td_non _) (td_non _) rfl rfl rfl
    | node t1 t2 hh ha hb =>
      rename_i l r h a b xs ys
      rw [List.length_append, List.length_cons] at hn hl ⊢
      obtain ⟨k, u1, e1, h1, h2, h3⟩ := of_eq (m := 3) hu (by omega) (by decide) (by decide)
      have dl : Td (xs.length + ys.length + 5) l := td_le t1.td (by omega)
      have dr : Td (xs.length + ys.length + 5) r := td_le t2.td (by omega)
      have w : xs.length + (ys.length + 1) + 5 = (xs.length + ys.length + 5) + 1 := by omega
      rw [w]
      by_cases hk : 0 < k
      · -- deeper
        obtain ⟨j, u2, e2, j1, j2, j3⟩ := of_eq (m := 2) h3 (by omega) (by decide) (by decide)
        have m2 : mulOk 2 j = true := mulOk_l (by decide)
        by_cases hj : j = 0
        · subst hj
          obtain ⟨i, u3, e3, i1, i2⟩ := bent_eq g n j3 (by omega) (by omega) (by omega) t1
          refine ⟨.tup [i, h, r, .int a, .int b], u3, ?_, td_five (td_le i1 (by omega)) dr hh.pl rfl rfl, i2.mono (by omega)⟩
          have k0 : cutL [l, h, r, .int a, .int b] none (some 0) = [] := rfl
          have k1 : cutL [l, h, r, .int a, .int b] (some 1) none = [h, r, .int a, .int b] := rfl
          rw [E_l_law_bent]
          simp [bodyF_ap, B_l_law_bent, S_l_law_bent_1, S_l_law_bent_1a_1, S_l_law_bent_1a_2, S_l_law_bent_1a_3, S_l_law_bent_1a_4, hu.un, h3.un, j3.un, e1, e2, e3, hk, k0, k1, m2]
        · have hj1 : j = 1 := by omega
          subst hj1
          obtain ⟨i, u3, e3, i1, i2⟩ := bent_eq g n j3 (by omega) (by omega) (by omega) t2
          refine ⟨.tup [l, h, i, .int a, .int b], u3, ?_, td_five dl (td_le i1 (by omega)) hh.pl rfl rfl, i2.mono (by omega)⟩
          have k0 : cutL [l, h, r, .int a, .int b] none (some 2) = [l, h] := rfl
          have k1 : cutL [l, h, r, .int a, .int b] (some 3) none = [.int a, .int b] := rfl
          rw [E_l_law_bent]
          simp [bodyF_ap, B_l_law_bent, S_l_law_bent_1, S_l_law_bent_1a_1, S_l_law_bent_1a_2, S_l_law_bent_1a_3, S_l_law_bent_1a_4, hu.un, h3.un, j3.un, e1, e2, e3, hk, k0, k1, m2]
      · -- here
        obtain ⟨sx, s3⟩ : ∃ sx : Str, strD [.int a] = some (.d (.str sx)) := ⟨toString a, by
          show (if a.natAbs.log2 < 1920 then _ else _) = _
          rw [if_pos (Nat.lt_of_lt_of_le (log2_lt (n := a.natAbs) (k := 64) (by omega) (by decide)) (by decide))]⟩
        obtain ⟨ch, e4, q4⟩ := chain_eq g
        obtain ⟨tb, e5⟩ := numbered_eq g q4.nd (r := .non) (.inl rfl) hh
        have pc : Td (xs.length + ys.length + 5) ch := td_le q4.td (by show 3 ≤ _; omega)
        have ec : (if h.isNon then D.int g else h) = .int (cnt g h) := by
          rcases hh with rfl | ⟨i, _, rfl⟩ <;> rfl
        -- the list
        obtain ⟨some', hs⟩ : ∃ l0 : List D, l0 = [.tup [l, h, r, .int (a + 1), .int b], .tup [l, h, r, .int a, .int (b + 1)], .tup [l, h, r, .bl true, .int b], .tup [l, .bl true, r, .int a, .int b], .tup [l, .int (-1), r, .int a, .int (b - cnt g h - 1)], .tup [l, h, r, .int a],
          .tup [l, h, r, .int a, .int b, .int 0], .lst [l, h, r, .int a, .int b], .tup [r, h, l, .int a, .int b], .tup [l, .non, r, .int a, .int b], .tup [l, .int g, r, .int a, .int b], .tup [l, .str "1", r, .int a, .int b], .tup [ch, h, .non, .int (1 + (at3 ch + at3 .non)), .int tb],
          .non, .tup [l, h, r, .int a, .non], .tup [l, h, r, .str sx, .int b]] := ⟨_, rfl⟩
        obtain ⟨z, u2, e2, hz, v2⟩ := one_eq (ds := some') h3 (by omega) (by rw [hs]; simp) (by rw [hs]; simp)
        refine ⟨z, u2, ?_, ?_, v2.mono (by omega)⟩
        · have p1 : S_l_law_bent_1 (F_l_law_bent n) [u, .d (.int g), .d (.tup [l, h, r, .int a, .int b]), .un, .un, .un, .un, .un, .un, .un, .un, .un] = .nx [u1, .d (.int g), .d (.tup [l, h, r, .int a, .int b]), .un, .un, .un, .un, .un, .un, .un, .un, .un] := by
            simp [S_l_law_bent_1, hu.un, e1, hk]
          have p4 : S_l_law_bent_4 (F_l_law_bent n) [u1, .d (.int g), .d (.tup [l, h, r, .int a, .int b]), .un, .un, .un, .d l, .d h, .d r, .d (.int a), .d (.int b), .un] = .nx [u1, .d (.int g), .d (.tup [l, h, r, .int a, .int b]), .un, .un, .un, .d l, .d h, .d r, .d (.int a), .d (.int b),
              .d (.lst [.tup [l, h, r, .int (a + 1), .int b], .tup [l, h, r, .int a, .int (b + 1)], .tup [l, h, r, .bl true, .int b], .tup [l, .bl true, r, .int a, .int b]])] := by
            simp [S_l_law_bent_4]
          have p5 : S_l_law_bent_5 (F_l_law_bent n) [u1, .d (.int g), .d (.tup [l, h, r, .int a, .int b]), .un, .un, .un, .d l, .d h, .d r, .d (.int a), .d (.int b),
              .d (.lst [.tup [l, h, r, .int (a + 1), .int b], .tup [l, h, r, .int a, .int (b + 1)], .tup [l, h, r, .bl true, .int b], .tup [l, .bl true, r, .int a, .int b]])] = .nx [u1, .d (.int g), .d (.tup [l, h, r, .int a, .int b]), .un, .un, .un, .d l, .d h, .d r, .d (.int a), .d (.int b),
              .d (.lst [.tup [l, h, r, .int (a + 1), .int b], .tup [l, h, r, .int a, .int (b + 1)], .tup [l, h, r, .bl true, .int b], .tup [l, .bl true, r, .int a, .int b], .tup [l, .int (-1), r, .int a, .int (b - cnt g h - 1)], .tup [l, h, r, .int a],
          .tup [l, h, r, .int a, .int b, .int 0], .lst [l, h, r, .int a, .int b], .tup [r, h, l, .int a, .int b]])] := by
            rcases hh with rfl | ⟨i, _, rfl⟩ <;> simp [S_l_law_bent_5, cnt]
          have p6 : S_l_law_bent_6 (F_l_law_bent n) [u1, .d (.int g), .d (.tup [l, h, r, .int a, .int b]), .un, .un, .un, .d l, .d h, .d r, .d (.int a), .d (.int b),
              .d (.lst [.tup [l, h, r, .int (a + 1), .int b], .tup [l, h, r, .int a, .int (b + 1)], .tup [l, h, r, .bl true, .int b], .tup [l, .bl true, r, .int a, .int b], .tup [l, .int (-1), r, .int a, .int (b - cnt g h - 1)], .tup [l, h, r, .int a],
          .tup [l, h, r, .int a, .int b, .int 0], .lst [l, h, r, .int a, .int b], .tup [r, h, l, .int a, .int b]])] = .nx [u1, .d (.int g), .d (.tup [l, h, r, .int a, .int b]), .un, .un, .un, .d l, .d h, .d r, .d (.int a), .d (.int b),
              .d (.lst [.tup [l, h, r, .int (a + 1), .int b], .tup [l, h, r, .int a, .int (b + 1)], .tup [l, h, r, .bl true, .int b], .tup [l, .bl true, r, .int a, .int b], .tup [l, .int (-1), r, .int a, .int (b - cnt g h - 1)], .tup [l, h, r, .int a],
          .tup [l, h, r, .int a, .int b, .int 0], .lst [l, h, r, .int a, .int b], .tup [r, h, l, .int a, .int b], .tup [l, .non, r, .int a, .int b], .tup [l, .int g, r, .int a, .int b], .tup [l, .str "1", r, .int a, .int b], .tup [ch, h, .non, .int (1 + (at3 ch + at3 .non)), .int tb]])] := by
            simp [S_l_law_bent_6, e4, e5]
          have p7 : S_l_law_bent_7 (F_l_law_bent n) [u1, .d (.int g), .d (.tup [l, h, r, .int a, .int b]), .un, .un, .un, .d l, .d h, .d r, .d (.int a), .d (.int b),
              .d (.lst [.tup [l, h, r, .int (a + 1), .int b], .tup [l, h, r, .int a, .int (b + 1)], .tup [l, h, r, .bl true, .int b], .tup [l, .bl true, r, .int a, .int b], .tup [l, .int (-1), r, .int a, .int (b - cnt g h - 1)], .tup [l, h, r, .int a],
          .tup [l, h, r, .int a, .int b, .int 0], .lst [l, h, r, .int a, .int b], .tup [r, h, l, .int a, .int b], .tup [l, .non, r, .int a, .int b], .tup [l, .int g, r, .int a, .int b], .tup [l, .str "1", r, .int a, .int b], .tup [ch, h, .non, .int (1 + (at3 ch + at3 .non)), .int tb]])] =
            .rt (.d z) [u2, .d (.int g), .d (.tup [l, h, r, .int a, .int b]), .un, .un, .un, .d l, .d h, .d r, .d (.int a), .d (.int b),
              .d (.lst [.tup [l, h, r, .int (a + 1), .int b], .tup [l, h, r, .int a, .int (b + 1)], .tup [l, h, r, .bl true, .int b], .tup [l, .bl true, r, .int a, .int b], .tup [l, .int (-1), r, .int a, .int (b - cnt g h - 1)], .tup [l, h, r, .int a],
          .tup [l, h, r, .int a, .int b, .int 0], .lst [l, h, r, .int a, .int b], .tup [r, h, l, .int a, .int b], .tup [l, .non, r, .int a, .int b], .tup [l, .int g, r, .int a, .int b], .tup [l, .str "1", r, .int a, .int b], .tup [ch, h, .non, .int (1 + (at3 ch + at3 .non)), .int tb]])] := by
            rw [hs] at e2
            simp [S_l_law_bent_7, s3, h3.un, e2]
          rw [E_l_law_bent]
          simp [bodyF_ap, B_l_law_bent, p1, S_l_law_bent_2, S_l_law_bent_3, p4, p5, p6, p7]
        · rw [hs] at hz
          simp only [List.mem_cons, List.not_mem_nil, or_false] at hz
          rcases hz with rfl | rfl | rfl | rfl | rfl | rfl | rfl | rfl | rfl | rfl | rfl | rfl | rfl | rfl | rfl | rfl
          · exact td_five dl dr hh.pl rfl rfl
          · exact td_five dl dr hh.pl rfl rfl
          · exact td_five dl dr hh.pl rfl rfl
          · exact td_five dl dr rfl rfl rfl
          · exact td_five dl dr rfl rfl rfl
          · exact td_other _ rfl fun _ _ _ _ _ e => by cases e
          · exact td_other _ rfl fun _ _ _ _ _ e => by cases e
          · exact td_other _ rfl fun _ _ _ _ _ e => by cases e
          · exact td_five dr dl hh.pl rfl rfl
          · exact td_five dl dr rfl rfl rfl
          · exact td_five dl dr rfl rfl rfl
          · exact td_five dl dr rfl rfl rfl
          · exact td_five pc (td_non _) hh.pl rfl rfl
          · exact td_non _
          · exact td_five dl dr hh.pl rfl rfl
          · exact td_five dl dr hh.pl rfl rfl
end LW

set_option maxRecDepth 100000
set_option linter.all false
namespace LW
open PySem PySem.Spec PyProof.Rows L2 VL
/-- the question of a tree is answered alike -/
theorem ask_ok {g : Int} {t : D} (h : Td 99 t) (env : Ev) (i j : Nat) (hi : env[i]? = some (.d (.int g))) (hj : env[j]? = some (.d t)) :
    (ifS (notT (tstE (callE (F_l_law_alike 70) none [(.val (callE F_tree_right none [(.pk i), (.pk j)])), (.val (op2 notNonD (.val (callE (F_l_law_judged 100) none [(.pk i), (.pk j)])) (.val (cE .non))))])))
  (retS (cE (.bl false)))
  nilS) env = .nx env := by
  obtain ⟨x, e1, e2⟩ := asked (g := g) h
  have gi : env[i]?.getD .un = .d (.int g) := by rw [hi]; rfl
  have gj : env[j]?.getD .un = .d t := by rw [hj]; rfl
  have ea := alike_bl (n := 70) (by decide) x.isSome x.isSome
  simp [gi, gj, e1, e2, encJ_non, ea]
theorem heights_in_eq {t : D} {zs : List D} (h : Tr t zs) (hl : zs.length < 70) : F_heights_in [.d t] = .ok (.d (.lst zs), [.d t]) ∨ F_heights_in [.d t] = .ok (.fl zs, [.d t]) := by
  have e := heights_eq 70 h hl (by omega)
  right
  simp [F_heights_in, bodyF_ap, B_heights_in, e]
/-- one turn of the law's question -/
theorem turn_ok {c : Nat} {u o1 o2 o3 o4 o5 o6 o7 : O} (hu : Urn c u) (hc : c + 3000 ≤ 2 ^ 64) : ∃ u' p2 p3 p4 p5 p6 p7, S_l_law_right_1L [u, o1, o2, o3, o4, o5, o6, o7, .un, .un, .un, .un] = .nx [u', o1, p2, p3, p4, p5, p6, p7, .un, .un, .un, .un] ∧ Urn (c + 2000) u' := by
  -- guess
  obtain ⟨z, u1, e1, hz, v1⟩ := one_eq (ds := [.int 1, .int 10, .int 100000000000000000000]) hu (by omega) (by simp) (by simp)
  obtain ⟨g, rfl⟩ : ∃ g, z = .int g := by
    simp only [List.mem_cons, List.not_mem_nil, or_false] at hz
    rcases hz with rfl | rfl | rfl <;> exact ⟨_, rfl⟩
  have s1 : S_l_law_right_1_1 [u, o1, o2, o3, o4, o5, o6, o7, .un, .un, .un, .un] = .nx [u1, o1, .d (.int g), o3, o4, o5, o6, o7, .un, .un, .un, .un] := by
    simp [S_l_law_right_1_1, hu.un, e1]
  -- heights
  obtain ⟨r, u2, e2, r1, r2, v2⟩ := of_eq (m := 15) v1 (by omega) (by decide) (by decide)
  obtain ⟨rn, rfl⟩ : ∃ k : Nat, r = k := ⟨r.toNat, by omega⟩
  obtain ⟨zs, e3, f3, l3, h3, u3, rfl, v3⟩ := lcL_inv (vs := [10]) (tgt := nameG 10) (test := yesT) (elt := callE F_l_law_drawn_height (some 0) [(.pk 0)]) Hgt
    (fun j env => ∃ u, env = [u, o1, .d (.int g), o3, o4, o5, o6, o7, .un, .un, .un, .un] ∧ Urn (c + 2 + 2 * j) u) (rangeL 0 rn) [] 0 [u2, o1, .d (.int g), o3, o4, o5, o6, o7, .un, .un, .un, .un] (fun k d env hk ⟨w, e, hw⟩ => by
      subst e
      obtain ⟨hk1, rfl⟩ := rangeL_get hk
      obtain ⟨z, w', e4, q4, hw'⟩ := height_eq hw (by omega)
      refine ⟨[w, o1, .d (.int g), o3, o4, o5, o6, o7, .un, .un, .d (.int k), .un], .d z, [w', o1, .d (.int g), o3, o4, o5, o6, o7, .un, .un, .d (.int k), .un], by simp, rfl, ?_, rfl, q4, by simp, w', by simp, hw'.mono (by omega)⟩
      simp [hw.un, e4]) (by rw [rangeL_length]; simp; omega) ⟨u2, rfl, v2.mono (by omega)⟩
  rw [rangeL_length] at l3 v3
  have hr : okR (rn : Int) = true := okR_nat (by omega)
  have s2 : S_l_law_right_1_2 [u1, o1, .d (.int g), o3, o4, o5, o6, o7, .un, .un, .un, .un] = .nx [u3, o1, .d (.int g), .d (.lst zs), o4, o5, o6, o7, .un, .un, .un, .un] := by
    rw [List.nil_append] at f3
    simp [S_l_law_right_1_2, v1.un, e2, hr, f3]
  -- the tree
  obtain ⟨t, u4, e4, ht, v4⟩ := tree_eq g 70 (zs := zs) v3 (by omega) (by omega) (by omega) h3
  have s3 : S_l_law_right_1_3 [u3, o1, .d (.int g), .d (.lst zs), o4, o5, o6, o7, .un, .un, .un, .un] = .nx [u4, o1, .d (.int g), .d (.lst zs), .d t, o5, o6, o7, .un, .un, .un, .un] := by
    simp [S_l_law_right_1_3, v3.un, e4]
  have td : Td 99 t := td_le ht.td (by omega)
  have s4 : S_l_law_right_1_4 [u4, o1, .d (.int g), .d (.lst zs), .d t, o5, o6, o7, .un, .un, .un, .un] = .nx [u4, o1, .d (.int g), .d (.lst zs), .d t, o5, o6, o7, .un, .un, .un, .un] :=
    ask_ok td _ 2 4 rfl rfl
  have eh : F_heights_in [.d t] = .ok (.fl zs, [.d t]) := by
    have e := heights_eq 70 ht (by omega) (by omega)
    simp [F_heights_in, bodyF_ap, B_heights_in, e]
  have el := alike_lst (n := 70) (by decide) h3 (by omega)
  obtain ⟨x, j1, j2⟩ := asked (g := g) td
  have s5 : S_l_law_right_1_5 [u4, o1, .d (.int g), .d (.lst zs), .d t, o5, o6, o7, .un, .un, .un, .un] = .nx [u4, o1, .d (.int g), .d (.lst zs), .d t, o5, o6, o7, .un, .un, .un, .un] := by
    cases q : x.isSome with
    | false =>
      have q2 := encJ_non x
      rw [q] at q2
      simp [S_l_law_right_1_5, j1, q2]
    | true =>
      have q2 := encJ_non x
      rw [q] at q2
      simp [S_l_law_right_1_5, j1, q2, eh, el]
  -- bent
  obtain ⟨e6, f6, u5, p5, p6, rfl, v5⟩ := forL_ev (tgt := nameG 5) (body := S_l_law_right_1_6L) (ds := rangeL 0 12) (fun j env => ∃ u p5 p6, env = [u, o1, .d (.int g), .d (.lst zs), .d t, p5, p6, o7, .un, .un, .un, .un] ∧ Urn (c + 2 + 2 * (0 + rn) + zs.length + 140 * j) u)
    (env := [u4, o1, .d (.int g), .d (.lst zs), .d t, o5, o6, o7, .un, .un, .un, .un]) (fun k d env hk ⟨w, p5, p6, e, hw⟩ => by
      subst e
      obtain ⟨hk1, rfl⟩ := rangeL_get hk
      obtain ⟨b, w', e5, hb, hw'⟩ := bent_eq g 70 hw (by omega) (by omega) (by omega) ht
      have sa : S_l_law_right_1_6_1 [w, o1, .d (.int g), .d (.lst zs), .d t, .d (.int k), p6, o7, .un, .un, .un, .un] = .nx [w', o1, .d (.int g), .d (.lst zs), .d t, .d (.int k), .d b, o7, .un, .un, .un, .un] := by
        simp [S_l_law_right_1_6_1, hw.un, e5]
      have sb : S_l_law_right_1_6_2 [w', o1, .d (.int g), .d (.lst zs), .d t, .d (.int k), .d b, o7, .un, .un, .un, .un] = .nx [w', o1, .d (.int g), .d (.lst zs), .d t, .d (.int k), .d b, o7, .un, .un, .un, .un] :=
        ask_ok (td_le hb (by omega)) _ 2 6 rfl rfl
      refine ⟨[w, o1, .d (.int g), .d (.lst zs), .d t, .d (.int k), p6, o7, .un, .un, .un, .un], [w', o1, .d (.int g), .d (.lst zs), .d t, .d (.int k), .d b, o7, .un, .un, .un, .un], by simp, ?_, w', _, _, rfl, hw'.mono (by omega)⟩
      simp [S_l_law_right_1_6L, sa, sb]) ⟨u4, o5, o6, rfl, v4⟩
  rw [rangeL_length] at v5
  have k12 : okR 12 = true := rfl
  have s6 : S_l_law_right_1_6 [u4, o1, .d (.int g), .d (.lst zs), .d t, o5, o6, o7, .un, .un, .un, .un] = .nx [u5, o1, .d (.int g), .d (.lst zs), .d t, p5, p6, o7, .un, .un, .un, .un] := by
    simp [S_l_law_right_1_6, k12, f6]
  -- another guess
  obtain ⟨z, u6, e7, hz7, v6⟩ := one_eq (ds := [.int (g + 1), .int g, .int (2 * g)]) v5 (by omega) (by simp) (by simp)
  obtain ⟨g2, rfl⟩ : ∃ g, z = .int g := by
    simp only [List.mem_cons, List.not_mem_nil, or_false] at hz7
    rcases hz7 with rfl | rfl | rfl <;> exact ⟨_, rfl⟩
  have m2 : mulOk 2 g = true := mulOk_l (by decide)
  have s7 : S_l_law_right_1_7 [u5, o1, .d (.int g), .d (.lst zs), .d t, p5, p6, o7, .un, .un, .un, .un] = .nx [u6, o1, .d (.int g), .d (.lst zs), .d t, p5, p6, .d (.int g2), .un, .un, .un, .un] := by
    simp [S_l_law_right_1_7, v5.un, e7, m2]
  have s8 : S_l_law_right_1_8 [u6, o1, .d (.int g), .d (.lst zs), .d t, p5, p6, .d (.int g2), .un, .un, .un, .un] = .nx [u6, o1, .d (.int g), .d (.lst zs), .d t, p5, p6, .d (.int g2), .un, .un, .un, .un] :=
    ask_ok td _ 7 4 rfl rfl
  refine ⟨u6, .d (.int g), .d (.lst zs), .d t, p5, p6, .d (.int g2), ?_, v6.mono (by omega)⟩
  simp only [S_l_law_right_1L, seqS_ap, s1, s2, s3, s4, s5, s6, s7, s8, seq_nx]
def deepN : Nat → D
  | 0 => .non
  | n + 1 => .tup [deepN n, .int 0, .non, .int 1, .int 0]
theorem deep_td : ∀ n, Td n (deepN n)
  | 0 => td_non 0
  | n + 1 => td_five (deep_td n) (td_non n) rfl rfl rfl
theorem asked2 {g : Int} {t : D} (x : Option (Int × Int × Int)) (h : Td 99 t) (hx : spec g 99 t = x) : F_l_law_judged 100 [.d (.int g), .d t] = .ok (.d (encJ x), [.d (.int g), .d t]) ∧ F_tree_right [.d (.int g), .d t] = .ok (.d (.bl x.isSome), [.d (.int g), .d t]) := by
  obtain ⟨h1, h2⟩ := trees g 99 t h
  have h2 : F_measured 100 [.d (.int g), .d t] = .ok (.d (encM (spec g 99 t)), [.d (.int g), .d t]) := h2
  refine ⟨by rw [← hx]; exact h1, ?_⟩
  rw [hx] at h2
  cases x with
  | none => simp [F_tree_right, bodyF_ap, B_tree_right, h2, encM]
  | some x =>
    obtain ⟨a, b, c⟩ := x
    simp [F_tree_right, bodyF_ap, B_tree_right, h2, encM]
theorem deep_spec : spec 10 99 (deepN 90) = none := by rfl
def chN : Nat → D
  | 0 => .non
  | n + 1 => .tup [chN n, .int 3, .non, .int (n + 1 : Nat), .int (3 * (n + 1) : Nat)]
theorem ch_td : ∀ n, Td n (chN n)
  | 0 => td_non 0
  | n + 1 => td_five (ch_td n) (td_non n) rfl rfl rfl
theorem ch0 : F_l_law_chain [.d (.int 10), .d (.int 0)] = .ok (.d (chN 0), [.d (.int 10), .d (.int 0)]) := by rfl
theorem ch1 : F_l_law_chain [.d (.int 10), .d (.int 1)] = .ok (.d (chN 1), [.d (.int 10), .d (.int 1)]) := by rfl
theorem ch2 : F_l_law_chain [.d (.int 10), .d (.int 2)] = .ok (.d (chN 2), [.d (.int 10), .d (.int 2)]) := by rfl
theorem ch3 : F_l_law_chain [.d (.int 10), .d (.int 3)] = .ok (.d (chN 3), [.d (.int 10), .d (.int 3)]) := by rfl
theorem ch4 : F_l_law_chain [.d (.int 10), .d (.int 4)] = .ok (.d (chN 4), [.d (.int 10), .d (.int 4)]) := by rfl
theorem sp0 : (spec 10 99 (chN 0)) = some (0, 0, 0) := by rfl
theorem sp1 : (spec 10 99 (chN 1)) = some (1, 1, 3) := by rfl
theorem sp2 : (spec 10 99 (chN 2)) = some (2, 2, 6) := by rfl
theorem sp3 : (spec 10 99 (chN 3)) = none := by rfl
theorem sp4 : (spec 10 99 (chN 4)) = none := by rfl
end LW

set_option maxRecDepth 100000
set_option linter.all false
namespace LW
open PySem PySem.Spec PyProof.Rows L2 VL
theorem neD_bls (a b : List Bool) : neD (.lst (a.map D.bl)) (.lst (b.map D.bl)) = some (.d (.bl (!PyData.eqv (D.lst (a.map D.bl)).py (D.lst (b.map D.bl)).py))) :=
  neD_ok (n := 1) (m := 1) (ok_lst (n := 0) fun z m => by
    obtain ⟨x, _, rfl⟩ := List.mem_map.mp m
    exact ok_bl x) (ok_lst (n := 0) fun z m => by
    obtain ⟨x, _, rfl⟩ := List.mem_map.mp m
    exact ok_bl x)
theorem chains_ne : neD (.lst [.bl true, .bl true, .bl true, .bl false, .bl false]) (.lst [.bl true, .bl true, .bl true, .bl false, .bl false]) = some (.d (.bl false)) := by rfl
theorem right_eq {c : Nat} {u : O} (hu : Urn c u) (hc : c ≤ 3) : ∃ u', F_l_law_right [u] = .ok (.d (.bl true), [u']) := by
  obtain ⟨e1, f1, u1, p1, p2, p3, p4, p5, p6, p7, rfl, v1⟩ := forL_ev (tgt := nameG 1) (body := S_l_law_right_1L) (ds := rangeL 0 10) (fun j env => ∃ u p1 p2 p3 p4 p5 p6 p7, env = [u, p1, p2, p3, p4, p5, p6, p7, .un, .un, .un, .un] ∧ Urn (c + 2000 * j) u)
    (env := [u, .un, .un, .un, .un, .un, .un, .un, .un, .un, .un, .un]) (fun k d env hk ⟨w, p1, p2, p3, p4, p5, p6, p7, e, hw⟩ => by
      subst e
      obtain ⟨hk1, rfl⟩ := rangeL_get hk
      obtain ⟨u', q2, q3, q4, q5, q6, q7, e5, v5⟩ := turn_ok (o1 := .d (.int k)) (o2 := p2) (o3 := p3) (o4 := p4) (o5 := p5) (o6 := p6) (o7 := p7) hw (by omega)
      exact ⟨[w, .d (.int k), p2, p3, p4, p5, p6, p7, .un, .un, .un, .un], _, by simp, e5, u', _, _, _, _, _, _, _, rfl, v5.mono (by omega)⟩) ⟨u, .un, .un, .un, .un, .un, .un, .un, rfl, hu⟩
  have k10 : okR 10 = true := rfl
  have s1 : S_l_law_right_1 [u, .un, .un, .un, .un, .un, .un, .un, .un, .un, .un, .un] = .nx [u1, p1, p2, p3, p4, p5, p6, p7, .un, .un, .un, .un] := by
    simp [S_l_law_right_1, k10, f1]
  -- the deep one
  obtain ⟨e3, f3, q1, rfl⟩ := forL_ev (tgt := nameG 1) (body := S_l_law_right_3_1) (ds := rangeL 0 90) (fun j env => ∃ q1, env = [u1, q1, p2, p3, p4, p5, p6, p7, .d (deepN j), .un, .un, .un])
    (env := [u1, p1, p2, p3, p4, p5, p6, p7, .d .non, .un, .un, .un]) (fun k d env hk ⟨q1, e⟩ => by
      subst e
      obtain ⟨hk1, rfl⟩ := rangeL_get hk
      refine ⟨[u1, .d (.int k), p2, p3, p4, p5, p6, p7, .d (deepN k), .un, .un, .un], [u1, .d (.int k), p2, p3, p4, p5, p6, p7, .d (deepN (k + 1)), .un, .un, .un], by simp, ?_, _, rfl⟩
      simp [S_l_law_right_3_1, deepN]) ⟨p1, rfl⟩
  rw [rangeL_length] at f3
  have k90 : okR 90 = true := rfl
  have s3 : S_l_law_right_3 [u1, p1, p2, p3, p4, p5, p6, p7, .d .non, .un, .un, .un] = .nx [u1, q1, p2, p3, p4, p5, p6, p7, .d (deepN 90), .un, .un, .un] := by
    simp [S_l_law_right_3, k90, f3]
  obtain ⟨j0, t0⟩ := asked2 (g := 10) _ (td_le (ch_td 0) (by decide)) sp0
  obtain ⟨j1, t1⟩ := asked2 (g := 10) _ (td_le (ch_td 1) (by decide)) sp1
  obtain ⟨j2, t2⟩ := asked2 (g := 10) _ (td_le (ch_td 2) (by decide)) sp2
  obtain ⟨j3, t3⟩ := asked2 (g := 10) _ (td_le (ch_td 3) (by decide)) sp3
  obtain ⟨j4, t4⟩ := asked2 (g := 10) _ (td_le (ch_td 4) (by decide)) sp4
  have s4 : S_l_law_right_4 [u1, q1, p2, p3, p4, p5, p6, p7, .d (deepN 90), .un, .un, .un] = .nx [u1, q1, p2, p3, p4, p5, p6, p7, .d (deepN 90), .d (.lst [.bl true, .bl true, .bl true, .bl false, .bl false]), .un, .un] := by
    simp [S_l_law_right_4, lcL_cons, ch0, ch1, ch2, ch3, ch4, j0, j1, j2, j3, j4, encJ]
  have s5 : S_l_law_right_5 [u1, q1, p2, p3, p4, p5, p6, p7, .d (deepN 90), .d (.lst [.bl true, .bl true, .bl true, .bl false, .bl false]), .un, .un] = .nx [u1, q1, p2, p3, p4, p5, p6, p7, .d (deepN 90), .d (.lst [.bl true, .bl true, .bl true, .bl false, .bl false]), .un, .un] := by
    simp [S_l_law_right_5, lcL_cons, ch0, ch1, ch2, ch3, ch4, t0, t1, t2, t3, t4, chains_ne]
  obtain ⟨_, td⟩ := asked2 (g := 10) _ (td_le (deep_td 90) (by decide)) deep_spec
  obtain ⟨_, tn⟩ := asked2 (g := 1) (some (0, 0, 0)) (td_non 99) (by rfl)
  have hn : F_heights_in [.d .non] = .ok (.fl [], [.d .non]) := by
    have e := heights_eq 70 .leaf (by decide) (by decide)
    simp [F_heights_in, bodyF_ap, B_heights_in, e]
  have s6 : S_l_law_right_6 [u1, q1, p2, p3, p4, p5, p6, p7, .d (deepN 90), .d (.lst [.bl true, .bl true, .bl true, .bl false, .bl false]), .un, .un] = .rt (.d (.bl true)) [u1, q1, p2, p3, p4, p5, p6, p7, .d (deepN 90), .d (.lst [.bl true, .bl true, .bl true, .bl false, .bl false]), .un, .un] := by
    simp [S_l_law_right_6, td, tn, hn]
  refine ⟨u1, ?_⟩
  simp [F_l_law_right, bodyF_ap, B_l_law_right, s1, S_l_law_right_2, s3, s4, s5, s6]
theorem law_pure : ∀ ns : List Int, ns.length ≤ 63 → ∃ outs, F_law [.d (.scr (ns.map D.int))] = .ok (.d (.bl true), outs) := by
  intro ns hn
  -- the number of turns
  obtain ⟨m, hm, hm3⟩ : ∃ m : Nat, (if (if (ns.length : Int) < 3 then (ns.length : Int) else 3) > 1 then (if (ns.length : Int) < 3 then (ns.length : Int) else 3) else 1) = (m : Int) ∧ m ≤ 3 := by
    refine ⟨(if (if (ns.length : Int) < 3 then (ns.length : Int) else 3) > 1 then (if (ns.length : Int) < 3 then (ns.length : Int) else 3) else 1).toNat, ?_, ?_⟩ <;> split <;> split <;> omega
  obtain ⟨e, f, q, rfl⟩ := forL_ev (tgt := nameG 1) (body := S_law_1_1) (ds := rangeL 0 m) (fun j env => ∃ q, env = [.d (.scr (ns.map D.int)), q]) (env := [.d (.scr (ns.map D.int)), .un]) (fun k d env hk ⟨q, e⟩ => by
    subst e
    obtain ⟨hk1, rfl⟩ := rangeL_get hk
    obtain ⟨u, e1, hu⟩ := urn_eq (k := k) (by omega) hn
    obtain ⟨u', e2⟩ := right_eq hu (by omega)
    refine ⟨[.d (.scr (ns.map D.int)), .d (.int k)], [.d (.scr (ns.map D.int)), .d (.int k)], by simp, ?_, _, rfl⟩
    simp [S_law_1_1, e1, e2, hu.un]) ⟨.un, rfl⟩
  have hr : okR (m : Int) = true := okR_nat (by omega)
  refine ⟨[.d (.scr (ns.map D.int))], ?_⟩
  have s1 : S_law_1 [.d (.scr (ns.map D.int)), .un] = .nx [.d (.scr (ns.map D.int)), q] := by
    unfold S_law_1
    rw [forS_ap]
    have sr : srcN rangeD1 [(.val (opN maxD [(.val (cE (.int 1))), (.val (opN minD [(.val (cE (.int 3))), (.val (opN lenD [(.pk 0)]))]))]))] [.d (.scr (ns.map D.int)), .un] = .ok (rangeL 0 m, [.d (.scr (ns.map D.int)), .un]) := by
      simp [hm, hr]
    rw [sr, ER.then_ok, f]
  simp [F_law, bodyF_ap, B_law, s1, S_law_2]
end LW

set_option Elab.async false
set_option linter.all false
set_option maxRecDepth 100000
namespace LW
open PySem PySem.Spec PyProof.Rows L2 VL
theorem all_mk {l : PySem.W.OpenLaw} {w : World} {K : PySem.W.Frag} {h : Heap} {mg : Str → Option Value} {fa : Addr} (X : K.In h) (G : h.Ns mainGlobals mg) (hfa : mg "law" = some (.ref fa))
    {f0 : Addr} {od0 an0 : Option Addr} {sl0 : Array (Option Value)} {oc0 kV0 dc0 pm0 cd0 ct0 : Value}
    (a0 : PySem.W.nsIn K mainGlobals "_law_of" = some (some (.ref f0))) (l0 : K.lookup f0 = some ⟨oc0, od0, .func (PySem.W.fnOf "_law_of" "_law_of" (defArgs s_l_law_of) (defBody s_l_law_of) (defScope s_l_law_of) .none kV0 dc0 pm0 an0 cd0 ct0), sl0⟩) (c0 : PySem.W.codeIn K cd0 "_law_of" = true) (k0 : PySem.W.keepIn K (.ref f0) = true)
    {f1 : Addr} {od1 an1 : Option Addr} {sl1 : Array (Option Value)} {oc1 kV1 dc1 pm1 cd1 ct1 : Value}
    (a1 : PySem.W.nsIn K mainGlobals "_law_one" = some (some (.ref f1))) (l1 : K.lookup f1 = some ⟨oc1, od1, .func (PySem.W.fnOf "_law_one" "_law_one" (defArgs s_l_law_one) (defBody s_l_law_one) (defScope s_l_law_one) .none kV1 dc1 pm1 an1 cd1 ct1), sl1⟩) (c1 : PySem.W.codeIn K cd1 "_law_one" = true) (k1 : PySem.W.keepIn K (.ref f1) = true)
    {f2 : Addr} {od2 an2 : Option Addr} {sl2 : Array (Option Value)} {oc2 kV2 dc2 pm2 cd2 ct2 : Value}
    (a2 : PySem.W.nsIn K mainGlobals "_law_numbered" = some (some (.ref f2))) (l2 : K.lookup f2 = some ⟨oc2, od2, .func (PySem.W.fnOf "_law_numbered" "_law_numbered" (defArgs s_l_law_numbered) (defBody s_l_law_numbered) (defScope s_l_law_numbered) .none kV2 dc2 pm2 an2 cd2 ct2), sl2⟩) (c2 : PySem.W.codeIn K cd2 "_law_numbered" = true) (k2 : PySem.W.keepIn K (.ref f2) = true)
    {f3 : Addr} {od3 an3 : Option Addr} {sl3 : Array (Option Value)} {oc3 kV3 dc3 pm3 cd3 ct3 : Value}
    (a3 : PySem.W.nsIn K mainGlobals "_law_tree" = some (some (.ref f3))) (l3 : K.lookup f3 = some ⟨oc3, od3, .func (PySem.W.fnOf "_law_tree" "_law_tree" (defArgs s_l_law_tree) (defBody s_l_law_tree) (defScope s_l_law_tree) .none kV3 dc3 pm3 an3 cd3 ct3), sl3⟩) (c3 : PySem.W.codeIn K cd3 "_law_tree" = true) (k3 : PySem.W.keepIn K (.ref f3) = true)
    {f4 : Addr} {od4 an4 : Option Addr} {sl4 : Array (Option Value)} {oc4 kV4 dc4 pm4 cd4 ct4 : Value}
    (a4 : PySem.W.nsIn K mainGlobals "_law_drawn_height" = some (some (.ref f4))) (l4 : K.lookup f4 = some ⟨oc4, od4, .func (PySem.W.fnOf "_law_drawn_height" "_law_drawn_height" (defArgs s_l_law_drawn_height) (defBody s_l_law_drawn_height) (defScope s_l_law_drawn_height) .none kV4 dc4 pm4 an4 cd4 ct4), sl4⟩) (c4 : PySem.W.codeIn K cd4 "_law_drawn_height" = true) (k4 : PySem.W.keepIn K (.ref f4) = true)
    {f5 : Addr} {od5 an5 : Option Addr} {sl5 : Array (Option Value)} {oc5 kV5 dc5 pm5 cd5 ct5 : Value}
    (a5 : PySem.W.nsIn K mainGlobals "_law_alike" = some (some (.ref f5))) (l5 : K.lookup f5 = some ⟨oc5, od5, .func (PySem.W.fnOf "_law_alike" "_law_alike" (defArgs s_l_law_alike) (defBody s_l_law_alike) (defScope s_l_law_alike) .none kV5 dc5 pm5 an5 cd5 ct5), sl5⟩) (c5 : PySem.W.codeIn K cd5 "_law_alike" = true) (k5 : PySem.W.keepIn K (.ref f5) = true)
    {f6 : Addr} {od6 an6 : Option Addr} {sl6 : Array (Option Value)} {oc6 kV6 dc6 pm6 cd6 ct6 : Value}
    (a6 : PySem.W.nsIn K mainGlobals "_law_chain" = some (some (.ref f6))) (l6 : K.lookup f6 = some ⟨oc6, od6, .func (PySem.W.fnOf "_law_chain" "_law_chain" (defArgs s_l_law_chain) (defBody s_l_law_chain) (defScope s_l_law_chain) .none kV6 dc6 pm6 an6 cd6 ct6), sl6⟩) (c6 : PySem.W.codeIn K cd6 "_law_chain" = true) (k6 : PySem.W.keepIn K (.ref f6) = true)
    {f7 : Addr} {od7 an7 : Option Addr} {sl7 : Array (Option Value)} {oc7 kV7 dc7 pm7 cd7 ct7 : Value}
    (a7 : PySem.W.nsIn K mainGlobals "_law_bent" = some (some (.ref f7))) (l7 : K.lookup f7 = some ⟨oc7, od7, .func (PySem.W.fnOf "_law_bent" "_law_bent" (defArgs s_l_law_bent) (defBody s_l_law_bent) (defScope s_l_law_bent) .none kV7 dc7 pm7 an7 cd7 ct7), sl7⟩) (c7 : PySem.W.codeIn K cd7 "_law_bent" = true) (k7 : PySem.W.keepIn K (.ref f7) = true)
    {f8 : Addr} {od8 an8 : Option Addr} {sl8 : Array (Option Value)} {oc8 kV8 dc8 pm8 cd8 ct8 : Value}
    (a8 : PySem.W.nsIn K mainGlobals "_law_is_whole" = some (some (.ref f8))) (l8 : K.lookup f8 = some ⟨oc8, od8, .func (PySem.W.fnOf "_law_is_whole" "_law_is_whole" (defArgs s_l_law_is_whole) (defBody s_l_law_is_whole) (defScope s_l_law_is_whole) .none kV8 dc8 pm8 an8 cd8 ct8), sl8⟩) (c8 : PySem.W.codeIn K cd8 "_law_is_whole" = true) (k8 : PySem.W.keepIn K (.ref f8) = true)
    {f9 : Addr} {od9 an9 : Option Addr} {sl9 : Array (Option Value)} {oc9 kV9 dc9 pm9 cd9 ct9 : Value}
    (a9 : PySem.W.nsIn K mainGlobals "_law_judged" = some (some (.ref f9))) (l9 : K.lookup f9 = some ⟨oc9, od9, .func (PySem.W.fnOf "_law_judged" "_law_judged" (defArgs s_l_law_judged) (defBody s_l_law_judged) (defScope s_l_law_judged) .none kV9 dc9 pm9 an9 cd9 ct9), sl9⟩) (c9 : PySem.W.codeIn K cd9 "_law_judged" = true) (k9 : PySem.W.keepIn K (.ref f9) = true)
    {f10 : Addr} {od10 an10 : Option Addr} {sl10 : Array (Option Value)} {oc10 kV10 dc10 pm10 cd10 ct10 : Value}
    (a10 : PySem.W.nsIn K mainGlobals "is_integer" = some (some (.ref f10))) (l10 : K.lookup f10 = some ⟨oc10, od10, .func (PySem.W.fnOf "is_integer" "is_integer" (defArgs s_is_integer) (defBody s_is_integer) (defScope s_is_integer) .none kV10 dc10 pm10 an10 cd10 ct10), sl10⟩) (c10 : PySem.W.codeIn K cd10 "is_integer" = true) (k10 : PySem.W.keepIn K (.ref f10) = true)
    {f11 : Addr} {od11 an11 : Option Addr} {sl11 : Array (Option Value)} {oc11 kV11 dc11 pm11 cd11 ct11 : Value}
    (a11 : PySem.W.nsIn K mainGlobals "counted" = some (some (.ref f11))) (l11 : K.lookup f11 = some ⟨oc11, od11, .func (PySem.W.fnOf "counted" "counted" (defArgs s_counted) (defBody s_counted) (defScope s_counted) .none kV11 dc11 pm11 an11 cd11 ct11), sl11⟩) (c11 : PySem.W.codeIn K cd11 "counted" = true) (k11 : PySem.W.keepIn K (.ref f11) = true)
    {f12 : Addr} {od12 an12 : Option Addr} {sl12 : Array (Option Value)} {oc12 kV12 dc12 pm12 cd12 ct12 : Value}
    (a12 : PySem.W.nsIn K mainGlobals "measured" = some (some (.ref f12))) (l12 : K.lookup f12 = some ⟨oc12, od12, .func (PySem.W.fnOf "measured" "measured" (defArgs s_measured) (defBody s_measured) (defScope s_measured) .none kV12 dc12 pm12 an12 cd12 ct12), sl12⟩) (c12 : PySem.W.codeIn K cd12 "measured" = true) (k12 : PySem.W.keepIn K (.ref f12) = true)
    {f13 : Addr} {od13 an13 : Option Addr} {sl13 : Array (Option Value)} {oc13 kV13 dc13 pm13 cd13 ct13 : Value}
    (a13 : PySem.W.nsIn K mainGlobals "tree_right" = some (some (.ref f13))) (l13 : K.lookup f13 = some ⟨oc13, od13, .func (PySem.W.fnOf "tree_right" "tree_right" (defArgs s_tree_right) (defBody s_tree_right) (defScope s_tree_right) .none kV13 dc13 pm13 an13 cd13 ct13), sl13⟩) (c13 : PySem.W.codeIn K cd13 "tree_right" = true) (k13 : PySem.W.keepIn K (.ref f13) = true)
    {f14 : Addr} {od14 an14 : Option Addr} {sl14 : Array (Option Value)} {oc14 kV14 dc14 pm14 cd14 ct14 : Value}
    (a14 : PySem.W.nsIn K mainGlobals "heights_of" = some (some (.ref f14))) (l14 : K.lookup f14 = some ⟨oc14, od14, .func (PySem.W.fnOf "heights_of" "heights_of" (defArgs s_heights_of) (defBody s_heights_of) (defScope s_heights_of) .none kV14 dc14 pm14 an14 cd14 ct14), sl14⟩) (c14 : PySem.W.codeIn K cd14 "heights_of" = true) (k14 : PySem.W.keepIn K (.ref f14) = true)
    {f15 : Addr} {od15 an15 : Option Addr} {sl15 : Array (Option Value)} {oc15 kV15 dc15 pm15 cd15 ct15 : Value}
    (a15 : PySem.W.nsIn K mainGlobals "heights_in" = some (some (.ref f15))) (l15 : K.lookup f15 = some ⟨oc15, od15, .func (PySem.W.fnOf "heights_in" "heights_in" (defArgs s_heights_in) (defBody s_heights_in) (defScope s_heights_in) .none kV15 dc15 pm15 an15 cd15 ct15), sl15⟩) (c15 : PySem.W.codeIn K cd15 "heights_in" = true) (k15 : PySem.W.keepIn K (.ref f15) = true)
    {f16 : Addr} {od16 an16 : Option Addr} {sl16 : Array (Option Value)} {oc16 kV16 dc16 pm16 cd16 ct16 : Value}
    (a16 : PySem.W.nsIn K mainGlobals "_law_right" = some (some (.ref f16))) (l16 : K.lookup f16 = some ⟨oc16, od16, .func (PySem.W.fnOf "_law_right" "_law_right" (defArgs s_l_law_right) (defBody s_l_law_right) (defScope s_l_law_right) .none kV16 dc16 pm16 an16 cd16 ct16), sl16⟩) (c16 : PySem.W.codeIn K cd16 "_law_right" = true) (k16 : PySem.W.keepIn K (.ref f16) = true)
    {f17 : Addr} {od17 an17 : Option Addr} {sl17 : Array (Option Value)} {oc17 kV17 dc17 pm17 cd17 ct17 : Value}
    (a17 : PySem.W.nsIn K mainGlobals "_law_urn" = some (some (.ref f17))) (l17 : K.lookup f17 = some ⟨oc17, od17, .func (PySem.W.fnOf "_law_urn" "_law_urn" (defArgs s_l_law_urn) (defBody s_l_law_urn) (defScope s_l_law_urn) .none kV17 dc17 pm17 an17 cd17 ct17), sl17⟩) (c17 : PySem.W.codeIn K cd17 "_law_urn" = true) (k17 : PySem.W.keepIn K (.ref f17) = true)
    {f18 : Addr} {od18 an18 : Option Addr} {sl18 : Array (Option Value)} {oc18 kV18 dc18 pm18 cd18 ct18 : Value}
    (a18 : PySem.W.nsIn K mainGlobals "law" = some (some (.ref f18))) (l18 : K.lookup f18 = some ⟨oc18, od18, .func (PySem.W.fnOf "law" "law" (defArgs s_law) (defBody s_law) (defScope s_law) .none kV18 dc18 pm18 an18 cd18 ct18), sl18⟩) (c18 : PySem.W.codeIn K cd18 "law" = true) (k18 : PySem.W.keepIn K (.ref f18) = true)
    (z0 : PySem.W.nsIn K mainGlobals "abs" = some none)
    (z1 : PySem.W.nsIn K mainGlobals "bool" = some none)
    (z2 : PySem.W.nsIn K mainGlobals "dict" = some none)
    (z3 : PySem.W.nsIn K mainGlobals "enumerate" = some none)
    (z4 : PySem.W.nsIn K mainGlobals "int" = some none)
    (z5 : PySem.W.nsIn K mainGlobals "isinstance" = some none)
    (z6 : PySem.W.nsIn K mainGlobals "len" = some none)
    (z7 : PySem.W.nsIn K mainGlobals "list" = some none)
    (z8 : PySem.W.nsIn K mainGlobals "max" = some none)
    (z9 : PySem.W.nsIn K mainGlobals "min" = some none)
    (z10 : PySem.W.nsIn K mainGlobals "range" = some none)
    (z11 : PySem.W.nsIn K mainGlobals "str" = some none)
    (z12 : PySem.W.nsIn K mainGlobals "sum" = some none)
    (z13 : PySem.W.nsIn K mainGlobals "tuple" = some none)
    : ∃ fd : FuncData, (∀ (s : Shared) (v : Value), BindsTo s fd ⟨[v], []⟩ [("script", v)]) ∧ ∀ base : Heap, K.In base → base.Ns mainGlobals mg → FnOk l.prog w K mg base (L2.CX l.prog w) 104 fa fd ["script"] (spT K) := by
  have e := hfa.symm.trans (PySem.W.mg_of X G a18)
  have e2 : fa = f18 := by
    cases e
    rfl
  rw [e2]
  have F0 := fun_mk (st := s_l_law_of) l0 c0 k0
  have F1 := fun_mk (st := s_l_law_one) l1 c1 k1
  have F2 := fun_mk (st := s_l_law_numbered) l2 c2 k2
  have F3 := fun_mk (st := s_l_law_tree) l3 c3 k3
  have F4 := fun_mk (st := s_l_law_drawn_height) l4 c4 k4
  have F5 := fun_mk (st := s_l_law_alike) l5 c5 k5
  have F6 := fun_mk (st := s_l_law_chain) l6 c6 k6
  have F7 := fun_mk (st := s_l_law_bent) l7 c7 k7
  have F8 := fun_mk (st := s_l_law_is_whole) l8 c8 k8
  have F9 := fun_mk (st := s_l_law_judged) l9 c9 k9
  have F10 := fun_mk (st := s_is_integer) l10 c10 k10
  have F11 := fun_mk (st := s_counted) l11 c11 k11
  have F12 := fun_mk (st := s_measured) l12 c12 k12
  have F13 := fun_mk (st := s_tree_right) l13 c13 k13
  have F14 := fun_mk (st := s_heights_of) l14 c14 k14
  have F15 := fun_mk (st := s_heights_in) l15 c15 k15
  have F16 := fun_mk (st := s_l_law_right) l16 c16 k16
  have F17 := fun_mk (st := s_l_law_urn) l17 c17 k17
  have F18 := fun_mk (st := s_law) l18 c18 k18
  let T : Txt K mg := {
    l_law_of := ⟨f0, _, F0, F0.binds fun _ _ _ _ _ _ us hl => (match us, hl with | [_, _], _ => rfl), PySem.W.mg_of X G a0⟩
    l_law_one := ⟨f1, _, F1, F1.binds fun _ _ _ _ _ _ us hl => (match us, hl with | [_, _], _ => rfl), PySem.W.mg_of X G a1⟩
    l_law_numbered := ⟨f2, _, F2, F2.binds fun _ _ _ _ _ _ us hl => (match us, hl with | [_, _, _, _], _ => rfl), PySem.W.mg_of X G a2⟩
    l_law_tree := ⟨f3, _, F3, F3.binds fun _ _ _ _ _ _ us hl => (match us, hl with | [_, _, _], _ => rfl), PySem.W.mg_of X G a3⟩
    l_law_drawn_height := ⟨f4, _, F4, F4.binds fun _ _ _ _ _ _ us hl => (match us, hl with | [_], _ => rfl), PySem.W.mg_of X G a4⟩
    l_law_alike := ⟨f5, _, F5, F5.binds fun _ _ _ _ _ _ us hl => (match us, hl with | [_, _], _ => rfl), PySem.W.mg_of X G a5⟩
    l_law_chain := ⟨f6, _, F6, F6.binds fun _ _ _ _ _ _ us hl => (match us, hl with | [_, _], _ => rfl), PySem.W.mg_of X G a6⟩
    l_law_bent := ⟨f7, _, F7, F7.binds fun _ _ _ _ _ _ us hl => (match us, hl with | [_, _, _], _ => rfl), PySem.W.mg_of X G a7⟩
    l_law_is_whole := ⟨f8, _, F8, F8.binds fun _ _ _ _ _ _ us hl => (match us, hl with | [_], _ => rfl), PySem.W.mg_of X G a8⟩
    l_law_judged := ⟨f9, _, F9, F9.binds fun _ _ _ _ _ _ us hl => (match us, hl with | [_, _], _ => rfl), PySem.W.mg_of X G a9⟩
    is_integer := ⟨f10, _, F10, F10.binds fun _ _ _ _ _ _ us hl => (match us, hl with | [_], _ => rfl), PySem.W.mg_of X G a10⟩
    counted := ⟨f11, _, F11, F11.binds fun _ _ _ _ _ _ us hl => (match us, hl with | [_, _], _ => rfl), PySem.W.mg_of X G a11⟩
    measured := ⟨f12, _, F12, F12.binds fun _ _ _ _ _ _ us hl => (match us, hl with | [_, _], _ => rfl), PySem.W.mg_of X G a12⟩
    tree_right := ⟨f13, _, F13, F13.binds fun _ _ _ _ _ _ us hl => (match us, hl with | [_, _], _ => rfl), PySem.W.mg_of X G a13⟩
    heights_of := ⟨f14, _, F14, F14.binds fun _ _ _ _ _ _ us hl => (match us, hl with | [_], _ => rfl), PySem.W.mg_of X G a14⟩
    heights_in := ⟨f15, _, F15, F15.binds fun _ _ _ _ _ _ us hl => (match us, hl with | [_], _ => rfl), PySem.W.mg_of X G a15⟩
    l_law_right := ⟨f16, _, F16, F16.binds fun _ _ _ _ _ _ us hl => (match us, hl with | [_], _ => rfl), PySem.W.mg_of X G a16⟩
    l_law_urn := ⟨f17, _, F17, F17.binds fun _ _ _ _ _ _ us hl => (match us, hl with | [_, _], _ => rfl), PySem.W.mg_of X G a17⟩
    law := ⟨f18, _, F18, F18.binds fun _ _ _ _ _ _ us hl => (match us, hl with | [_], _ => rfl), PySem.W.mg_of X G a18⟩
    n_abs := PySem.W.mg_none_of X G z0
    n_bool := PySem.W.mg_none_of X G z1
    n_dict := PySem.W.mg_none_of X G z2
    n_enumerate := PySem.W.mg_none_of X G z3
    n_int := PySem.W.mg_none_of X G z4
    n_isinstance := PySem.W.mg_none_of X G z5
    n_len := PySem.W.mg_none_of X G z6
    n_list := PySem.W.mg_none_of X G z7
    n_max := PySem.W.mg_none_of X G z8
    n_min := PySem.W.mg_none_of X G z9
    n_range := PySem.W.mg_none_of X G z10
    n_str := PySem.W.mg_none_of X G z11
    n_sum := PySem.W.mg_none_of X G z12
    n_tuple := PySem.W.mg_none_of X G z13
  }
  exact ⟨T.law.fd, fun s v => .of_eq rfl, fun base _ _ => law_fn (ok_law T) law_pure⟩
end LW
open PySem PySem.W PyProof.Rows
set_option maxHeartbeats 0 in
theorem PySem.Challenge.cw_listworks_k80_trees_of_heights_holds : PySem.Challenge.rw_listworks_k80_trees_of_heights.Holds := by
  w_on; o_law; k_head; (case hw => w_witness2)
  k_fill
  refine L2.walk_of (l := PySem.Challenge.rw_listworks_k80_trees_of_heights) (n := 63) (k := 104) (x := "script") (CX := fun w => L2.CX PySem.Challenge.pw_listworks_k80_trees_of_heights w) (sp := fun w => VL.spT _) rfl (by decide) rfl ⟨rfl, by decide, by decide⟩ (fun w h Y => PySem.W.kIn_of Y) ?F (fun _ _ a ns hl _ hS => ⟨a, ns, rfl, hl, hS, fun _ => rfl⟩) (fun _ _ _ _ _ ⟨_, _, _, _, _, _, _, _, _, _, _, _, h⟩ => h)
  case F =>
    intro w mg fa h KX G hmg
    refine' LW.all_mk (l := PySem.Challenge.rw_listworks_k80_trees_of_heights) KX G hmg ?a0 ?l0 ?c0 ?k0 ?a1 ?l1 ?c1 ?k1 ?a2 ?l2 ?c2 ?k2 ?a3 ?l3 ?c3 ?k3 ?a4 ?l4 ?c4 ?k4 ?a5 ?l5 ?c5 ?k5 ?a6 ?l6 ?c6 ?k6 ?a7 ?l7 ?c7 ?k7 ?a8 ?l8 ?c8 ?k8 ?a9 ?l9 ?c9 ?k9 ?a10 ?l10 ?c10 ?k10 ?a11 ?l11 ?c11 ?k11 ?a12 ?l12 ?c12 ?k12 ?a13 ?l13 ?c13 ?k13 ?a14 ?l14 ?c14 ?k14 ?a15 ?l15 ?c15 ?k15 ?a16 ?l16 ?c16 ?k16 ?a17 ?l17 ?c17 ?k17 ?a18 ?l18 ?c18 ?k18 ?z0 ?z1 ?z2 ?z3 ?z4 ?z5 ?z6 ?z7 ?z8 ?z9 ?z10 ?z11 ?z12 ?z13
    (case a0 => k_is); (case l0 => k_is); (case c0 => k_is); (case k0 => k_is); (case a1 => k_is); (case l1 => k_is); (case c1 => k_is); (case k1 => k_is); (case a2 => k_is); (case l2 => k_is); (case c2 => k_is); (case k2 => k_is); (case a3 => k_is); (case l3 => k_is); (case c3 => k_is); (case k3 => k_is); (case a4 => k_is); (case l4 => k_is); (case c4 => k_is); (case k4 => k_is); (case a5 => k_is); (case l5 => k_is); (case c5 => k_is); (case k5 => k_is); (case a6 => k_is); (case l6 => k_is); (case c6 => k_is); (case k6 => k_is); (case a7 => k_is); (case l7 => k_is); (case c7 => k_is); (case k7 => k_is); (case a8 => k_is); (case l8 => k_is); (case c8 => k_is); (case k8 => k_is); (case a9 => k_is); (case l9 => k_is); (case c9 => k_is); (case k9 => k_is); (case a10 => k_is); (case l10 => k_is); (case c10 => k_is); (case k10 => k_is); (case a11 => k_is); (case l11 => k_is); (case c11 => k_is); (case k11 => k_is); (case a12 => k_is); (case l12 => k_is); (case c12 => k_is); (case k12 => k_is); (case a13 => k_is); (case l13 => k_is); (case c13 => k_is); (case k13 => k_is); (case a14 => k_is); (case l14 => k_is); (case c14 => k_is); (case k14 => k_is); (case a15 => k_is); (case l15 => k_is); (case c15 => k_is); (case k15 => k_is); (case a16 => k_is); (case l16 => k_is); (case c16 => k_is); (case k16 => k_is); (case a17 => k_is); (case l17 => k_is); (case c17 => k_is); (case k17 => k_is); (case a18 => k_is); (case l18 => k_is); (case c18 => k_is); (case k18 => k_is); (case z0 => k_is); (case z1 => k_is); (case z2 => k_is); (case z3 => k_is); (case z4 => k_is); (case z5 => k_is); (case z6 => k_is); (case z7 => k_is); (case z8 => k_is); (case z9 => k_is); (case z10 => k_is); (case z11 => k_is); (case z12 => k_is); (case z13 => k_is)

