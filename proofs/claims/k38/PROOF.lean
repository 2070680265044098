import PyProof.Rows.All
import HandS.ForMost
import HandS.Exc
import HandS.ExcOwn
import HandS.TryOnly
import HandS.TryMany
import HandS.WordsExc
import HandS.IsInst
import HandS.Wide
import HandS.CallSlots
import HandS.Deep
import HandS.Style
import HandS.TupAny
import KE.KExcSuper
import HandS.ExcField
import HandS.SortInts
import HandS.SetFor
import HandS.Strs
import HandS.Conv
import PyProof.ListRange
import KE.GoesEnum
import HandS.Iter
import HandS.Zip
import PySem.Challenge.RW_listworks_k38_whole_short_forms_joined_i
import OpenK.AllK
set_option Elab.async false
set_option linter.all false
set_option maxRecDepth 100000
namespace VL
open PySem PySem.Spec PyProof.Rows L2

inductive D where
  | non | bl (b : Bool) | int (i : Int) | str (x : Str) | ref (a : Addr) | ty (n : String) | fn (x : Str)
  | lst (xs : List D) | scr (xs : List D) | tup (xs : List D)
  | dk (kvs : List (Key × D)) | dt (kvs : List (List Key × D))
  | ins (C : Addr) (fs : List (Str × D))
instance : Inhabited D := ⟨.non⟩
mutual
def D.py : D → PyData
  | .non => .none
  | .bl b => .bool b
  | .int i => .int i
  | .str x => .str x
  | .lst xs => .list (D.pys xs)
  | .scr xs => .list (D.pys xs)
  | .tup xs => .tuple (D.pys xs)
  | .ref _ => .dict []
  | .ty _ => .dict []
  | .fn _ => .dict []
  | .dk _ => .dict []
  | .dt _ => .dict []
  | .ins _ _ => .dict []
def D.pys : List D → List PyData
  | [] => []
  | x :: xs => D.py x :: D.pys xs
end
theorem D.pys_eq : ∀ xs : List D, D.pys xs = xs.map D.py
  | [] => by rw [D.pys]; rfl
  | x :: xs => by rw [D.pys, D.pys_eq xs]; rfl

/-- what a slot holds: nothing known, data that stays, a list of its own (its items stay), an instance of its own; a list of its own, a tuple, with parts of their own -/
inductive O where
  | un | d (x : D) | fl (xs : List D) | ob (C : Addr) (fs : List (Str × D)) | ls (os : List O) | tp (os : List O)
instance : Inhabited O := ⟨.un⟩
mutual
def O.toD : O → D
  | .un => .non
  | .d x => x
  | .fl xs => .lst xs
  | .ob C fs => .ins C fs
  | .ls os => .lst (O.toDs os)
  | .tp os => .tup (O.toDs os)
def O.toDs : List O → List D
  | [] => []
  | o :: os => O.toD o :: O.toDs os
end
mutual
/-- something in it is not known -/
def O.isUn : O → Bool
  | .un => true
  | .d _ => false
  | .fl _ => false
  | .ob _ _ => false
  | .ls os => O.anyUn os
  | .tp os => O.anyUn os
def O.anyUn : List O → Bool
  | [] => false
  | o :: os => O.isUn o || O.anyUn os
end
/-- its parts are data -/
def O.plain : O → Bool
  | .ls _ => false
  | .tp _ => false
  | _ => true
abbrev Ev := List O
/-- what an evaluation comes to -/
inductive ER (α : Type) where
  | ok (a : α) | ex (c : Str) (x : D) (env : Ev) | st

/-- a tuple of the written part -/
def KTup (K : PySem.W.Frag) (a : Addr) (xs : List V) : Prop :=
  ∃ (o : Obj) (its : Array Value) (n : Nat), K.lookup a = some o ∧ o.cls = .type "tuple" ∧ o.data = .seq its n ∧ its.size ≤ sizeLine ∧ Vals xs its.toList
def KLst (K : PySem.W.Frag) (a : Addr) (xs : List V) : Prop :=
  ∃ (o : Obj) (its : Array Value) (n : Nat), K.lookup a = some o ∧ o.cls = .type "list" ∧ o.dict = none ∧ o.data = .seq its n ∧ its.size ≤ sizeLine ∧ Vals xs its.toList
mutual
inductive RD (K : PySem.W.Frag) (av : Addr → Prop) (H : Hp) : V → D → Prop
  | non : RD K av H .non .non
  | bl (b : Bool) : RD K av H (.bl b) (.bl b)
  | int (i : Int) : RD K av H (.int i) (.int i)
  | str (x : Str) : RD K av H (.str x) (.str x)
  | ref (a : Addr) : RD K av H (.ref a) (.ref a)
  | ty (n : String) : RD K av H (.ty n) (.ty n)
  | fn {x : Str} {a : Addr} : PySem.W.nsIn K mainGlobals x = some (some (.ref a)) → RD K av H (.ref a) (.fn x)
  | lst {a : Addr} {vs : List V} {ds : List D} : ¬ av a → H a = some (.lst vs) → RDs K av H vs ds → RD K av H (.ref a) (.lst ds)
  | scr {a : Addr} {vs : List V} {ds : List D} : ¬ av a → Rd H a (.lst vs) → RDs K av H vs ds → RD K av H (.ref a) (.scr ds)
  | kscr {a : Addr} {vs : List V} {ds : List D} : KLst K a vs → RDs K av H vs ds → RD K av H (.ref a) (.scr ds)
  | tup {a : Addr} {vs : List V} {ds : List D} : ¬ av a → H a = some (.tup vs) → RDs K av H vs ds → RD K av H (.ref a) (.tup ds)
  | ktup {a : Addr} {vs : List V} {ds : List D} : KTup K a vs → RDs K av H vs ds → RD K av H (.ref a) (.tup ds)
  | dk {a : Addr} {kvs : List (Key × V)} {ds : List (Key × D)} : ¬ av a → H a = some (.dK kvs) → RDk K av H kvs ds → RD K av H (.ref a) (.dk ds)
  | dt {a : Addr} {kvs : List (List Key × V)} {ds : List (List Key × D)} : ¬ av a → H a = some (.dT kvs) → RDt K av H kvs ds → RD K av H (.ref a) (.dt ds)
  | ins {a C dx : Addr} {fs : List (Str × V)} {ds : List (Str × D)} : ¬ av a → H a = some (.ins C dx fs) → RDf K av H fs ds → RD K av H (.ref a) (.ins C ds)
inductive RDs (K : PySem.W.Frag) (av : Addr → Prop) (H : Hp) : List V → List D → Prop
  | nil : RDs K av H [] []
  | cons {v : V} {d : D} {vs : List V} {ds : List D} : RD K av H v d → RDs K av H vs ds → RDs K av H (v :: vs) (d :: ds)
inductive RDk (K : PySem.W.Frag) (av : Addr → Prop) (H : Hp) : List (Key × V) → List (Key × D) → Prop
  | nil : RDk K av H [] []
  | cons {k : Key} {v : V} {d : D} {vs : List (Key × V)} {ds : List (Key × D)} : RD K av H v d → RDk K av H vs ds → RDk K av H ((k, v) :: vs) ((k, d) :: ds)
inductive RDt (K : PySem.W.Frag) (av : Addr → Prop) (H : Hp) : List (List Key × V) → List (List Key × D) → Prop
  | nil : RDt K av H [] []
  | cons {k : List Key} {v : V} {d : D} {vs : List (List Key × V)} {ds : List (List Key × D)} : RD K av H v d → RDt K av H vs ds → RDt K av H ((k, v) :: vs) ((k, d) :: ds)
inductive RDf (K : PySem.W.Frag) (av : Addr → Prop) (H : Hp) : List (Str × V) → List (Str × D) → Prop
  | nil : RDf K av H [] []
  | cons {k : Str} {v : V} {d : D} {vs : List (Str × V)} {ds : List (Str × D)} : RD K av H v d → RDf K av H vs ds → RDf K av H ((k, v) :: vs) ((k, d) :: ds)
end

section
variable {K : PySem.W.Frag} {av av' : Addr → Prop} {H H' : Hp}
/-- what is kept for data: nothing that it leans on is owned now, all of it stands as before -/
structure Keep (av av' : Addr → Prop) (H H' : Hp) : Prop where
  own : ∀ a, ¬ av a → (H a).isSome = true → ¬ av' a
  at_ : ∀ a o, ¬ av a → H a = some o → H' a = some o
theorem Keep.rd {a : Addr} {u : HO} (k : Keep av av' H H') (n : ¬ av a) (h : Rd H a u) : ¬ av' a ∧ Rd H' a u := by
  rcases h with h | ⟨o, h⟩
  · exact ⟨k.own a n (by rw [h]; rfl), .inl (k.at_ _ _ n h)⟩
  · exact ⟨k.own a n (by rw [h]; rfl), .inr ⟨o, k.at_ _ _ n h⟩⟩
mutual
theorem RD.keep (k : Keep av av' H H') : ∀ {v : V} {d : D}, RD K av H v d → RD K av' H' v d
  | _, _, .non => .non
  | _, _, .bl b => .bl b
  | _, _, .int i => .int i
  | _, _, .str x => .str x
  | _, _, .ref a => .ref a
  | _, _, .ty n => .ty n
  | _, _, .fn h => .fn h
  | _, _, .lst n h r => .lst (k.own _ n (by rw [h]; rfl)) (k.at_ _ _ n h) (RDs.keep k r)
  | _, _, .scr n h r => .scr (k.rd n h).1 (k.rd n h).2 (RDs.keep k r)
  | _, _, .kscr h r => .kscr h (RDs.keep k r)
  | _, _, .tup n h r => .tup (k.own _ n (by rw [h]; rfl)) (k.at_ _ _ n h) (RDs.keep k r)
  | _, _, .ktup h r => .ktup h (RDs.keep k r)
  | _, _, .dk n h r => .dk (k.own _ n (by rw [h]; rfl)) (k.at_ _ _ n h) (RDk.keep k r)
  | _, _, .dt n h r => .dt (k.own _ n (by rw [h]; rfl)) (k.at_ _ _ n h) (RDt.keep k r)
  | _, _, .ins n h r => .ins (k.own _ n (by rw [h]; rfl)) (k.at_ _ _ n h) (RDf.keep k r)
theorem RDs.keep (k : Keep av av' H H') : ∀ {v : List V} {d : List D}, RDs K av H v d → RDs K av' H' v d
  | _, _, .nil => .nil
  | _, _, .cons h r => .cons (RD.keep k h) (RDs.keep k r)
theorem RDk.keep (k : Keep av av' H H') : ∀ {v : List (Key × V)} {d : List (Key × D)}, RDk K av H v d → RDk K av' H' v d
  | _, _, .nil => .nil
  | _, _, .cons h r => .cons (RD.keep k h) (RDk.keep k r)
theorem RDt.keep (k : Keep av av' H H') : ∀ {v : List (List Key × V)} {d : List (List Key × D)}, RDt K av H v d → RDt K av' H' v d
  | _, _, .nil => .nil
  | _, _, .cons h r => .cons (RD.keep k h) (RDt.keep k r)
theorem RDf.keep (k : Keep av av' H H') : ∀ {v : List (Str × V)} {d : List (Str × D)}, RDf K av H v d → RDf K av' H' v d
  | _, _, .nil => .nil
  | _, _, .cons h r => .cons (RD.keep k h) (RDf.keep k r)
end
/-- fewer are owned, all stands -/
def Grow (H H' : Hp) : Prop := ∀ a o, H a = some o → H' a = some o
theorem Grow.refl (H : Hp) : Grow H H := fun _ _ h => h
theorem Grow.trans {H H1 H2 : Hp} (a : Grow H H1) (b : Grow H1 H2) : Grow H H2 := fun x o h => b x o (a x o h)
theorem Grow.new {H : Hp} {p : Addr} {o : HO} (h : H p = none) : Grow H (upd H p o) := fun a u e => by
  rw [upd_ne (ne_of_none e h)]
  exact e
theorem Keep.grow (g : Grow H H') (s : ∀ a, av' a → av a) : Keep av av' H H' := ⟨fun a n _ h => n (s a h), fun a o _ h => g a o h⟩
theorem RDs.length : ∀ {vs : List V} {ds : List D}, RDs K av H vs ds → vs.length = ds.length
  | _, _, .nil => rfl
  | _, _, .cons _ r => by rw [List.length_cons, List.length_cons, r.length]
theorem RDs.get : ∀ {vs : List V} {ds : List D} {i : Nat} {v : V}, RDs K av H vs ds → vs[i]? = some v → ∃ d, ds[i]? = some d ∧ RD K av H v d
  | _, _, _, _, .nil, e => by simp at e
  | _, _, 0, _, .cons h _, e => by
    simp only [List.getElem?_cons_zero, Option.some.injEq] at e
    subst e
    exact ⟨_, rfl, h⟩
  | _, _, i + 1, _, .cons _ r, e => by
    simp only [List.getElem?_cons_succ] at e ⊢
    exact RDs.get r e
theorem RDs.getD : ∀ {vs : List V} {ds : List D} {i : Nat} {d : D}, RDs K av H vs ds → ds[i]? = some d → ∃ v, vs[i]? = some v ∧ RD K av H v d
  | _, _, _, _, .nil, e => by simp at e
  | _, _, 0, _, .cons h _, e => by
    simp only [List.getElem?_cons_zero, Option.some.injEq] at e
    subst e
    exact ⟨_, rfl, h⟩
  | _, _, i + 1, _, .cons _ r, e => by
    simp only [List.getElem?_cons_succ] at e ⊢
    exact RDs.getD r e
theorem RDs.append : ∀ {vs ws : List V} {ds es : List D}, RDs K av H vs ds → RDs K av H ws es → RDs K av H (vs ++ ws) (ds ++ es)
  | _, _, _, _, .nil, r => r
  | _, _, _, _, .cons h t, r => .cons h (RDs.append t r)
theorem RDs.set {v : V} {d : D} (q : RD K av H v d) : ∀ {vs : List V} {ds : List D} (i : Nat), RDs K av H vs ds → RDs K av H (vs.set i v) (ds.set i d)
  | _, _, _, .nil => .nil
  | _, _, 0, .cons _ r => .cons q r
  | _, _, i + 1, .cons h r => .cons h (RDs.set q i r)
theorem RDs.take : ∀ {vs : List V} {ds : List D} (n : Nat), RDs K av H vs ds → RDs K av H (vs.take n) (ds.take n)
  | _, _, 0, _ => .nil
  | _, _, _ + 1, .nil => .nil
  | _, _, n + 1, .cons h r => .cons h (RDs.take n r)
theorem RDs.drop : ∀ {vs : List V} {ds : List D} (n : Nat), RDs K av H vs ds → RDs K av H (vs.drop n) (ds.drop n)
  | _, _, 0, r => r
  | _, _, _ + 1, .nil => .nil
  | _, _, n + 1, .cons _ r => RDs.drop n r
theorem RDs.eraseIdx : ∀ {vs : List V} {ds : List D} (i : Nat), RDs K av H vs ds → RDs K av H (vs.eraseIdx i) (ds.eraseIdx i)
  | _, _, _, .nil => .nil
  | _, _, 0, .cons _ r => r
  | _, _, i + 1, .cons h r => .cons h (RDs.eraseIdx i r)
theorem RDs.reverse : ∀ {vs : List V} {ds : List D}, RDs K av H vs ds → RDs K av H vs.reverse ds.reverse
  | _, _, .nil => .nil
  | _, _, .cons h r => by
    rw [List.reverse_cons, List.reverse_cons]
    exact (RDs.reverse r).append (.cons h .nil)
theorem RDs.dropLast {vs : List V} {ds : List D} (r : RDs K av H vs ds) : RDs K av H vs.dropLast ds.dropLast := by
  rw [List.dropLast_eq_take, List.dropLast_eq_take, r.length]
  exact r.take _
end

mutual
inductive SR (K : PySem.W.Frag) (av : Addr → Prop) (H : Hp) : Option V → O → List Addr → Prop
  | un {s : Option V} : SR K av H s .un []
  | d {v : V} {x : D} : RD K av H v x → SR K av H (some v) (.d x) []
  | fl {a : Addr} {vs : List V} {ds : List D} : H a = some (.lst vs) → RDs K av H vs ds → SR K av H (some (.ref a)) (.fl ds) [a]
  | ob {a C dx : Addr} {fs : List (Str × V)} {ds : List (Str × D)} : H a = some (.ins C dx fs) → RDf K av H fs ds → SR K av H (some (.ref a)) (.ob C ds) [a]
  | ls {a : Addr} {vs : List V} {os : List O} {fps : List Addr} : H a = some (.lst vs) → SRs K av H vs os fps → SR K av H (some (.ref a)) (.ls os) (a :: fps)
  | tp {a : Addr} {vs : List V} {os : List O} {fps : List Addr} : ¬ av a → H a = some (.tup vs) → SRs K av H vs os fps → SR K av H (some (.ref a)) (.tp os) fps
inductive SRs (K : PySem.W.Frag) (av : Addr → Prop) (H : Hp) : List V → List O → List Addr → Prop
  | nil : SRs K av H [] [] []
  | cons {v : V} {o : O} {vs : List V} {os : List O} {fp fps : List Addr} : SR K av H (some v) o fp → SRs K av H vs os fps → SRs K av H (v :: vs) (o :: os) (fp ++ fps)
end
inductive Slots (K : PySem.W.Frag) (av : Addr → Prop) (H : Hp) : L2.St → Ev → List Addr → Prop
  | nil : Slots K av H [] [] []
  | cons {s : Option V} {o : O} {fp own : List Addr} {σ : L2.St} {env : Ev} : SR K av H s o fp → Slots K av H σ env own → Slots K av H (s :: σ) (o :: env) (fp ++ own)
/-- the state goes on: own was owned here, own' is -/
structure Adv (av : Addr → Prop) (H : Hp) (own : List Addr) (av' : Addr → Prop) (H' : Hp) (own' : List Addr) : Prop where
  av_ : ∀ a, av' a ↔ (av a ∧ a ∉ own) ∨ a ∈ own'
  fresh : ∀ a, a ∈ own' → a ∈ own ∨ H a = none
  ext : ∀ a o, H a = some o → a ∉ own → H' a = some o
  there : ∀ a, (H a).isSome = true → (H' a).isSome = true
structure OkW (av : Addr → Prop) (H : Hp) (own : List Addr) : Prop where
  nodup : own.Nodup
  sub : ∀ a, a ∈ own → av a
  dom : ∀ a, av a → (H a).isSome = true
section
variable {K : PySem.W.Frag} {av av' av1 av2 : Addr → Prop} {H H' H1 H2 : Hp} {own own' own1 own2 t u fp : List Addr}
theorem Adv.refl (w : OkW av H own) : Adv av H own av H own :=
  ⟨fun a => ⟨fun h => by
      by_cases q : a ∈ own
      · exact .inr q
      · exact .inl ⟨h, q⟩, fun h => h.elim (·.1) (w.sub a)⟩, fun _ h => .inl h, fun _ _ h _ => h, fun _ h => h⟩
theorem Adv.keep (w : OkW av H own) (A : Adv av H own av' H' own') : Keep av av' H H' where
  own := fun a n h q => by
    rcases (A.av_ a).mp q with q | q
    · exact n q.1
    · rcases A.fresh a q with q | q
      · exact n (w.sub a q)
      · rw [q] at h; cases h
  at_ := fun a o n h => A.ext a o h fun q => n (w.sub a q)
theorem OkW.tail (w : OkW av H (t ++ own)) : OkW av H own := ⟨(List.nodup_append.mp w.nodup).2.1, fun a h => w.sub a (List.mem_append_right _ h), w.dom⟩
theorem OkW.apart (w : OkW av H (t ++ own)) : ∀ a, a ∈ t → a ∉ own := fun a h q => (List.nodup_append.mp w.nodup).2.2 a h a q rfl
/-- one step behind another, with t left over from the first -/
theorem Adv.trans (w0 : OkW av H own) (w : OkW av1 H1 (t ++ own1)) (A : Adv av H own av1 H1 (t ++ own1)) (B : Adv av1 H1 own1 av2 H2 (u ++ own2)) : Adv av H own av2 H2 ((t ++ u) ++ own2) where
  av_ := fun a => by
    constructor
    · intro h
      rcases (B.av_ a).mp h with ⟨h1, h2⟩ | h
      · rcases (A.av_ a).mp h1 with h | h
        · exact .inl h
        · rcases List.mem_append.mp h with h | h
          · exact .inr (by simp [h])
          · exact absurd h h2
      · exact .inr (by
          rcases List.mem_append.mp h with h | h
          · simp [h]
          · simp [h])
    · intro h
      rcases h with h | h
      · refine (B.av_ a).mpr (.inl ⟨(A.av_ a).mpr (.inl h), fun q => ?_⟩)
        rcases A.fresh a (List.mem_append_right _ q) with z | z
        · exact h.2 z
        · have := w0.dom a h.1
          rw [z] at this; cases this
      · rw [List.append_assoc] at h
        rcases List.mem_append.mp h with h | h
        · exact (B.av_ a).mpr (.inl ⟨w.sub a (List.mem_append_left _ h), w.apart a h⟩)
        · exact (B.av_ a).mpr (.inr h)
  fresh := fun a h => by
    rw [List.append_assoc] at h
    rcases List.mem_append.mp h with h | h
    · exact A.fresh a (List.mem_append_left _ h)
    · rcases B.fresh a h with h | h
      · exact A.fresh a (List.mem_append_right _ h)
      · right
        cases q : H a with
        | none => rfl
        | some o =>
          have := A.there a (by rw [q]; rfl)
          rw [h] at this; cases this
  ext := fun a o h n => B.ext a o (A.ext a o h n) fun q => by
    rcases A.fresh a (List.mem_append_right _ q) with z | z
    · exact n z
    · rw [h] at z; cases z
  there := fun a h => B.there a (A.there a h)
theorem OkW.trans (w : OkW av1 H1 (t ++ own1)) (B : Adv av1 H1 own1 av2 H2 (u ++ own2)) (w2 : OkW av2 H2 (u ++ own2)) : OkW av2 H2 ((t ++ u) ++ own2) where
  nodup := by
    rw [List.append_assoc]
    refine List.nodup_append.mpr ⟨(List.nodup_append.mp w.nodup).1, w2.nodup, fun a h b h2 e => ?_⟩
    subst e
    rcases B.fresh a h2 with q | q
    · exact w.apart a h q
    · have := w.dom a (w.sub a (List.mem_append_left _ h))
      rw [q] at this; cases this
  sub := fun a h => by
    rw [List.append_assoc] at h
    rcases List.mem_append.mp h with h | h
    · exact (B.av_ a).mpr (.inl ⟨w.sub a (List.mem_append_left _ h), w.apart a h⟩)
    · exact w2.sub a h
  dom := w2.dom
/-- t is given up -/
def drp (av : Addr → Prop) (own own' : List Addr) : Addr → Prop := fun a => (av a ∧ a ∉ own) ∨ a ∈ own'
theorem Adv.drop (A : Adv av H own av1 H1 (t ++ own1)) : Adv av H own (drp av own own1) H1 own1 :=
  ⟨fun _ => Iff.rfl, fun a h => A.fresh a (List.mem_append_right _ h), A.ext, A.there⟩
theorem drp_sub (A : Adv av H own av1 H1 (t ++ own1)) : ∀ a, drp av own own1 a → av1 a := fun a h => by
  rcases h with h | h
  · exact (A.av_ a).mpr (.inl h)
  · exact (A.av_ a).mpr (.inr (List.mem_append_right _ h))
theorem OkW.drop (A : Adv av H own av1 H1 (t ++ own1)) (w : OkW av1 H1 (t ++ own1)) : OkW (drp av own own1) H1 own1 :=
  ⟨w.tail.nodup, fun a h => .inr h, fun a h => w.dom a (drp_sub A a h)⟩
/-- the heap grows, nothing of it owned -/
theorem Adv.grow (A : Adv av H own av1 H1 own1) (g : Grow H1 H2) : Adv av H own av1 H2 own1 :=
  ⟨A.av_, A.fresh, fun a o h n => g a o (A.ext a o h n), fun a h => by
    obtain ⟨o, e⟩ := Option.isSome_iff_exists.mp (A.there a h)
    rw [g a o e]; rfl⟩
theorem OkW.grow (w : OkW av H own) (g : Grow H H') : OkW av H' own := ⟨w.nodup, w.sub, fun a h => by
  obtain ⟨o, e⟩ := Option.isSome_iff_exists.mp (w.dom a h)
  rw [g a o e]; rfl⟩
/-- a new object at p, owned -/
theorem Adv.new {p : Addr} {o : HO} (A : Adv av H own av1 H1 own1) (hp : H1 p = none) : Adv av H own (drp av own (p :: own1)) (upd H1 p o) (p :: own1) :=
  ⟨fun _ => Iff.rfl, fun a h => by
    rcases List.mem_cons.mp h with e | h
    · subst e
      right
      cases q : H a with
      | none => rfl
      | some o =>
        have := A.there a (by rw [q]; rfl)
        rw [hp] at this; cases this
    · exact A.fresh a h, fun a u h n => Grow.new hp a u (A.ext a u h n), fun a h => by
    obtain ⟨u, e⟩ := Option.isSome_iff_exists.mp (A.there a h)
    rw [Grow.new hp a u e]; rfl⟩
theorem OkW.new {p : Addr} {o : HO} (A : Adv av H own av1 H1 own1) (w : OkW av1 H1 own1) (hp : H1 p = none) : OkW (drp av own (p :: own1)) (upd H1 p o) (p :: own1) where
  nodup := List.nodup_cons.mpr ⟨fun h => (by
    have := w.dom p (w.sub p h)
    rw [hp] at this
    cases this), w.nodup⟩
  sub := fun a h => .inr h
  dom := fun a h => by
    by_cases e : a = p
    · subst e
      rw [upd_same]; rfl
    · rw [upd_ne e]
      refine w.dom a ?_
      rcases h with h | h
      · exact (A.av_ a).mpr (.inl h)
      · rcases List.mem_cons.mp h with z | z
        · exact absurd z e
        · exact (A.av_ a).mpr (.inr z)
theorem keep_new {p : Addr} {o : HO} (A : Adv av H own av1 H1 own1) (hp : H1 p = none) : Keep av1 (drp av own (p :: own1)) H1 (upd H1 p o) where
  own := fun a n h q => by
    rcases q with q | q
    · exact n ((A.av_ a).mpr (.inl q))
    · rcases List.mem_cons.mp q with z | z
      · subst z
        rw [hp] at h; cases h
      · exact n ((A.av_ a).mpr (.inr z))
  at_ := fun a u _ h => Grow.new hp a u h

mutual
theorem SR.keepA (k : Keep av av' H H') : ∀ {s : Option V} {o : O} {fp : List Addr}, SR K av H s o fp → (∀ a u, a ∈ fp → H a = some u → H' a = some u) → SR K av' H' s o fp
  | _, _, _, .un, _ => .un
  | _, _, _, .d r, _ => .d (r.keep k)
  | _, _, _, .fl e r, f => .fl (f _ _ (by simp) e) (r.keep k)
  | _, _, _, .ob e r, f => .ob (f _ _ (by simp) e) (r.keep k)
  | _, _, _, .ls e r, f => .ls (f _ _ List.mem_cons_self e) (SRs.keepA k r fun a u m => f a u (List.mem_cons_of_mem _ m))
  | _, _, _, .tp n e r, f => .tp (k.own _ n (by rw [e]; rfl)) (k.at_ _ _ n e) (SRs.keepA k r f)
theorem SRs.keepA (k : Keep av av' H H') : ∀ {vs : List V} {os : List O} {fp : List Addr}, SRs K av H vs os fp → (∀ a u, a ∈ fp → H a = some u → H' a = some u) → SRs K av' H' vs os fp
  | _, _, _, .nil, _ => .nil
  | _, _, _, .cons h r, f => .cons (SR.keepA k h fun a u m => f a u (List.mem_append_left _ m)) (SRs.keepA k r fun a u m => f a u (List.mem_append_right _ m))
end
theorem SR.keep {s : Option V} {o : O} (k : Keep av av' H H') (h : SR K av H s o fp) (f : ∀ a u, a ∈ fp → H a = some u → H' a = some u) : SR K av' H' s o fp := SR.keepA k h f
theorem Slots.keep {σ : L2.St} {env : Ev} (k : Keep av av' H H') : ∀ {σ : L2.St} {env : Ev} {own : List Addr}, Slots K av H σ env own → (∀ a u, a ∈ own → H a = some u → H' a = some u) → Slots K av' H' σ env own
  | _, _, _, .nil, _ => .nil
  | _, _, _, .cons h r, f => .cons (h.keep k fun a u m => f a u (List.mem_append_left _ m)) (Slots.keep (σ := σ) (env := env) k r fun a u m => f a u (List.mem_append_right _ m))
/-- a value left over from an evaluation ahead -/
theorem SR.over {s : Option V} {o : O} (w : OkW av H (fp ++ own)) (A : Adv av H own av' H' own') (h : SR K av H s o fp) : SR K av' H' s o fp :=
  h.keep (A.keep w.tail) fun a u m e => A.ext a u e (w.apart a m)
theorem Slots.grow {σ : L2.St} {env : Ev} (g : Grow H H') (s : ∀ a, av' a → av a) (h : Slots K av H σ env own) : Slots K av' H' σ env own :=
  Slots.keep (σ := σ) (env := env) (Keep.grow g s) h fun a u _ e => g a u e
theorem Slots.length : ∀ {σ : L2.St} {env : Ev} {own : List Addr}, Slots K av H σ env own → σ.length = env.length
  | _, _, _, .nil => rfl
  | _, _, _, .cons _ r => by rw [List.length_cons, List.length_cons, Slots.length r]
theorem Slots.get : ∀ {σ : L2.St} {env : Ev} {own : List Addr} {i : Nat} {o : O}, Slots K av H σ env own → env[i]? = some o → ∃ s fp, σ[i]? = some s ∧ SR K av H s o fp ∧ ∀ a, a ∈ fp → a ∈ own
  | _, _, _, _, _, .nil, e => by simp at e
  | _, _, _, 0, _, .cons h _, e => by
    simp only [List.getElem?_cons_zero, Option.some.injEq] at e
    subst e
    exact ⟨_, _, rfl, h, fun a m => List.mem_append_left _ m⟩
  | _, _, _, i + 1, _, .cons _ r, e => by
    simp only [List.getElem?_cons_succ] at e ⊢
    obtain ⟨s, fp, h1, h2, h3⟩ := Slots.get r e
    exact ⟨s, fp, h1, h2, fun a m => List.mem_append_right _ (h3 a m)⟩
end
end VL

set_option Elab.async false
set_option linter.all false
set_option maxRecDepth 100000
namespace VL
open PySem PySem.Spec PyProof.Rows L2

def ER.bind {α β : Type} (x : ER α) (k : α → ER β) : ER β := match x with
  | .ok a => k a
  | .ex c y e => .ex c y e
  | .st => .st
@[simp] theorem ER.bind_ok {α β : Type} (a : α) (k : α → ER β) : (ER.ok a).bind k = k a := (rfl)
@[simp] theorem ER.bind_ex {α β : Type} (c : Str) (y : D) (e : Ev) (k : α → ER β) : (ER.ex c y e : ER α).bind k = .ex c y e := (rfl)
@[simp] theorem ER.bind_st {α β : Type} (k : α → ER β) : (ER.st : ER α).bind k = .st := (rfl)
/-- an expression, a test -/
abbrev Fe := Ev → ER (O × Ev)
abbrev Ft := Ev → ER (Bool × Ev)

/-- what the heap of a state bears -/
structure Sane (H : Hp) : Prop where
  lst : ∀ a xs, Rd H a (.lst xs) → xs.length ≤ sizeLine
  tup : ∀ a xs, Rd H a (.tup xs) → xs.length ≤ sizeLine
theorem sane_of {X : Cx} {pins : List (Addr × Obj)} {σ : L2.St} {H : Hp} {s : Shared} (I : Inv X pins σ H s) : Sane H :=
  ⟨fun a xs h => by
    obtain ⟨_, _, _, z⟩ := I.list (.inl h)
    exact z, fun a xs h => by
    obtain ⟨_, _, _, z⟩ := I.tuple (.inl h)
    exact z⟩

section
variable (K : PySem.W.Frag) (mg : Str → Option Value) (W : WX)
/-- an exception of the class that is called c, with the value x -/
def XPost (av : Addr → Prop) (H : Hp) (own : List Addr) (σ : L2.St) (c : Str) (x : D) (env' : Ev) : Prop :=
  ∀ (cls : Value) (dd : Addr) (v : V) (H' : Hp) (av' : Addr → Prop) (own' : List Addr), mg c = some cls → Adv av H own av' H' own' → OkW av' H' own' → H' dd = some (.xd [("value", v)]) → RD K av' H' v x → Slots K av' H' σ env' own' → W cls (some dd) σ H'
def EPost (av : Addr → Prop) (H : Hp) (own : List Addr) (σ : L2.St) (Q : VK) : ER (O × Ev) → Prop
  | .ok (o, env') => ∀ (v : V) (H' : Hp) (av' : Addr → Prop) (fp own' : List Addr), Adv av H own av' H' (fp ++ own') → OkW av' H' (fp ++ own') → SR K av' H' (some v) o fp → Slots K av' H' σ env' own' → Q v H'
  | .ex c x env' => XPost K mg W av H own σ c x env'
  | .st => False
def TPost (av : Addr → Prop) (H : Hp) (own : List Addr) (σ : L2.St) (Q : Bool → Hp → Prop) : ER (Bool × Ev) → Prop
  | .ok (b, env') => ∀ (H' : Hp) (av' : Addr → Prop) (own' : List Addr), Adv av H own av' H' own' → OkW av' H' own' → Slots K av' H' σ env' own' → Q b H'
  | .ex c x env' => XPost K mg W av H own σ c x env'
  | .st => False
def tOf (f : Fe) : TE := fun σ H Q => ∃ (env : Ev) (av : Addr → Prop) (own : List Addr), Slots K av H σ env own ∧ OkW av H own ∧ EPost K mg W av H own σ Q (f env)
def tTs (f : Ft) : TT := fun σ H Q => ∃ (env : Ev) (av : Addr → Prop) (own : List Addr), Slots K av H σ env own ∧ OkW av H own ∧ TPost K mg W av H own σ Q (f env)

/-- an operand: an expression, or the name of a slot whose content is only looked at -/
inductive Opd where
  | val (f : Fe) | pk (i : Nat)
inductive Arg where
  | tmp (o : O) | sl (i : Nat)
def tOpd : Opd → TE
  | .val f => tOf K mg W f
  | .pk i => tVar i
def tArg : List Opd → TA
  | [] => tNil
  | a :: as => tCons (tOpd K mg W a) (tArg as)
end
def evA : List Opd → Ev → ER (List Arg × Ev)
  | [], env => .ok ([], env)
  | .val f :: as, env => (f env).bind fun p => (evA as p.2).bind fun q => .ok (.tmp p.1 :: q.1, q.2)
  | .pk i :: as, env => if (env.getD i .un).isUn then .st else (evA as env).bind fun q => .ok (.sl i :: q.1, q.2)
def Arg.look (env : Ev) : Arg → D
  | .tmp o => o.toD
  | .sl i => (env.getD i .un).toD

section
variable {K : PySem.W.Frag} {mg : Str → Option Value} {W : WX} {av av1 : Addr → Prop} {H H1 : Hp} {own own1 t : List Addr} {σ : L2.St}
theorem XPost.step {c : Str} {x : D} {env' : Ev} (w0 : OkW av H own) (w : OkW av1 H1 (t ++ own1)) (A : Adv av H own av1 H1 (t ++ own1)) (h : XPost K mg W av H own σ c x env') : XPost K mg W av1 H1 own1 σ c x env' := by
  intro cls dd v H2 av2 own2 hc B w2 hd hr hs
  have C := Adv.trans (u := []) w0 w A B
  have w3 := OkW.trans (u := []) w B w2
  have C' := Adv.drop (t := t ++ []) C
  exact h cls dd v H2 _ own2 hc C' (OkW.drop C w3) hd (hr.keep (.grow (Grow.refl _) (drp_sub C))) (hs.grow (env := env') (σ := σ) (Grow.refl _) (drp_sub C))

inductive ARep (K : PySem.W.Frag) (av : Addr → Prop) (H : Hp) (σ : L2.St) : List V → List Arg → List Addr → Prop
  | nil : ARep K av H σ [] [] []
  | tmp {v : V} {o : O} {fp t : List Addr} {vs : List V} {as : List Arg} : SR K av H (some v) o fp → ARep K av H σ vs as t → ARep K av H σ (v :: vs) (.tmp o :: as) (fp ++ t)
  | sl {v : V} {i : Nat} {t : List Addr} {vs : List V} {as : List Arg} : σ[i]? = some (some v) → ARep K av H σ vs as t → ARep K av H σ (v :: vs) (.sl i :: as) t
def APost (K : PySem.W.Frag) (mg : Str → Option Value) (W : WX) (av : Addr → Prop) (H : Hp) (own : List Addr) (σ : L2.St) (Q : List V → Hp → Prop) : ER (List Arg × Ev) → Prop
  | .ok (l, env') => ∀ (vs : List V) (H' : Hp) (av' : Addr → Prop) (t own' : List Addr), Adv av H own av' H' (t ++ own') → OkW av' H' (t ++ own') → ARep K av' H' σ vs l t → Slots K av' H' σ env' own' → Q vs H'
  | .ex c x env' => XPost K mg W av H own σ c x env'
  | .st => False

theorem slot_some {env : Ev} {i : Nat} (hs : Slots K av H σ env own) (h : (env.getD i .un).isUn = false) : ∃ v fp, σ[i]? = some (some v) ∧ SR K av H (some v) (env.getD i .un) fp ∧ ∀ a, a ∈ fp → a ∈ own := by
  rw [List.getD_eq_getElem?_getD] at h ⊢
  cases e : env[i]? with
  | none => rw [e] at h; cases h
  | some o =>
    rw [e] at h
    obtain ⟨s, fp, h1, h2, h3⟩ := hs.get e
    simp only [Option.getD_some] at h ⊢
    cases h2 with
    | un => cases h
    | d r => exact ⟨_, _, h1, .d r, h3⟩
    | fl a b => exact ⟨_, _, h1, .fl a b, h3⟩
    | ob a b => exact ⟨_, _, h1, .ob a b, h3⟩
    | ls a b => exact ⟨_, _, h1, .ls a b, h3⟩
    | tp n a b => exact ⟨_, _, h1, .tp n a b, h3⟩

theorem args_ok : ∀ (as : List Opd) {H : Hp} {av : Addr → Prop} {own : List Addr} {env : Ev} {Q : List V → Hp → Prop}, Slots K av H σ env own → OkW av H own → APost K mg W av H own σ Q (evA as env) → tArg K mg W as σ H Q
  | [], H, av, own, env, Q, hs, w, h => h [] H av [] own (Adv.refl w) w .nil hs
  | .pk i :: as, H, av, own, env, Q, hs, w, h => by
    unfold evA at h
    cases hu : (env.getD i .un).isUn with
    | true =>
      rw [hu, if_pos rfl] at h
      exact h.elim
    | false =>
      rw [hu, if_neg Bool.false_ne_true] at h
      obtain ⟨v, fp, e1, _⟩ := slot_some hs hu
      show ∃ v, σ[i]? = some (some v) ∧ tArg K mg W as σ H fun xs H2 => Q (v :: xs) H2
      refine ⟨v, e1, args_ok as hs w ?_⟩
      cases q : evA as env with
      | st => rw [q] at h; exact h
      | ex c x e => rw [q] at h; exact h
      | ok p =>
        obtain ⟨l, env'⟩ := p
        rw [q] at h
        intro vs H' av' t own' A w' hr hs'
        exact h (v :: vs) H' av' t own' A w' (.sl e1 hr) hs'
  | .val f :: as, H, av, own, env, Q, hs, w, h => by
    unfold evA at h
    show tOf K mg W f σ H fun x H1 => tArg K mg W as σ H1 fun xs H2 => Q (x :: xs) H2
    refine ⟨env, av, own, hs, w, ?_⟩
    cases q : f env with
    | st => rw [q] at h; exact h
    | ex c x e => rw [q] at h; exact h
    | ok p =>
      obtain ⟨o, env1⟩ := p
      rw [q] at h
      intro v H1 av1 fp own1 A w1 hr hs1
      refine args_ok as hs1 w1.tail ?_
      have h' : APost K mg W av H own σ Q ((evA as env1).bind fun q => .ok (.tmp o :: q.1, q.2)) := h
      cases q2 : evA as env1 with
      | st => rw [q2] at h'; exact h'
      | ex c x e =>
        rw [q2] at h'
        exact XPost.step w w1 A h'
      | ok p2 =>
        obtain ⟨l, env2⟩ := p2
        rw [q2] at h'
        intro vs H2 av2 t own2 B w2 ha hs2
        exact h' (v :: vs) H2 av2 (fp ++ t) own2 (Adv.trans w w1 A B) (OkW.trans w1 B w2) (.tmp (hr.over w1 B) ha) hs2

/-- data, or a list or instance of one's own whose items are data -/
inductive RV (K : PySem.W.Frag) (av : Addr → Prop) (H : Hp) : V → D → Prop
  | d {v : V} {x : D} : RD K av H v x → RV K av H v x
  | fl {a : Addr} {vs : List V} {ds : List D} : H a = some (.lst vs) → RDs K av H vs ds → RV K av H (.ref a) (.lst ds)
  | ob {a C dx : Addr} {fs : List (Str × V)} {ds : List (Str × D)} : H a = some (.ins C dx fs) → RDf K av H fs ds → RV K av H (.ref a) (.ins C ds)
inductive RVs (K : PySem.W.Frag) (av : Addr → Prop) (H : Hp) : List V → List D → Prop
  | nil : RVs K av H [] []
  | cons {v : V} {d : D} {vs : List V} {ds : List D} : RV K av H v d → RVs K av H vs ds → RVs K av H (v :: vs) (d :: ds)
theorem SR.view {v : V} {o : O} {fp : List Addr} (h : SR K av H (some v) o fp) (hu : o.isUn = false) (hp : o.plain = true) : RV K av H v o.toD := by
  cases h with
  | un => cases hu
  | d r => exact .d r
  | fl a b => exact .fl a b
  | ob a b => exact .ob a b
  | ls _ _ => cases hp
  | tp _ _ _ => cases hp
theorem RV.grow {av' : Addr → Prop} {v : V} {d : D} (h : RV K av H v d) (s : ∀ a, av' a → av a) : RV K av' H v d := by
  cases h with
  | d r => exact .d (r.keep (.grow (Grow.refl _) s))
  | fl e r => exact .fl e (r.keep (.grow (Grow.refl _) s))
  | ob e r => exact .ob e (r.keep (.grow (Grow.refl _) s))
mutual
theorem SR.frozenA {av' : Addr → Prop} (s : ∀ a, av' a → av a) : ∀ {v : V} {o : O} {fp : List Addr}, SR K av H (some v) o fp → o.isUn = false → (∀ a, a ∈ fp → ¬ av' a) → RD K av' H v o.toD
  | _, _, _, .un, hu, _ => by cases hu
  | _, _, _, .d r, _, _ => r.keep (.grow (Grow.refl _) s)
  | _, _, _, .fl e r, _, n => .lst (n _ (by simp)) e (r.keep (.grow (Grow.refl _) s))
  | _, _, _, .ob e r, _, n => .ins (n _ (by simp)) e (r.keep (.grow (Grow.refl _) s))
  | _, _, _, .ls e r, hu, n => .lst (n _ List.mem_cons_self) e (SRs.frozenA s r hu fun a m => n a (List.mem_cons_of_mem _ m))
  | _, _, _, .tp na e r, hu, n => .tup (fun q => na (s _ q)) e (SRs.frozenA s r hu n)
theorem SRs.frozenA {av' : Addr → Prop} (s : ∀ a, av' a → av a) : ∀ {vs : List V} {os : List O} {fp : List Addr}, SRs K av H vs os fp → O.anyUn os = false → (∀ a, a ∈ fp → ¬ av' a) → RDs K av' H vs (O.toDs os)
  | _, _, _, .nil, _, _ => .nil
  | _, _, _, .cons h r, hu, n => by
    unfold O.anyUn at hu
    rw [Bool.or_eq_false_iff] at hu
    exact .cons (SR.frozenA s h hu.1 fun a m => n a (List.mem_append_left _ m)) (SRs.frozenA s r hu.2 fun a m => n a (List.mem_append_right _ m))
end
theorem SR.frozen {v : V} {o : O} {fp : List Addr} {av' : Addr → Prop} (h : SR K av H (some v) o fp) (hu : o.isUn = false) (s : ∀ a, av' a → av a) (n : ∀ a, a ∈ fp → ¬ av' a) : RD K av' H v o.toD := SR.frozenA s h hu n
/-- operands that are worth something -/
def Arg.good (env : Ev) : Arg → Bool
  | .tmp o => !o.isUn
  | .sl i => !(env.getD i .un).isUn && (env.getD i .un).plain
theorem ARep.view {env : Ev} {av' : Addr → Prop} (hs : Slots K av H σ env own) (s : ∀ a, av' a → av a) : ∀ {vs : List V} {l : List Arg} {t : List Addr}, ARep K av H σ vs l t → (∀ a, a ∈ t → ¬ av' a) → l.all (Arg.good env) = true → RVs K av' H vs (l.map (Arg.look env))
  | _, _, _, .nil, _, _ => .nil
  | _, _, _, .tmp (o := o) h r, n, g => by
    rw [List.all_cons, Bool.and_eq_true] at g
    have g1 : (!o.isUn) = true := g.1
    exact .cons (.d (h.frozen (by simpa using g1) s fun a m => n a (List.mem_append_left _ m))) (ARep.view hs s r (fun a m => n a (List.mem_append_right _ m)) g.2)
  | _, _, _, .sl (i := i) h r, n, g => by
    rw [List.all_cons, Bool.and_eq_true] at g
    have g1 : (!(env.getD i .un).isUn && (env.getD i .un).plain) = true := g.1
    rw [Bool.and_eq_true] at g1
    have g2 : (env.getD i .un).isUn = false := by simpa using g1.1
    obtain ⟨v, fp, e1, e2, _⟩ := slot_some hs g2
    rw [h] at e1
    cases e1
    exact .cons ((e2.view g2 g1.2).grow s) (ARep.view hs s r n g.2)

/-- what an operation on values is to reach -/
def Fin (K : PySem.W.Frag) (av : Addr → Prop) (H : Hp) (r : Option O) (Q : VK) : Prop := match r with
  | some (.d z) => ∀ (v : V) (H' : Hp), Grow H H' → RD K av H' v z → Q v H'
  | some (.fl zs) => ∀ (p : Addr) (vs : List V) (H1 : Hp), Grow H H1 → RDs K av H1 vs zs → H1 p = none → Q (.ref p) (upd H1 p (.lst vs))
  | _ => False
def Dom (av : Addr → Prop) (H : Hp) : Prop := ∀ a, av a → (H a).isSome = true
/-- the readings of operations on values -/
def RN (K : PySem.W.Frag) (g : List D → Option O) : List V → Hp → VK → Prop := fun vs H Q => ∃ (av : Addr → Prop) (ds : List D), Dom av H ∧ RVs K av H vs ds ∧ Fin K av H (g ds) Q
def RB (K : PySem.W.Frag) (g : D → D → Option O) : R2 := fun x y H Q => ∃ (av : Addr → Prop) (dx dy : D), Dom av H ∧ RV K av H x dx ∧ RV K av H y dy ∧ Fin K av H (g dx dy) Q
def RU (K : PySem.W.Frag) (g : D → Option O) : V → Hp → VK → Prop := fun x H Q => ∃ (av : Addr → Prop) (dx : D), Dom av H ∧ RV K av H x dx ∧ Fin K av H (g dx) Q
def res (r : Option O) (env : Ev) : ER (O × Ev) := match r with
  | some (.d z) => .ok (.d z, env)
  | some (.fl zs) => .ok (.fl zs, env)
  | _ => .st
def opN (g : List D → Option O) (as : List Opd) : Fe := fun env => (evA as env).bind fun p =>
  if p.1.all (Arg.good p.2) then res (g (p.1.map (Arg.look p.2))) p.2 else .st
theorem opN_ok {g : List D → Option O} {as : List Opd} {Q : VK} (h : tOf K mg W (opN g as) σ H Q) : tArg K mg W as σ H fun vs H1 => RN K g vs H1 Q := by
  obtain ⟨env, av, own, hs, w, h⟩ := h
  refine args_ok as hs w ?_
  unfold opN at h
  cases q : evA as env with
  | st => rw [q] at h; exact h
  | ex c x e => rw [q] at h; exact h
  | ok p =>
    obtain ⟨l, env'⟩ := p
    rw [q] at h
    intro vs H1 av1 t own1 A w1 ha hs1
    have h' : EPost K mg W av H own σ Q (if l.all (Arg.good env') then res (g (l.map (Arg.look env'))) env' else .st) := h
    cases hg : l.all (Arg.good env') with
    | false => rw [hg, if_neg Bool.false_ne_true] at h'; exact h'.elim
    | true =>
      rw [hg, if_pos rfl] at h'
      have A2 := Adv.drop A
      have w2 := OkW.drop A w1
      have s2 := drp_sub A
      refine ⟨drp av own own1, _, w2.dom, ha.view hs1 s2 (fun a m z => ?_) hg, ?_⟩
      · rcases z with z | z
        · rcases A.fresh a (List.mem_append_left _ m) with q | q
          · exact z.2 q
          · have := w.dom a z.1
            rw [q] at this; cases this
        · exact w1.apart a m z
      cases hr : g (l.map (Arg.look env')) with
      | none => rw [hr] at h'; exact h'.elim
      | some o =>
        rw [hr] at h'
        cases o with
        | un => exact h'.elim
        | ob C fs => exact h'.elim
        | ls _ => exact h'.elim
        | tp _ => exact h'.elim
        | d z =>
          intro v H' gr r
          exact h' v H' _ [] own1 (A2.grow gr) (w2.grow gr) (.d r) (hs1.grow (σ := σ) (env := env') gr s2)
        | fl zs =>
          intro p vs' H2 gr r hp
          have A3 := A2.grow gr
          have w3 := w2.grow gr
          refine h' (.ref p) (upd H2 p (.lst vs')) _ [p] own1 (A3.new hp) (w3.new A3 hp) (.fl upd_same ?_) ?_
          · exact r.keep (keep_new A3 hp)
          · exact Slots.keep (σ := σ) (env := env') (keep_new A3 hp) (hs1.grow (σ := σ) (env := env') gr s2) fun a u _ e => Grow.new hp a u e
end
end VL

set_option Elab.async false
set_option linter.all false
set_option maxRecDepth 100000
namespace VL
open PySem PySem.Spec PyProof.Rows L2

section
variable {K : PySem.W.Frag} {av : Addr → Prop} {H H' : Hp}
theorem RV.int {v : V} {i : Int} (h : RV K av H v (.int i)) : v = .int i := by cases h with | d r => cases r; rfl
theorem RV.bl {v : V} {i : Bool} (h : RV K av H v (.bl i)) : v = .bl i := by cases h with | d r => cases r; rfl
theorem RV.non {v : V} (h : RV K av H v .non) : v = .non := by cases h with | d r => cases r; rfl
theorem RV.str {v : V} {i : Str} (h : RV K av H v (.str i)) : v = .str i := by cases h with | d r => cases r; rfl
theorem RV.ty {v : V} {n : String} (h : RV K av H v (.ty n)) : v = .ty n := by cases h with | d r => cases r; rfl
theorem RV.lst {v : V} {ds : List D} (h : RV K av H v (.lst ds)) : ∃ a vs, v = .ref a ∧ H a = some (.lst vs) ∧ RDs K av H vs ds := by
  cases h with
  | d r => cases r with | lst n e r => exact ⟨_, _, rfl, e, r⟩
  | fl e r => exact ⟨_, _, rfl, e, r⟩
/-- the items of a list, the script too -/
def D.seqL : D → Option (List D)
  | .lst xs => some xs
  | .scr xs => some xs
  | _ => none
theorem RV.seqL {v : V} {d : D} {ds : List D} (h : RV K av H v d) (e : d.seqL = some ds) : ∃ a vs, v = .ref a ∧ SqL K H a vs ∧ RDs K av H vs ds := by
  cases d <;> simp only [D.seqL, Option.some.injEq, reduceCtorEq] at e
  · subst e
    obtain ⟨a, vs, h1, h2, h3⟩ := h.lst
    exact ⟨a, vs, h1, SqL.of h2, h3⟩
  · subst e
    cases h with
    | d r => cases r with
      | scr n e r => exact ⟨_, _, rfl, .inl e, r⟩
      | kscr e r => exact ⟨_, _, rfl, .inr e, r⟩
theorem RV.tup {v : V} {ds : List D} (h : RV K av H v (.tup ds)) : ∃ a vs, v = .ref a ∧ SqT K H a vs ∧ RDs K av H vs ds := by
  cases h with
  | d r => cases r with
    | tup n e r => exact ⟨_, _, rfl, SqT.of e, r⟩
    | ktup e r => exact ⟨_, _, rfl, .inr e, r⟩
theorem RV.tupD {v : V} {ds : List D} (h : RV K av H v (.tup ds)) : RD K av H v (.tup ds) := by cases h with | d r => exact r
theorem RVs.one {vs : List V} {d : D} (h : RVs K av H vs [d]) : ∃ v, vs = [v] ∧ RV K av H v d := by
  cases h with | cons a b => cases b; exact ⟨_, rfl, a⟩
theorem RVs.two {vs : List V} {d e : D} (h : RVs K av H vs [d, e]) : ∃ v w, vs = [v, w] ∧ RV K av H v d ∧ RV K av H w e := by
  cases h with | cons a b => cases b with | cons b c => cases c; exact ⟨_, _, rfl, a, b⟩
theorem RVs.three {vs : List V} {d e f : D} (h : RVs K av H vs [d, e, f]) : ∃ v w x, vs = [v, w, x] ∧ RV K av H v d ∧ RV K av H w e ∧ RV K av H x f := by
  cases h with | cons a b => cases b with | cons b c => cases c with | cons c d => cases d; exact ⟨_, _, _, rfl, a, b, c⟩
/-- the end with data without addresses -/
theorem Fin.bl {Q : VK} {b : Bool} (h : Fin K av H (some (.d (.bl b))) Q) : Q (.bl b) H := h _ H (Grow.refl H) (.bl b)
theorem Fin.int {Q : VK} {i : Int} (h : Fin K av H (some (.d (.int i))) Q) : Q (.int i) H := h _ H (Grow.refl H) (.int i)
theorem Fin.str {Q : VK} {i : Str} (h : Fin K av H (some (.d (.str i))) Q) : Q (.str i) H := h _ H (Grow.refl H) (.str i)
theorem Fin.non {Q : VK} (h : Fin K av H (some (.d .non)) Q) : Q .non H := h _ H (Grow.refl H) .non
theorem Fin.data {Q : VK} {v : V} {x : D} (h : Fin K av H (some (.d x)) Q) (r : RD K av H v x) : Q v H := h _ H (Grow.refl H) r
theorem Fin.list {Q : VK} {ds : List D} {vs : List V} (h : Fin K av H (some (.fl ds)) Q) (r : RDs K av H vs ds) : ∀ p, H p = none → Q (.ref p) (upd H p (.lst vs)) := fun p hp => h p vs H (Grow.refl H) r hp
theorem Fin.tuple {Q : VK} {ds : List D} {vs : List V} (dm : Dom av H) (h : Fin K av H (some (.d (.tup ds))) Q) (r : RDs K av H vs ds) : ∀ p, H p = none → Q (.ref p) (upd H p (.tup vs)) := fun p hp => by
  refine h (.ref p) _ (Grow.new hp) (.tup (fun z => ?_) upd_same (r.keep (.grow (Grow.new hp) fun _ z => z)))
  have := dm p z
  rw [hp] at this; cases this
end

/-- in the rules of operations the heap is sane -/
theorem opR_sane {X : Cx} {f : Value → Value → Sem Value} {r r' : R2} (h : OpR X f r) (i : ∀ x y H Q, Sane H → r' x y H Q → r x y H Q) : OpR X f r' := fun pins s σ H x y v u Q I rx ry q =>
  h pins s σ H x y v u Q I rx ry (i x y H Q (sane_of I) q)
theorem unR_sane {X : Cx} {f : Value → Sem Value} {r r' : V → Hp → VK → Prop} (h : UnR X f r) (i : ∀ x H Q, Sane H → r' x H Q → r x H Q) : UnR X f r' := fun pins s σ H x v Q I rx q =>
  h pins s σ H x v Q I rx (i x H Q (sane_of I) q)
theorem callR_sane {X : Cx} {f : Value} {r r' : List V → Hp → VK → Prop} (h : CallR X f r) (i : ∀ vs H Q, Sane H → r' vs H Q → r vs H Q) : CallR X f r' := fun pins s σ H xs us Q I rx q =>
  h pins s σ H xs us Q I rx (i xs H Q (sane_of I) q)
theorem ixR_sane {X : Cx} {r r' : R2} (h : IxR X r) (i : ∀ x y H Q, Sane H → r' x y H Q → r x y H Q) : IxR X r' := fun value slice pins s σ H x y v u Q I rx ry q e =>
  h value slice pins s σ H x y v u Q I rx ry (i x y H Q (sane_of I) q) e
theorem slR_sane {X : Cx} {r r' : V → Option Int → Option Int → Hp → VK → Prop} (h : SlR X r) (i : ∀ x a b H Q, Sane H → r' x a b H Q → r x a b H Q) : SlR X r' := by
  unfold SlR at *
  intros
  apply h <;> first | assumption | skip
  apply i <;> first | assumption | exact sane_of (by assumption)
theorem mtR_sane {X : Cx} {id : String} {r r' : V → List V → Hp → VK → Prop} (h : MtR X id r) (i : ∀ x xs H Q, Sane H → r' x xs H Q → r x xs H Q) : MtR X id r' := by
  unfold MtR at *
  intros
  apply h <;> first | assumption | skip
  apply i <;> first | assumption | exact sane_of (by assumption)

def addD : D → D → Option O
  | .int i, .int j => some (.d (.int (i + j)))
  | .int i, .bl b => some (.d (.int (i + b2i b)))
  | .str x, .str y => if x.length + y.length ≤ 16777216 then some (.d (.str (x ++ y))) else none
  | .lst xs, .lst ys => if xs.length + ys.length ≤ 16777216 then some (.fl (xs ++ ys)) else none
  | .tup xs, .tup ys => if xs.length + ys.length ≤ 16777216 then some (.d (.tup (xs ++ ys))) else none
  | _, _ => none
def subD : D → D → Option O
  | .int i, .int j => some (.d (.int (i - j)))
  | _, _ => none
def mulOk (i j : Int) : Bool := (decide (i.natAbs < 2 ^ 64) || decide (j.natAbs < 2 ^ 64)) || decide (i.natAbs.log2 + j.natAbs.log2 < 1000000)
def mulD : D → D → Option O
  | .int i, .int j => if mulOk i j then some (.d (.int (i * j))) else none
  | _, _ => none
def fdivD : D → D → Option O
  | .int i, .int j => if 0 < j ∧ j.natAbs.log2 < 9000 then some (.d (.int (i / j))) else none
  | _, _ => none
def modD : D → D → Option O
  | .int i, .int j => if 0 < j then some (.d (.int (i % j))) else none
  | _, _ => none
def powD : D → D → Option O
  | .int i, .int j => if 0 ≤ j ∧ j ≤ 1000 ∧ i.natAbs < 2 ^ 1000 then some (.d (.int (i ^ j.toNat))) else none
  | _, _ => none
def negD : D → Option O
  | .int i => some (.d (.int (-i)))
  | _ => none
section
variable {X : Cx}
theorem line_eq : sizeLine = 16777216 := sizeLine_eq
theorem log2_lt {n k : Nat} (h : n < 2 ^ k) (hk : 0 < k) : n.log2 < k := by
  rcases Nat.eq_zero_or_pos n with h0 | hp
  · subst h0
    rw [Nat.log2_zero]
    exact hk
  · exact (Nat.log2_lt (Nat.ne_of_gt hp)).mpr h
theorem mulOk_ok {i j : Int} (h : mulOk i j = true) : PySem.IntMulOk i j := by
  unfold mulOk at h
  rw [Bool.or_eq_true, Bool.or_eq_true, decide_eq_true_iff, decide_eq_true_iff, decide_eq_true_iff] at h
  rcases h with (h | h) | h
  · exact .of_left (PySem.intBits_le_64 (by omega) (by omega))
  · exact .of_right (PySem.intBits_le_64 (by omega) (by omega))
  · exact CMulW.ok h
theorem op_addD : OpR X (binaryOp .Add) (RB X.K addD) := by
  refine opR_sane (OpR.or op_add (OpR.or op_add_ib (OpR.or op_add_str (OpR.or op_cat op_catA)))) fun x y H Q sn h => ?_
  obtain ⟨av, dx, dy, dm, hx, hy, f⟩ := h
  unfold addD at f
  split at f
  · rw [hx.int, hy.int]
    exact .inl ⟨_, _, rfl, rfl, f.int⟩
  · rw [hx.int, hy.bl]
    exact .inr (.inl ⟨_, _, rfl, rfl, f.int⟩)
  · split at f
    · rename_i hz
      rw [hx.str, hy.str]
      exact .inr (.inr (.inl ⟨_, _, rfl, rfl, by rw [line_eq]; exact hz, f.str⟩))
    · exact f.elim
  · split at f
    · rename_i hz
      obtain ⟨a, vs, rfl, e1, r1⟩ := hx.lst
      obtain ⟨b, ws, rfl, e2, r2⟩ := hy.lst
      refine .inr (.inr (.inr (.inl ⟨a, b, vs, ws, rfl, rfl, e1, e2, ?_, f.list (r1.append r2)⟩)))
      rw [r1.length, r2.length, line_eq]
      exact hz
    · exact f.elim
  · split at f
    · rename_i hz
      obtain ⟨a, vs, rfl, e1, r1⟩ := hx.tup
      obtain ⟨b, ws, rfl, e2, r2⟩ := hy.tup
      refine .inr (.inr (.inr (.inr ?_)))
      have hl : vs.length + ws.length ≤ sizeLine := by
        rw [r1.length, r2.length, line_eq]
        exact hz
      refine ⟨a, b, vs, ws, rfl, rfl, e1, e2, hl, fun z => ?_, fun _ z => ?_, fun _ _ => f.tuple dm (r1.append r2)⟩
      · subst z
        cases r1
        exact f.data hy.tupD
      · subst z
        cases r2
        rw [List.append_nil] at f
        exact f.data hx.tupD
    · exact f.elim
  · exact f.elim
theorem op_subD : OpR X (binaryOp .Sub) (RB X.K subD) := by
  refine opR_sane op_sub fun x y H Q sn h => ?_
  obtain ⟨av, dx, dy, dm, hx, hy, f⟩ := h
  unfold subD at f
  split at f
  · rw [hx.int, hy.int]
    exact ⟨_, _, rfl, rfl, f.int⟩
  · exact f.elim
theorem op_mulI : OpR X (binaryOp .Mult) (rI (fun i j => mulOk i j = true) fun i j => .int (i * j)) := opI fun _ _ _ _ _ _ _ hc q => PyProof.Rows.mul_int q (mulOk_ok hc)
theorem op_mulD : OpR X (binaryOp .Mult) (RB X.K mulD) := by
  refine opR_sane op_mulI fun x y H Q sn h => ?_
  obtain ⟨av, dx, dy, dm, hx, hy, f⟩ := h
  unfold mulD at f
  split at f
  · split at f
    · rename_i hm
      rw [hx.int, hy.int]
      exact ⟨_, _, rfl, rfl, hm, f.int⟩
    · exact f.elim
  · exact f.elim
theorem op_fdivD : OpR X (binaryOp .FloorDiv) (RB X.K fdivD) := by
  refine opR_sane op_fdivW fun x y H Q sn h => ?_
  obtain ⟨av, dx, dy, dm, hx, hy, f⟩ := h
  unfold fdivD at f
  split at f
  · split at f
    · rename_i hm
      rw [hx.int, hy.int]
      exact ⟨_, _, rfl, rfl, hm, f.int⟩
    · exact f.elim
  · exact f.elim
theorem op_modD : OpR X (binaryOp .Mod) (RB X.K modD) := by
  refine opR_sane op_mod fun x y H Q sn h => ?_
  obtain ⟨av, dx, dy, dm, hx, hy, f⟩ := h
  unfold modD at f
  split at f
  · split at f
    · rename_i hm
      rw [hx.int, hy.int]
      exact ⟨_, _, rfl, rfl, hm, f.int⟩
    · exact f.elim
  · exact f.elim
theorem powBits {i j : Int} (h0 : 0 ≤ j) (h1 : j ≤ 1000) (h2 : i.natAbs < 2 ^ 1000) : (Builtin.Int.intBits i : Int) * j ≤ 2 ^ 27 := by
  have hb : Builtin.Int.intBits i ≤ 1000 := by
    unfold Builtin.Int.intBits
    split
    · exact Nat.zero_le _
    · have := log2_lt h2 (by decide)
      omega
  have : (Builtin.Int.intBits i : Int) * j ≤ 1000 * 1000 := Int.mul_le_mul (by omega) h1 h0 (by decide)
  have z : (1000 : Int) * 1000 ≤ 2 ^ 27 := by decide
  omega
theorem op_powI : OpR X (binaryOp .Pow) (rI (fun i j => 0 ≤ j ∧ j ≤ 1000 ∧ i.natAbs < 2 ^ 1000) fun i j => .int (i ^ j.toNat)) := opI fun _ _ _ _ _ _ _ hc q => PyProof.Rows.pow_int hc.1 (powBits hc.1 hc.2.1 hc.2.2) q
theorem op_powD : OpR X (binaryOp .Pow) (RB X.K powD) := by
  refine opR_sane op_powI fun x y H Q sn h => ?_
  obtain ⟨av, dx, dy, dm, hx, hy, f⟩ := h
  unfold powD at f
  split at f
  · split at f
    · rename_i hm
      rw [hx.int, hy.int]
      exact ⟨_, _, rfl, rfl, hm, f.int⟩
    · exact f.elim
  · exact f.elim
theorem un_negD : UnR X (unaryOp .USub) (RU X.K negD) := by
  refine unR_sane un_neg fun x H Q sn h => ?_
  obtain ⟨av, dx, dm, hx, f⟩ := h
  unfold negD at f
  split at f
  · rw [hx.int]
    exact ⟨_, rfl, f.int⟩
  · exact f.elim

end
section
variable {K : PySem.W.Frag} {av : Addr → Prop} {H H' : Hp}
theorem nolay {d : PyData} {ds : List (PyData × PyData)} (e : d = .dict ds) (h : d.canLay0 = true) : False := by
  subst e
  simp [PyData.canLay0] at h
mutual
theorem RD.dp : ∀ {v : V} {d : D}, RD K av H v d → d.py.canLay0 = true → Dp K H v d.py
  | _, _, .non, _ => by rw [D.py]; exact .non
  | _, _, .bl b, _ => by rw [D.py]; exact .bl b
  | _, _, .int i, _ => by rw [D.py]; exact .int i
  | _, _, .str x, _ => by rw [D.py]; exact .str x
  | _, _, .ref a, h => (nolay (by rw [D.py]) h).elim
  | _, _, .ty n, h => (nolay (by rw [D.py]) h).elim
  | _, _, .fn _, h => (nolay (by rw [D.py]) h).elim
  | _, _, .dk _ _ _, h => (nolay (by rw [D.py]) h).elim
  | _, _, .dt _ _ _, h => (nolay (by rw [D.py]) h).elim
  | _, _, .ins _ _ _, h => (nolay (by rw [D.py]) h).elim
  | _, _, .lst n e r, h => by
    rw [D.py] at h ⊢
    exact .lst (SqL.of e) (RDs.dp r (by simpa [PyData.canLay0] using h))
  | _, _, .scr n e r, h => by
    rw [D.py] at h ⊢
    exact .lst (.inl e) (RDs.dp r (by simpa [PyData.canLay0] using h))
  | _, _, .kscr e r, h => by
    rw [D.py] at h ⊢
    exact .lst (.inr e) (RDs.dp r (by simpa [PyData.canLay0] using h))
  | _, _, .tup n e r, h => by
    rw [D.py] at h ⊢
    exact .tup (SqT.of e) (RDs.dp r (by simpa [PyData.canLay0] using h))
  | _, _, .ktup e r, h => by
    rw [D.py] at h ⊢
    exact .tup (.inr e) (RDs.dp r (by simpa [PyData.canLay0] using h))
theorem RDs.dp : ∀ {v : List V} {d : List D}, RDs K av H v d → PyData.canLayAll0 (D.pys d) = true → DpAll K H v (D.pys d)
  | _, _, .nil, _ => by rw [D.pys]; exact .nil
  | _, _, .cons h r, q => by
    rw [D.pys] at q ⊢
    rw [PyData.canLayAll0, Bool.and_eq_true] at q
    exact .cons (RD.dp h q.1) (RDs.dp r q.2)
end
theorem RV.dp {v : V} {d : D} (h : RV K av H v d) (q : d.py.canLay0 = true) : Dp K H v d.py := by
  cases h with
  | d r => exact r.dp q
  | fl e r =>
    rw [D.py] at q ⊢
    exact .lst (SqL.of e) (r.dp (by simpa [PyData.canLay0] using q))
  | ob e r => exact (nolay (by rw [D.py]) q).elim
end
def eqD (x y : D) : Option O := if SeqAt.shaped x.py && SeqAt.shaped y.py then some (.d (.bl (PyData.eqv x.py y.py))) else none
def neD (x y : D) : Option O := if SeqAt.shaped x.py && SeqAt.shaped y.py then some (.d (.bl (!PyData.eqv x.py y.py))) else none
def cmpI (p : Int → Int → Bool) : D → D → Option O
  | .int i, .int j => some (.d (.bl (p i j)))
  | _, _ => none
/-- int among ints, text among texts -/
def ltD : D → D → Option O
  | .int i, .int j => some (.d (.bl (decide (i < j))))
  | .str x, .str y => some (.d (.bl (decide (x.cps.toList < y.cps.toList))))
  | _, _ => none
def D.isNon : D → Bool
  | .non => true
  | _ => false
def isNonD (x : D) : D → Option O
  | .non => some (.d (.bl x.isNon))
  | _ => none
def notNonD (x : D) : D → Option O
  | .non => some (.d (.bl (!x.isNon)))
  | _ => none
section
variable {X : Cx}
theorem op_eqDD (hu : X.A.units + 64 < cLine) : OpR X (compareOp .Eq) (RB X.K eqD) := by
  refine opR_sane (op_eqD hu) fun x y H Q sn h => ?_
  obtain ⟨av, dx, dy, dm, hx, hy, f⟩ := h
  unfold eqD at f
  split at f
  · rename_i hs
    rw [Bool.and_eq_true] at hs
    exact ⟨_, _, hx.dp (SeqAt.canLay_of_shaped hs.1), hy.dp (SeqAt.canLay_of_shaped hs.2), hs.1, hs.2, f.bl⟩
  · exact f.elim
theorem op_neDD (hu : X.A.units + 64 < cLine) : OpR X (compareOp .NotEq) (RB X.K neD) := by
  refine opR_sane (op_neD hu) fun x y H Q sn h => ?_
  obtain ⟨av, dx, dy, dm, hx, hy, f⟩ := h
  unfold neD at f
  split at f
  · rename_i hs
    rw [Bool.and_eq_true] at hs
    exact ⟨_, _, hx.dp (SeqAt.canLay_of_shaped hs.1), hy.dp (SeqAt.canLay_of_shaped hs.2), hs.1, hs.2, f.bl⟩
  · exact f.elim
theorem op_cmpI {op : CmpOp} {p : Int → Int → Bool} (ho : OpR X (compareOp op) (rI0 fun i j => .bl (p i j))) : OpR X (compareOp op) (RB X.K (cmpI p)) := by
  refine opR_sane ho fun x y H Q sn h => ?_
  obtain ⟨av, dx, dy, dm, hx, hy, f⟩ := h
  unfold cmpI at f
  split at f
  · rw [hx.int, hy.int]
    exact ⟨_, _, rfl, rfl, f.bl⟩
  · exact f.elim
theorem op_leD : OpR X (compareOp .LtE) (RB X.K (cmpI fun i j => decide (i ≤ j))) := op_cmpI op_le
theorem op_gtD : OpR X (compareOp .Gt) (RB X.K (cmpI fun i j => decide (j < i))) := op_cmpI op_gt
theorem op_geD : OpR X (compareOp .GtE) (RB X.K (cmpI fun i j => decide (j ≤ i))) := op_cmpI op_ge
theorem op_ltD : OpR X (compareOp .Lt) (RB X.K ltD) := by
  refine opR_sane (OpR.or op_lt op_lt_str) fun x y H Q sn h => ?_
  obtain ⟨av, dx, dy, dm, hx, hy, f⟩ := h
  unfold ltD at f
  split at f
  · rw [hx.int, hy.int]
    exact .inl ⟨_, _, rfl, rfl, f.bl⟩
  · rw [hx.str, hy.str]
    exact .inr ⟨_, _, rfl, rfl, f.bl⟩
  · exact f.elim
theorem rv_non {K : PySem.W.Frag} {av : Addr → Prop} {H : Hp} {v : V} {d : D} (h : RV K av H v d) : decide (v = .non) = d.isNon := by
  cases h with
  | d r => cases r <;> simp [D.isNon]
  | fl e r => simp [D.isNon]
  | ob e r => simp [D.isNon]
theorem op_isNonD : OpR X (compareOp .Is) (RB X.K isNonD) := by
  refine opR_sane op_isN fun x y H Q sn h => ?_
  obtain ⟨av, dx, dy, dm, hx, hy, f⟩ := h
  unfold isNonD at f
  split at f
  · refine ⟨hy.non, ?_⟩
    rw [rv_non hx]
    exact f.bl
  · exact f.elim
theorem op_notNonD : OpR X (compareOp .IsNot) (RB X.K notNonD) := by
  refine opR_sane op_notN fun x y H Q sn h => ?_
  obtain ⟨av, dx, dy, dm, hx, hy, f⟩ := h
  unfold notNonD at f
  split at f
  · refine ⟨hy.non, ?_⟩
    rw [rv_non hx]
    exact f.bl
  · exact f.elim
end

def tyName : D → Option String
  | .non => some "NoneType"
  | .bl _ => some "bool"
  | .int _ => some "int"
  | .str _ => some "str"
  | .lst _ => some "list"
  | .scr _ => some "list"
  | .tup _ => some "tuple"
  | .dk _ => some "dict"
  | .dt _ => some "dict"
  | _ => none
def kinds : List String := ["int", "bool", "str", "list", "tuple", "dict"]
/-- a is b or below it -/
def subTy (a b : String) : Bool := a == b || (a == "bool" && b == "int")
theorem kit_all : (["NoneType", "bool", "int", "str", "list", "tuple", "dict"].all fun a => kinds.all fun b => decide (kitB a b = some (subTy a b))) = true := by decide +kernel
theorem tyName_in {d : D} {a : String} (h : tyName d = some a) : a ∈ ["NoneType", "bool", "int", "str", "list", "tuple", "dict"] := by
  cases d <;> simp only [tyName, Option.some.injEq, reduceCtorEq] at h <;> subst h <;> simp
theorem kit_sub {K : PySem.W.Frag} {d : D} {a b : String} (h : tyName d = some a) (hb : kinds.contains b = true) : PySem.W.kitOne K (.type a) (.type b) = some (subTy a b) := by
  have h1 := List.all_eq_true.mp kit_all a (tyName_in h)
  have h2 := List.all_eq_true.mp h1 b (List.contains_iff_mem.mp hb)
  exact kit_ty (of_decide_eq_true h2)
def tyStr : D → Option String
  | .ty n => some n
  | _ => none
def isiD (ds : List D) : Option O := match ds with
  | [x, .ty t] => match tyName x with
    | some a => if kinds.contains t then some (.d (.bl (subTy a t))) else none
    | none => none
  | [x, .tup [.ty t, .ty u]] => match tyName x with
    | some a => if kinds.contains t && kinds.contains u then some (.d (.bl (subTy a t || subTy a u))) else none
    | none => none
  | _ => none
section
variable {X : Cx}
theorem RV.tyx {K : PySem.W.Frag} {av : Addr → Prop} {H : Hp} {v : V} {d : D} {a : String} (h : RV K av H v d) (e : tyName d = some a) : TyX K H v (.type a) := by
  cases h with
  | fl e1 r =>
    simp only [tyName, Option.some.injEq] at e
    subst e
    exact .base (.lst e1)
  | ob e1 r => simp only [tyName, reduceCtorEq] at e
  | d r =>
    cases r <;> simp only [tyName, Option.some.injEq, reduceCtorEq] at e <;> subst e
    · exact .base .non
    · exact .base (.bl _)
    · exact .base (.int _)
    · exact .base (.str _)
    · rename_i e1 _
      exact .base (.lst e1)
    · rename_i e1 _
      rcases e1 with e1 | ⟨o, e1⟩
      · exact .base (.lst e1)
      · exact .base (.frz e1)
    · rename_i e1 _
      obtain ⟨o, its, n, h1, h2, _⟩ := e1
      exact .kList h1 h2
    · rename_i e1 _
      exact .base (.tup e1)
    · rename_i e1 _
      obtain ⟨o, its, n, h1, h2, _⟩ := e1
      exact .kTuple h1 h2
    · rename_i e1 _
      exact .base (.dK e1)
    · rename_i e1 _
      exact .base (.dT e1)
theorem cr_isi : CallR X (.builtin "isinstance") (RN X.K isiD) := by
  refine callR_sane (CallR.or call_isi (CallR.or call_isiT call_isiK)) fun vs H Q sn h => ?_
  obtain ⟨av, ds, dm, hv, f⟩ := h
  unfold isiD at f
  split at f
  · rename_i x t
    split at f
    · rename_i a ea
      split at f
      · rename_i hk
        obtain ⟨v, w, rfl, h1, h2⟩ := hv.two
        rw [h2.ty]
        exact .inl ⟨v, .ty t, .type a, .type t, _, rfl, .ty t, h1.tyx ea, kit_sub ea hk, f.bl⟩
      · exact f.elim
    · exact f.elim
  · rename_i x t u
    split at f
    · rename_i a ea
      split at f
      · rename_i hk
        rw [Bool.and_eq_true] at hk
        obtain ⟨v, w, rfl, h1, h2⟩ := hv.two
        have ka : PySem.W.kitAny X.K (.type a) [.type t, .type u] = some (subTy a t || subTy a u) := by
          refine kitAny_cons (kit_sub ea hk.1) (fun e => ?_) fun e => by rw [e, Bool.true_or]
          rw [e, Bool.false_or]
          exact kitAny_cons (kit_sub ea hk.2) (fun e => by rw [e]; exact kitAny_nil) fun e => e
        have two : ∀ {ws : List V}, RDs X.K av H ws [.ty t, .ty u] → ws = [.ty t, .ty u] := fun r => by
          cases r with | cons a b => cases b with | cons b c => cases c; cases a; cases b; rfl
        cases h2.tupD with
        | tup n e r =>
          rw [two r] at e
          exact .inr (.inl ⟨v, _, [.ty t, .ty u], .type a, [.type t, .type u], _, rfl, e, .cons (.ty t) (.cons (.ty u) .nil), h1.tyx ea, ka, f.bl⟩)
        | ktup e r =>
          rw [two r] at e
          obtain ⟨⟨oc, od, dt, sl⟩, its, n, k1, k2, k3, _, k5⟩ := e
          simp only at k2 k3
          subst k2 k3
          have e5 : its.toList = [.type t, .type u] := by
            cases hl : its.toList with
            | nil => rw [hl] at k5; cases k5
            | cons p ps =>
              rw [hl] at k5
              cases k5 with | cons a b => cases b with | cons b c => cases c; cases a; cases b; rfl
          have e6 : its = [Value.type t, Value.type u].toArray := by
            rw [← e5]
          rw [e6] at k1
          exact .inr (.inr ⟨v, _, od, [.type t, .type u], n, sl, .type a, _, rfl, k1, h1.tyx ea, ka, f.bl⟩)
      · exact f.elim
    · exact f.elim
  · exact f.elim
end
end VL

set_option Elab.async false
set_option linter.all false
set_option maxRecDepth 100000
namespace VL
open PySem PySem.Spec PyProof.Rows L2

def intsOf : List D → Option (List Int)
  | [] => some []
  | .int i :: xs => (intsOf xs).map (i :: ·)
  | _ :: _ => none
def strsOf : List D → Option (List Str)
  | [] => some []
  | .str i :: xs => (strsOf xs).map (i :: ·)
  | _ :: _ => none
def blsOf : List D → Option (List Bool)
  | [] => some []
  | .bl i :: xs => (blsOf xs).map (i :: ·)
  | _ :: _ => none
@[simp] theorem intsOf_map : ∀ ns : List Int, intsOf (ns.map D.int) = some ns
  | [] => rfl
  | n :: ns => by rw [List.map_cons, intsOf, intsOf_map ns]; rfl
@[simp] theorem strsOf_map : ∀ ns : List Str, strsOf (ns.map D.str) = some ns
  | [] => rfl
  | n :: ns => by rw [List.map_cons, strsOf, strsOf_map ns]; rfl
@[simp] theorem blsOf_map : ∀ ns : List Bool, blsOf (ns.map D.bl) = some ns
  | [] => rfl
  | n :: ns => by rw [List.map_cons, blsOf, blsOf_map ns]; rfl
theorem intsOf_eq : ∀ {ds : List D} {ns : List Int}, intsOf ds = some ns → ds = ns.map D.int
  | [], ns, h => by
    cases h
    rfl
  | d :: ds, ns, h => by
    cases d <;> simp only [intsOf, reduceCtorEq] at h
    rename_i i
    cases q : intsOf ds with
    | none => rw [q] at h; cases h
    | some ms =>
      rw [q] at h
      cases h
      rw [List.map_cons, ← intsOf_eq q]
theorem strsOf_eq : ∀ {ds : List D} {ns : List Str}, strsOf ds = some ns → ds = ns.map D.str
  | [], ns, h => by
    cases h
    rfl
  | d :: ds, ns, h => by
    cases d <;> simp only [strsOf, reduceCtorEq] at h
    rename_i i
    cases q : strsOf ds with
    | none => rw [q] at h; cases h
    | some ms =>
      rw [q] at h
      cases h
      rw [List.map_cons, ← strsOf_eq q]
theorem blsOf_eq : ∀ {ds : List D} {ns : List Bool}, blsOf ds = some ns → ds = ns.map D.bl
  | [], ns, h => by
    cases h
    rfl
  | d :: ds, ns, h => by
    cases d <;> simp only [blsOf, reduceCtorEq] at h
    rename_i i
    cases q : blsOf ds with
    | none => rw [q] at h; cases h
    | some ms =>
      rw [q] at h
      cases h
      rw [List.map_cons, ← blsOf_eq q]
section
variable {K : PySem.W.Frag} {av : Addr → Prop} {H H' : Hp}
theorem RDs.ints : ∀ {vs : List V} {ns : List Int}, RDs K av H vs (ns.map D.int) → vs = ns.map V.int
  | _, [], .nil => rfl
  | _, n :: ns, h => by
    rw [List.map_cons] at h
    cases h with | cons a b =>
      cases a
      rw [List.map_cons, RDs.ints b]
theorem RDs.strs : ∀ {vs : List V} {ns : List Str}, RDs K av H vs (ns.map D.str) → vs = ns.map V.str
  | _, [], .nil => rfl
  | _, n :: ns, h => by
    rw [List.map_cons] at h
    cases h with | cons a b =>
      cases a
      rw [List.map_cons, RDs.strs b]
theorem RDs.bls : ∀ {vs : List V} {ns : List Bool}, RDs K av H vs (ns.map D.bl) → vs = ns.map V.bl
  | _, [], .nil => rfl
  | _, n :: ns, h => by
    rw [List.map_cons] at h
    cases h with | cons a b =>
      cases a
      rw [List.map_cons, RDs.bls b]
theorem RDs.ofInts : ∀ ns : List Int, RDs K av H (ns.map V.int) (ns.map D.int)
  | [] => .nil
  | n :: ns => .cons (.int n) (RDs.ofInts ns)
theorem RDs.ofStrs : ∀ ns : List Str, RDs K av H (ns.map V.str) (ns.map D.str)
  | [] => .nil
  | n :: ns => .cons (.str n) (RDs.ofStrs ns)
/-- the items of a list or a tuple -/
def D.seq : D → Option (List D)
  | .lst xs => some xs
  | .scr xs => some xs
  | .tup xs => some xs
  | _ => none
theorem RV.seq {v : V} {d : D} {ds : List D} (h : RV K av H v d) (e : d.seq = some ds) : ∃ a vs, v = .ref a ∧ (SqL K H a vs ∨ SqT K H a vs) ∧ RDs K av H vs ds := by
  cases d <;> simp only [D.seq, Option.some.injEq, reduceCtorEq] at e <;> subst e
  · obtain ⟨a, vs, h1, h2, h3⟩ := h.seqL (d := .lst _) rfl
    exact ⟨a, vs, h1, .inl h2, h3⟩
  · obtain ⟨a, vs, h1, h2, h3⟩ := h.seqL (d := .scr _) rfl
    exact ⟨a, vs, h1, .inl h2, h3⟩
  · obtain ⟨a, vs, h1, h2, h3⟩ := h.tup
    exact ⟨a, vs, h1, .inr h2, h3⟩
end

def lenD : List D → Option O
  | [.str x] => if x.length ≤ 16777216 then some (.d (.int x.length)) else none
  | [d] => match d.seq with
    | some xs => some (.d (.int xs.length))
    | none => none
  | _ => none
def ixD (x i : D) : Option O := match i with
  | .int i => (match x with
    | .str z => if z.length ≤ 16777216 then (match atI z.cps.toList i with
      | some c => some (.d (.str ⟨#[c]⟩))
      | none => none) else none
    | x => match x.seq with
      | some xs => (match atI xs i with
        | some y => some (.d y)
        | none => none)
      | none => none)
  | _ => none
def cutL {α : Type} (xs : List α) (lo hi : Option Int) : List α := (xs.drop (HT.sIx xs.length 0 lo)).take (HT.sIx xs.length xs.length hi - HT.sIx xs.length 0 lo)
def cutD (x : D) (lo hi : Option Int) : Option O := match x with
  | .lst xs => some (.fl (cutL xs lo hi))
  | .scr xs => some (.fl (cutL xs lo hi))
  | .tup xs => some (.d (.tup (cutL xs lo hi)))
  | .str z => if z.length ≤ 16777216 then some (.d (.str (cutS z lo hi))) else none
  | _ => none
def parts : Bool → Bool → List D → Option (Option Int × Option Int)
  | false, false, [] => some (none, none)
  | true, false, [.int i] => some (some i, none)
  | false, true, [.int j] => some (none, some j)
  | true, true, [.int i, .int j] => some (some i, some j)
  | _, _, _ => none
def slD (a b : Bool) : List D → Option O
  | x :: r => match parts a b r with
    | some (lo, hi) => cutD x lo hi
    | none => none
  | [] => none
section
variable {K : PySem.W.Frag} {av : Addr → Prop} {H H' : Hp}
theorem RDs.cut {vs : List V} {ds : List D} (r : RDs K av H vs ds) (lo hi : Option Int) : RDs K av H (cutV vs lo hi) (cutL ds lo hi) := by
  unfold cutV cutL
  rw [r.length]
  exact (r.drop _).take _
theorem RDs.atI {vs : List V} {ds : List D} {i : Int} {d : D} (r : RDs K av H vs ds) (h : atI ds i = some d) : ∃ v, L2.atI vs i = some v ∧ RD K av H v d := by
  unfold L2.atI at h ⊢
  rw [r.length]
  cases q : ixN ds.length i with
  | none => rw [q] at h; cases h
  | some j =>
    rw [q] at h
    exact r.getD h
end
section
variable {X : Cx}
theorem cr_len : CallR X (.builtin "len") (RN X.K lenD) := by
  refine callR_sane call_len fun vs H Q sn h => ?_
  obtain ⟨av, ds, dm, hv, f⟩ := h
  unfold lenD at f
  split at f
  · split at f
    · rename_i x hz
      obtain ⟨v, rfl, r⟩ := hv.one
      rw [r.str]
      exact ⟨_, x.length, rfl, ⟨by rw [line_eq]; exact hz, rfl⟩, f.int⟩
    · exact f.elim
  · rename_i d hd
    split at f
    · rename_i xs e
      obtain ⟨v, rfl, r⟩ := hv.one
      obtain ⟨a, vs, rfl, h1, h2⟩ := r.seq e
      refine ⟨_, xs.length, rfl, ?_, f.int⟩
      rcases h1 with h1 | h1
      · exact .inl ⟨vs, h1, h2.length.symm⟩
      · exact .inr ⟨vs, h1, h2.length.symm⟩
    · exact f.elim
  · exact f.elim
theorem ix_D : IxR X (RB X.K ixD) := by
  refine ixR_sane ix_seq fun x y H Q sn h => ?_
  obtain ⟨av, dx, dy, dm, hx, hy, f⟩ := h
  unfold ixD at f
  split at f
  · rename_i i
    rw [hy.int]
    split at f
    · split at f
      · rename_i z hz
        split at f
        · rename_i c ec
          rw [hx.str]
          exact .inr (.inr ⟨z, i, c, rfl, rfl, by rw [line_eq]; exact hz, ec, f.str⟩)
        · exact f.elim
      · exact f.elim
    · split at f
      · rename_i xs e
        split at f
        · rename_i z ez
          obtain ⟨a, vs, rfl, h1, h2⟩ := hx.seq e
          obtain ⟨v, e1, r⟩ := h2.atI ez
          rcases h1 with h1 | h1
          · exact .inl ⟨a, vs, i, v, rfl, rfl, h1, e1, f.data r⟩
          · exact .inr (.inl ⟨a, vs, i, v, rfl, rfl, h1, e1, f.data r⟩)
        · exact f.elim
      · exact f.elim
  · exact f.elim
def RSl (K : PySem.W.Frag) : V → Option Int → Option Int → Hp → VK → Prop := fun x lo hi H Q => ∃ (av : Addr → Prop) (dx : D), Dom av H ∧ RV K av H x dx ∧ Fin K av H (cutD dx lo hi) Q
theorem sIx_le (n d : Nat) (hd : d ≤ n) (o : Option Int) : HT.sIx n d o ≤ n := HT.sIx_le n d hd o
theorem sl_D : SlR X (RSl X.K) := by
  refine slR_sane (SlR.or sl_list (SlR.or sl_tupA sl_str)) fun x lo hi H Q sn h => ?_
  obtain ⟨av, dx, dm, hx, f⟩ := h
  unfold cutD at f
  split at f
  · obtain ⟨a, vs, rfl, h1, h2⟩ := hx.seqL (d := .lst _) rfl
    exact .inl ⟨a, vs, rfl, h1, f.list (h2.cut lo hi)⟩
  · obtain ⟨a, vs, rfl, h1, h2⟩ := hx.seqL (d := .scr _) rfl
    exact .inl ⟨a, vs, rfl, h1, f.list (h2.cut lo hi)⟩
  · obtain ⟨a, vs, rfl, h1, h2⟩ := hx.tup
    refine .inr (.inl ⟨a, vs, rfl, h1, fun z => ?_, fun _ => f.tuple dm (h2.cut lo hi)⟩)
    rename_i xs
    have e : cutL xs lo hi = xs := by
      unfold cutL
      rw [← h2.length, z.1, z.2, List.drop_zero, Nat.sub_zero, h2.length, List.take_length]
    rw [e] at f
    exact f.data hx.tupD
  · split at f
    · rename_i z hz
      rw [hx.str]
      exact .inr (.inr ⟨z, rfl, by rw [line_eq]; exact hz, f.str⟩)
    · exact f.elim
  · exact f.elim
end

def D.flat : D → Bool
  | .non => true
  | .bl _ => true
  | .int _ => true
  | .str _ => true
  | _ => false
def inD (x y : D) : Option O := match y with
  | .str z => (match x with
    | .str w => some (.d (.bl (!(Builtin.Str.occurrences z w 0 z.length 1).isEmpty)))
    | _ => none)
  | .tup ys => if x.flat && ys.all D.flat then some (.d (.bl (ys.any fun z => PyData.eqv z.py x.py))) else none
  | y => match y.seqL with
    | some ys => if SeqAt.shaped x.py && SeqAt.shaped y.py then some (.d (.bl ((D.pys ys).any fun z => PyData.eqv z x.py))) else none
    | none => none
def notO : Option O → Option O
  | some (.d (.bl b)) => some (.d (.bl (!b)))
  | _ => none
def ninD (x y : D) : Option O := notO (inD x y)
section
variable {K : PySem.W.Frag} {av : Addr → Prop} {H H' : Hp}
theorem flat_eqv {v w : V} {x y : D} (hv : RD K av H v x) (hw : RD K av H w y) (fx : x.flat = true) (fy : y.flat = true) : flatV v = true ∧ flatV w = true ∧ eqV v w = PyData.eqv x.py y.py := by
  cases hv <;> simp only [D.flat, reduceCtorEq] at fx <;> cases hw <;> simp only [D.flat, reduceCtorEq] at fy <;> simp [flatV, eqV, D.py, PyData.eqv]
theorem flats_any {w : V} {y : D} (hw : RD K av H w y) (fy : y.flat = true) : ∀ {vs : List V} {ds : List D}, RDs K av H vs ds → ds.all D.flat = true → vs.all flatV = true ∧ inV w vs = ds.any fun z => PyData.eqv z.py y.py
  | _, _, .nil, _ => ⟨rfl, rfl⟩
  | _, _, .cons h r, q => by
    rw [List.all_cons, Bool.and_eq_true] at q
    obtain ⟨h1, h2⟩ := flats_any hw fy r q.2
    obtain ⟨f1, f2, f3⟩ := flat_eqv h hw q.1 fy
    unfold inV at h2 ⊢
    rw [List.all_cons, List.any_cons, List.any_cons, f1, h1, f3, h2]
    exact ⟨rfl, rfl⟩
theorem RV.flatD {v : V} {d : D} (h : RV K av H v d) (f : d.flat = true) : RD K av H v d := by
  cases h with
  | d r => exact r
  | fl _ _ => cases f
  | ob _ _ => cases f
end
section
variable {X : Cx}
theorem in_cases {K : PySem.W.Frag} {av : Addr → Prop} {H : Hp} {x y : V} {dx dy : D} {o : O} (hx : RV K av H x dx) (hy : RV K av H y dy) (h : inD dx dy = some o) : ∃ b, o = .d (.bl b) ∧
    ((∃ z w : Str, y = .str z ∧ x = .str w ∧ b = !(Builtin.Str.occurrences z w 0 z.length 1).isEmpty) ∨
    (∃ p vs, y = .ref p ∧ (SqL K H p vs ∨ SqT K H p vs) ∧ flatV x = true ∧ vs.all flatV = true ∧ b = inV x vs) ∨
    (∃ d ds, Dp K H x d ∧ Dp K H y (.list ds) ∧ SeqAt.shaped d = true ∧ SeqAt.shaped (.list ds) = true ∧ b = ds.any fun z => PyData.eqv z d)) := by
  unfold inD at h
  split at h
  · split at h
    · rename_i z _ w
      cases h
      exact ⟨_, rfl, .inl ⟨z, w, hy.str, hx.str, rfl⟩⟩
    · cases h
  · rename_i ys
    split at h
    · rename_i hf
      cases h
      rw [Bool.and_eq_true] at hf
      obtain ⟨a, vs, rfl, h1, h2⟩ := hy.tup
      obtain ⟨e1, e2⟩ := flats_any (hx.flatD hf.1) hf.1 h2 hf.2
      exact ⟨_, rfl, .inr (.inl ⟨a, vs, rfl, .inr h1, (flat_eqv (hx.flatD hf.1) (hx.flatD hf.1) hf.1 hf.1).1, e1, e2.symm⟩)⟩
    · cases h
  · split at h
    · rename_i ys e
      split at h
      · rename_i hs
        cases h
        rw [Bool.and_eq_true] at hs
        have ey : dy.py = .list (D.pys ys) := by
          cases dy <;> simp only [D.seqL, Option.some.injEq, reduceCtorEq] at e <;> subst e <;> rw [D.py]
        have d1 := hx.dp (SeqAt.canLay_of_shaped hs.1)
        have d2 := hy.dp (SeqAt.canLay_of_shaped hs.2)
        have s2 := hs.2
        rw [ey] at d2 s2
        exact ⟨_, rfl, .inr (.inr ⟨_, _, d1, d2, hs.1, s2, rfl⟩)⟩
      · cases h
    · cases h
theorem op_inDD (hu : X.A.units + 65 < cLine) : OpR X (compareOp .In) (RB X.K inD) := by
  refine opR_sane (OpR.or op_in_str (OpR.or op_in_seq (op_inD hu))) fun x y H Q sn h => ?_
  obtain ⟨av, dx, dy, dm, hx, hy, f⟩ := h
  cases e : inD dx dy with
  | none => rw [e] at f; exact f.elim
  | some o =>
    obtain ⟨b, rfl, q⟩ := in_cases hx hy e
    rw [e] at f
    rcases q with ⟨z, w, e1, e2, rfl⟩ | ⟨p, vs, e1, q, f1, f2, rfl⟩ | ⟨d, ds, q1, q2, q3, q4, rfl⟩
    · exact .inl ⟨w, z, e2, e1, f.bl⟩
    · exact .inr (.inl ⟨p, vs, e1, q, f1, f2, f.bl⟩)
    · exact .inr (.inr ⟨d, ds, q1, q2, q3, q4, f.bl⟩)
theorem op_ninDD (hu : X.A.units + 65 < cLine) : OpR X (compareOp .NotIn) (RB X.K ninD) := by
  refine opR_sane (OpR.or L2.op_notIn_str (OpR.or op_notIn_seq (op_notInD hu))) fun x y H Q sn h => ?_
  obtain ⟨av, dx, dy, dm, hx, hy, f⟩ := h
  unfold ninD at f
  cases e : inD dx dy with
  | none => rw [e] at f; exact f.elim
  | some o =>
    obtain ⟨b, rfl, q⟩ := in_cases hx hy e
    rw [e] at f
    have f' : Fin X.K av H (some (.d (.bl (!b)))) Q := f
    rcases q with ⟨z, w, e1, e2, rfl⟩ | ⟨p, vs, e1, q, f1, f2, rfl⟩ | ⟨d, ds, q1, q2, q3, q4, rfl⟩
    · exact .inl ⟨w, z, e2, e1, f'.bl⟩
    · exact .inr (.inl ⟨p, vs, e1, q, f1, f2, f'.bl⟩)
    · exact .inr (.inr ⟨d, ds, q1, q2, q3, q4, f'.bl⟩)
end

def listD : List D → Option O
  | [d] => match d.seq with
    | some xs => some (.fl xs)
    | none => none
  | _ => none
def tupleD : List D → Option O
  | [.tup xs] => some (.d (.tup xs))
  | [d] => match d.seqL with
    | some xs => some (.d (.tup xs))
    | none => none
  | _ => none
def absD : List D → Option O
  | [.int i] => some (.d (.int (if i < 0 then -i else i)))
  | _ => none
def intD : List D → Option O
  | [.int i] => some (.d (.int i))
  | [.bl b] => some (.d (.int (if b then 1 else 0)))
  | _ => none
def strD : List D → Option O
  | [.int i] => if i.natAbs.log2 < 1920 then some (.d (.str (toString i))) else none
  | _ => none
/-- the greatest, the least -/
def maxL : Int → List Int → Int
  | m, [] => m
  | m, x :: xs => maxL (if m < x then x else m) xs
def minL : Int → List Int → Int
  | m, [] => m
  | m, x :: xs => minL (if x < m then x else m) xs
def maxD : List D → Option O
  | [.int i, .int j] => some (.d (.int (if j > i then j else i)))
  | [.lst xs] => match intsOf xs with
    | some (n :: ns) => some (.d (.int (maxL n ns)))
    | _ => none
  | _ => none
def minD : List D → Option O
  | [.int i, .int j] => some (.d (.int (if j < i then j else i)))
  | [.lst xs] => match intsOf xs with
    | some (n :: ns) => some (.d (.int (minL n ns)))
    | _ => none
  | _ => none
def sumD : List D → Option O
  | [.lst xs] => match intsOf xs with
    | some ns => some (.d (.int ns.sum))
    | none => none
  | _ => none
def allD : List D → Option O
  | [.lst xs] => match blsOf xs with
    | some ns => some (.d (.bl (ns.all id)))
    | none => none
  | _ => none
def anyD : List D → Option O
  | [.lst xs] => match blsOf xs with
    | some ns => some (.d (.bl (ns.any id)))
    | none => none
  | _ => none
theorem maxL_ge : ∀ (l : List Int) (m : Int), m ≤ maxL m l ∧ (∀ y ∈ l, y ≤ maxL m l) ∧ (maxL m l = m ∨ maxL m l ∈ l)
  | [], m => ⟨Int.le_refl _, fun _ h => (by cases h), .inl rfl⟩
  | x :: l, m => by
    by_cases q : m < x
    · have e : maxL m (x :: l) = maxL x l := by rw [maxL, if_pos q]
      obtain ⟨h1, h2, h3⟩ := maxL_ge l x
      rw [e]
      refine ⟨by omega, fun y hy => ?_, .inr ?_⟩
      · rcases List.mem_cons.mp hy with e | hy
        · rw [e]; exact h1
        · exact h2 y hy
      · rcases h3 with h3 | h3
        · rw [h3]; exact List.mem_cons_self
        · exact List.mem_cons_of_mem _ h3
    · have e : maxL m (x :: l) = maxL m l := by rw [maxL, if_neg q]
      obtain ⟨h1, h2, h3⟩ := maxL_ge l m
      rw [e]
      refine ⟨h1, fun y hy => ?_, ?_⟩
      · rcases List.mem_cons.mp hy with e | hy
        · rw [e]; omega
        · exact h2 y hy
      · rcases h3 with h3 | h3
        · exact .inl h3
        · exact .inr (List.mem_cons_of_mem _ h3)
theorem minL_le : ∀ (l : List Int) (m : Int), minL m l ≤ m ∧ (∀ y ∈ l, minL m l ≤ y) ∧ (minL m l = m ∨ minL m l ∈ l)
  | [], m => ⟨Int.le_refl _, fun _ h => (by cases h), .inl rfl⟩
  | x :: l, m => by
    by_cases q : x < m
    · have e : minL m (x :: l) = minL x l := by rw [minL, if_pos q]
      obtain ⟨h1, h2, h3⟩ := minL_le l x
      rw [e]
      refine ⟨by omega, fun y hy => ?_, .inr ?_⟩
      · rcases List.mem_cons.mp hy with e | hy
        · rw [e]; exact h1
        · exact h2 y hy
      · rcases h3 with h3 | h3
        · rw [h3]; exact List.mem_cons_self
        · exact List.mem_cons_of_mem _ h3
    · have e : minL m (x :: l) = minL m l := by rw [minL, if_neg q]
      obtain ⟨h1, h2, h3⟩ := minL_le l m
      rw [e]
      refine ⟨h1, fun y hy => ?_, ?_⟩
      · rcases List.mem_cons.mp hy with e | hy
        · rw [e]; omega
        · exact h2 y hy
      · rcases h3 with h3 | h3
        · exact .inl h3
        · exact .inr (List.mem_cons_of_mem _ h3)
section
variable {X : Cx}
theorem cr_list : CallR X (.type "list") (RN X.K listD) := by
  refine callR_sane call_list_of fun vs H Q sn h => ?_
  obtain ⟨av, ds, dm, hv, f⟩ := h
  unfold listD at f
  split at f
  · split at f
    · rename_i xs e
      obtain ⟨v, rfl, r⟩ := hv.one
      obtain ⟨a, vs, rfl, h1, h2⟩ := r.seq e
      exact ⟨a, vs, rfl, h1, f.list h2⟩
    · exact f.elim
  · exact f.elim
theorem cr_tuple : CallR X (.type "tuple") (RN X.K tupleD) := by
  refine callR_sane call_tuple_of fun vs H Q sn h => ?_
  obtain ⟨av, ds, dm, hv, f⟩ := h
  unfold tupleD at f
  split at f
  · obtain ⟨v, rfl, r⟩ := hv.one
    obtain ⟨a, vs, rfl, h1, h2⟩ := r.tup
    exact ⟨a, vs, rfl, .inr ⟨h1, f.data r.tupD⟩⟩
  · split at f
    · rename_i xs e
      obtain ⟨v, rfl, r⟩ := hv.one
      obtain ⟨a, vs, rfl, h1, h2⟩ := r.seqL e
      exact ⟨a, vs, rfl, .inl ⟨h1, f.tuple dm h2⟩⟩
    · exact f.elim
  · exact f.elim
theorem cr_abs : CallR X (.builtin "abs") (RN X.K absD) := by
  refine callR_sane call_abs fun vs H Q sn h => ?_
  obtain ⟨av, ds, dm, hv, f⟩ := h
  unfold absD at f
  split at f
  · obtain ⟨v, rfl, r⟩ := hv.one
    rw [r.int]
    exact ⟨_, rfl, f.int⟩
  · exact f.elim
theorem cr_int : CallR X (.type "int") (RN X.K intD) := by
  refine callR_sane call_int1 fun vs H Q sn h => ?_
  obtain ⟨av, ds, dm, hv, f⟩ := h
  unfold intD at f
  split at f
  · obtain ⟨v, rfl, r⟩ := hv.one
    rw [r.int]
    exact .inl ⟨_, rfl, f.int⟩
  · obtain ⟨v, rfl, r⟩ := hv.one
    rw [r.bl]
    exact .inr ⟨_, rfl, f.int⟩
  · exact f.elim
theorem cr_str : CallR X (.type "str") (RN X.K strD) := by
  refine callR_sane call_str_int fun vs H Q sn h => ?_
  obtain ⟨av, ds, dm, hv, f⟩ := h
  unfold strD at f
  split at f
  · split at f
    · rename_i hz
      obtain ⟨v, rfl, r⟩ := hv.one
      rw [r.int]
      exact ⟨_, rfl, hz, f.str⟩
    · exact f.elim
  · exact f.elim
theorem cr_maxD (hc : X.calm = true) : CallR X (.builtin "max") (RN X.K maxD) := by
  refine callR_sane (CallR.or (call_max2 hc) (L2.cr_max hc)) fun vs H Q sn h => ?_
  obtain ⟨av, ds, dm, hv, f⟩ := h
  unfold maxD at f
  split at f
  · obtain ⟨v, w, rfl, r1, r2⟩ := hv.two
    rw [r1.int, r2.int]
    exact .inl ⟨_, _, rfl, f.int⟩
  · split at f
    · rename_i xs n ns e
      obtain ⟨v, rfl, r⟩ := hv.one
      rw [intsOf_eq e] at r
      obtain ⟨a, vs, rfl, h1, h2⟩ := r.lst
      rw [h2.ints] at h1
      refine .inr ⟨a, n :: ns, rfl, SqL.of h1, by simp, fun m hm hle => ?_⟩
      obtain ⟨g1, g2, g3⟩ := maxL_ge ns n
      have e2 : m = maxL n ns := by
        refine Int.le_antisymm ?_ ?_
        · rcases List.mem_cons.mp hm with z | z
          · rw [z]; exact g1
          · exact g2 m z
        · rcases g3 with z | z
          · rw [z]; exact hle n List.mem_cons_self
          · exact hle _ (List.mem_cons_of_mem _ z)
      rw [e2]
      exact f.int
    · exact f.elim
  · exact f.elim
theorem cr_minD (hc : X.calm = true) : CallR X (.builtin "min") (RN X.K minD) := by
  refine callR_sane (CallR.or (call_min2 hc) (L2.cr_min hc)) fun vs H Q sn h => ?_
  obtain ⟨av, ds, dm, hv, f⟩ := h
  unfold minD at f
  split at f
  · obtain ⟨v, w, rfl, r1, r2⟩ := hv.two
    rw [r1.int, r2.int]
    exact .inl ⟨_, _, rfl, f.int⟩
  · split at f
    · rename_i xs n ns e
      obtain ⟨v, rfl, r⟩ := hv.one
      rw [intsOf_eq e] at r
      obtain ⟨a, vs, rfl, h1, h2⟩ := r.lst
      rw [h2.ints] at h1
      refine .inr ⟨a, n :: ns, rfl, SqL.of h1, by simp, fun m hm hle => ?_⟩
      obtain ⟨g1, g2, g3⟩ := minL_le ns n
      have e2 : m = minL n ns := by
        refine Int.le_antisymm ?_ ?_
        · rcases g3 with z | z
          · rw [z]; exact hle n List.mem_cons_self
          · exact hle _ (List.mem_cons_of_mem _ z)
        · rcases List.mem_cons.mp hm with z | z
          · rw [z]; exact g1
          · exact g2 m z
      rw [e2]
      exact f.int
    · exact f.elim
  · exact f.elim
theorem cr_sumD (hc : X.calm = true) : CallR X (.builtin "sum") (RN X.K sumD) := by
  refine callR_sane (L2.cr_sum hc) fun vs H Q sn h => ?_
  obtain ⟨av, ds, dm, hv, f⟩ := h
  unfold sumD at f
  split at f
  · split at f
    · rename_i xs ns e
      obtain ⟨v, rfl, r⟩ := hv.one
      rw [intsOf_eq e] at r
      obtain ⟨a, vs, rfl, h1, h2⟩ := r.lst
      rw [h2.ints] at h1
      exact ⟨a, ns, rfl, SqL.of h1, f.int⟩
    · exact f.elim
  · exact f.elim
theorem cr_allD (hc : X.calm = true) : CallR X (.builtin "all") (RN X.K allD) := by
  refine callR_sane (L2.cr_all hc) fun vs H Q sn h => ?_
  obtain ⟨av, ds, dm, hv, f⟩ := h
  unfold allD at f
  split at f
  · split at f
    · rename_i xs ns e
      obtain ⟨v, rfl, r⟩ := hv.one
      rw [blsOf_eq e] at r
      obtain ⟨a, vs, rfl, h1, h2⟩ := r.lst
      rw [h2.bls] at h1
      exact ⟨a, ns, rfl, SqL.of h1, f.bl⟩
    · exact f.elim
  · exact f.elim
theorem cr_anyD (hc : X.calm = true) : CallR X (.builtin "any") (RN X.K anyD) := by
  refine callR_sane (L2.cr_any hc) fun vs H Q sn h => ?_
  obtain ⟨av, ds, dm, hv, f⟩ := h
  unfold anyD at f
  split at f
  · split at f
    · rename_i xs ns e
      obtain ⟨v, rfl, r⟩ := hv.one
      rw [blsOf_eq e] at r
      obtain ⟨a, vs, rfl, h1, h2⟩ := r.lst
      rw [h2.bls] at h1
      exact ⟨a, ns, rfl, SqL.of h1, f.bl⟩
    · exact f.elim
  · exact f.elim
end
end VL

set_option Elab.async false
set_option linter.all false
set_option maxRecDepth 100000
namespace VL
open PySem PySem.Spec PyProof.Rows L2

abbrev VE (X : Cx) (W : WX) (e : Expr) (f : Fe) : Prop := PE X e (tOf X.K X.mg W f)
abbrev VO (X : Cx) (W : WX) (e : Expr) (o : Opd) : Prop := PE X e (tOpd X.K X.mg W o)
abbrev VA (X : Cx) (W : WX) (es : List Expr) (os : List Opd) : Prop := PA X es (tArg X.K X.mg W os)
abbrev VT (X : Cx) (W : WX) (e : Expr) (f : Ft) : Prop := PT X e (tTs X.K X.mg W f)
abbrev VW (X : Cx) (W : WX) (e : Expr) (f : Ft) : Prop := PW X e (tTs X.K X.mg W f)
theorem pe_imp {X : Cx} {e : Expr} {t t' : TE} (h : PE X e t) (i : ∀ σ H Q, t' σ H Q → t σ H Q) : PE X e t' := ⟨fun pins s σ H Q I q => h.run pins s σ H Q I (i σ H Q q)⟩
theorem pe_impS {X : Cx} {e : Expr} {t t' : TE} (h : PE X e t) (i : ∀ σ H Q, Sane H → t' σ H Q → t σ H Q) : PE X e t' := ⟨fun pins s σ H Q I q => h.run pins s σ H Q I (i σ H Q (sane_of I) q)⟩
theorem pt_imp {X : Cx} {e : Expr} {t t' : TT} (h : PT X e t) (i : ∀ σ H Q, t' σ H Q → t σ H Q) : PT X e t' := ⟨fun pins s σ H Q I q => h.run pins s σ H Q I (i σ H Q q)⟩
theorem pw_imp {X : Cx} {e : Expr} {t t' : TT} (h : PW X e t) (i : ∀ σ H Q, t' σ H Q → t σ H Q) : PW X e t' := ⟨fun wh pins s σ H Q I q => h.run wh pins s σ H Q I (i σ H Q q)⟩

def varE (i : Nat) : Fe := fun env => match env.getD i .un with
  | .d x => .ok (.d x, env)
  | _ => .st
def cE (x : D) : Fe := fun env => .ok (.d x, env)
def op2 (g : D → D → Option O) (a b : Opd) : Fe := opN (fun
  | [x, y] => g x y
  | _ => none) [a, b]
def op1 (g : D → Option O) (a : Opd) : Fe := opN (fun
  | [x] => g x
  | _ => none) [a]
/-- operands that are kept: data alone -/
def Arg.data (env : Ev) : Arg → Bool
  | .tmp o => !o.isUn
  | .sl i => match env.getD i .un with
    | .d _ => true
    | _ => false
def opC (g : List D → Option O) (as : List Opd) : Fe := fun env => (evA as env).bind fun p =>
  if p.1.all (Arg.data p.2) then res (g (p.1.map (Arg.look p.2))) p.2 else .st
def tupC (ds : List D) : Option O := if ds.length ≤ 1000 then some (.d (.tup ds)) else none
def lstC (ds : List D) : Option O := if ds.length ≤ 1000 then some (.fl ds) else none
def ifE (c : Ft) (a b : Fe) : Fe := fun env => (c env).bind fun p => if p.1 then a p.2 else b p.2
def O.asB : O → Option Bool
  | .d (.bl c) => some c
  | _ => none
theorem O.asB_eq {o : O} {c : Bool} (h : o.asB = some c) : o = .d (.bl c) := by
  unfold O.asB at h
  split at h
  · cases h
    rfl
  · cases h
def O.isInt : O → Bool
  | .d (.int _) => true
  | _ => false
theorem O.isInt_eq {o : O} (h : o.isInt = true) : ∃ i, o = .d (.int i) := by
  unfold O.isInt at h
  split at h
  · exact ⟨_, rfl⟩
  · cases h
def intE (a : Fe) : Fe := fun env => (a env).bind fun p => if p.1.isInt then .ok p else .st
def bindB {α : Type} (o : O) (k : Bool → ER α) : ER α := match o.asB with
  | some c => k c
  | none => .st
@[simp] theorem bindB_bl {α : Type} (c : Bool) (k : Bool → ER α) : bindB (.d (.bl c)) k = k c := (rfl)
def andE (a b : Fe) : Fe := fun env => (a env).bind fun p => bindB p.1 fun c => if c then b p.2 else .ok (.d (.bl false), p.2)
def orE (a b : Fe) : Fe := fun env => (a env).bind fun p => bindB p.1 fun c => if c then .ok (.d (.bl true), p.2) else b p.2
def notE (a : Fe) : Fe := fun env => (a env).bind fun p => bindB p.1 fun c => .ok (.d (.bl (!c)), p.2)
/-- tests -/
def tstE (a : Fe) : Ft := fun env => (a env).bind fun p => bindB p.1 fun c => .ok (c, p.2)
def andT (a b : Ft) : Ft := fun env => (a env).bind fun p => if p.1 then b p.2 else .ok (false, p.2)
def orT (a b : Ft) : Ft := fun env => (a env).bind fun p => if p.1 then .ok (true, p.2) else b p.2
def notT (a : Ft) : Ft := fun env => (a env).bind fun p => .ok (!p.1, p.2)

section
variable {K : PySem.W.Frag} {mg : Str → Option Value} {W : WX} {av av1 : Addr → Prop} {H H1 : Hp} {own own1 t : List Addr} {σ : L2.St}
theorem tOf_mono {f : Fe} {Q Q' : VK} (i : ∀ v H, Q v H → Q' v H) (h : tOf K mg W f σ H Q) : tOf K mg W f σ H Q' := by
  obtain ⟨env, av, own, hs, w, h⟩ := h
  refine ⟨env, av, own, hs, w, ?_⟩
  cases q : f env with
  | st => rw [q] at h; exact h
  | ex c x e => rw [q] at h; exact h
  | ok p =>
    rw [q] at h
    exact fun v H' av' fp own' A w' r s => i _ _ (h v H' av' fp own' A w' r s)
theorem tOpd_mono {o : Opd} {Q Q' : VK} (i : ∀ v H, Q v H → Q' v H) (h : tOpd K mg W o σ H Q) : tOpd K mg W o σ H Q' := by
  cases o with
  | val f => exact tOf_mono i h
  | pk j =>
    obtain ⟨v, e, q⟩ := h
    exact ⟨v, e, i _ _ q⟩
theorem tArg_mono : ∀ {os : List Opd} {H : Hp} {Q Q' : List V → Hp → Prop}, (∀ v H, Q v H → Q' v H) → tArg K mg W os σ H Q → tArg K mg W os σ H Q'
  | [], H, Q, Q', i, h => i _ _ h
  | o :: os, H, Q, Q', i, h => tOpd_mono (o := o) (fun x H1 h => tArg_mono (os := os) (fun xs H2 h => i _ _ h) h) h
/-- an evaluation behind another -/
theorem EPost.step {Q : VK} {r : ER (O × Ev)} (w0 : OkW av H own) (w : OkW av1 H1 (t ++ own1)) (A : Adv av H own av1 H1 (t ++ own1)) (h : EPost K mg W av H own σ Q r) : EPost K mg W av1 H1 own1 σ Q r := by
  cases r with
  | st => exact h
  | ex c x e => exact XPost.step w0 w A h
  | ok p =>
    intro v H2 av2 fp own2 B w2 hr hs
    have C := Adv.trans w0 w A B
    have w3 := OkW.trans w B w2
    have kd : ∀ a, drp av own (fp ++ own2) a → av2 a := fun a z => (C.av_ a).mpr (z.elim .inl fun z => .inr (by
      rw [List.append_assoc]
      exact List.mem_append_right _ z))
    refine h v H2 (drp av own (fp ++ own2)) fp own2 ⟨fun _ => Iff.rfl, fun a m => C.fresh a (by
      rw [List.append_assoc]
      exact List.mem_append_right _ m), C.ext, C.there⟩ ⟨w2.nodup, fun a m => .inr m, fun a m => w2.dom a (kd a m)⟩ (hr.keep (.grow (Grow.refl _) kd) fun _ _ _ e => e) (hs.grow (σ := σ) (env := p.2) (Grow.refl _) kd)
theorem TPost.step {Q : Bool → Hp → Prop} {r : ER (Bool × Ev)} (w0 : OkW av H own) (w : OkW av1 H1 own1) (A : Adv av H own av1 H1 own1) (h : TPost K mg W av H own σ Q r) : TPost K mg W av1 H1 own1 σ Q r := by
  cases r with
  | st => exact h
  | ex c x e => exact XPost.step (t := []) w0 w A h
  | ok p =>
    intro H2 av2 own2 B w2 hs
    exact h H2 av2 own2 (Adv.trans (t := []) (u := []) w0 w A B) w2 hs
/-- the readings of operations that keep their operands -/
def RC (K : PySem.W.Frag) (g : List D → Option O) : List V → Hp → VK → Prop := fun vs H Q => ∃ (av : Addr → Prop) (ds : List D), Dom av H ∧ RDs K av H vs ds ∧ Fin K av H (g ds) Q
theorem ARep.frozen {env : Ev} {av' : Addr → Prop} (hs : Slots K av H σ env own) (s : ∀ a, av' a → av a) : ∀ {vs : List V} {l : List Arg} {t : List Addr}, ARep K av H σ vs l t → (∀ a, a ∈ t → ¬ av' a) → l.all (Arg.data env) = true → RDs K av' H vs (l.map (Arg.look env))
  | _, _, _, .nil, _, _ => .nil
  | _, _, _, .tmp (o := o) h r, n, g => by
    rw [List.all_cons, Bool.and_eq_true] at g
    have g1 : (!o.isUn) = true := g.1
    exact .cons (h.frozen (by simpa using g1) s fun a m => n a (List.mem_append_left _ m)) (ARep.frozen hs s r (fun a m => n a (List.mem_append_right _ m)) g.2)
  | _, _, _, .sl (i := i) h r, n, g => by
    rw [List.all_cons, Bool.and_eq_true] at g
    have g1 : (match env.getD i .un with
      | .d _ => true
      | _ => false) = true := g.1
    refine .cons ?_ (ARep.frozen hs s r n g.2)
    cases q : env.getD i .un with
    | d x =>
      obtain ⟨v, fp, e1, e2, _⟩ := slot_some (i := i) hs (by rw [q]; rfl)
      rw [h] at e1
      cases e1
      rw [q] at e2
      show RD K av' H _ ((env.getD i .un).toD)
      rw [q]
      cases e2 with | d r => exact r.keep (.grow (Grow.refl _) s)
    | un => rw [q] at g1; cases g1
    | fl _ => rw [q] at g1; cases g1
    | ob _ _ => rw [q] at g1; cases g1
    | ls _ => rw [q] at g1; cases g1
    | tp _ => rw [q] at g1; cases g1
/-- the end of an operation, when what was left over is given up -/
theorem fin_post {o : Option O} {env' : Ev} {Q : VK} (A : Adv av H own av1 H1 (t ++ own1)) (w1 : OkW av1 H1 (t ++ own1)) (hs1 : Slots K av1 H1 σ env' own1) (h : EPost K mg W av H own σ Q (res o env')) : Fin K (drp av own own1) H1 o Q := by
  have A2 := Adv.drop A
  have w2 := OkW.drop A w1
  have s2 := drp_sub A
  cases o with
  | none => exact h.elim
  | some o =>
    cases o with
    | un => exact h.elim
    | ob C fs => exact h.elim
    | ls _ => exact h.elim
    | tp _ => exact h.elim
    | d z =>
      intro v H' gr r
      exact h v H' _ [] own1 (A2.grow gr) (w2.grow gr) (.d r) (hs1.grow (σ := σ) (env := env') gr s2)
    | fl zs =>
      intro p vs' H2 gr r hp
      have A3 := A2.grow gr
      have w3 := w2.grow gr
      exact h (.ref p) (upd H2 p (.lst vs')) _ [p] own1 (A3.new hp) (w3.new A3 hp) (.fl upd_same (r.keep (keep_new A3 hp))) (Slots.keep (σ := σ) (env := env') (keep_new A3 hp) (hs1.grow (σ := σ) (env := env') gr s2) fun a u _ e => Grow.new hp a u e)
theorem opC_ok {g : List D → Option O} {as : List Opd} {Q : VK} (h : tOf K mg W (opC g as) σ H Q) : tArg K mg W as σ H fun vs H1 => RC K g vs H1 Q := by
  obtain ⟨env, av, own, hs, w, h⟩ := h
  refine args_ok as hs w ?_
  unfold opC at h
  cases q : evA as env with
  | st => rw [q] at h; exact h
  | ex c x e => rw [q] at h; exact h
  | ok p =>
    obtain ⟨l, env'⟩ := p
    rw [q] at h
    intro vs H1 av1 t own1 A w1 ha hs1
    have h' : EPost K mg W av H own σ Q (if l.all (Arg.data env') then res (g (l.map (Arg.look env'))) env' else .st) := h
    cases hg : l.all (Arg.data env') with
    | false => rw [hg, if_neg Bool.false_ne_true] at h'; exact h'.elim
    | true =>
      rw [hg, if_pos rfl] at h'
      refine ⟨drp av own own1, _, (OkW.drop A w1).dom, ha.frozen hs1 (drp_sub A) (fun a m z => ?_) hg, fin_post A w1 hs1 h'⟩
      rcases z with z | z
      · rcases A.fresh a (List.mem_append_left _ m) with q | q
        · exact z.2 q
        · have := w.dom a z.1
          rw [q] at this; cases this
      · exact w1.apart a m z
end

section
variable {X : Cx} {W : WX} {pos : Pos} {a b c e : Expr} {oa ob oc : Opd} {fa fb : Fe} {ta tb : Ft}
theorem v_val {f : Fe} (h : VE X W e f) : VO X W e (.val f) := h
theorem v_pk (i : Nat) {x : Str} (h : PE X (.Name x pos) (tVar i)) : VO X W (.Name x pos) (.pk i) := h
theorem v_var (i : Nat) {x : Str} (h : PE X (.Name x pos) (tVar i)) : VE X W (.Name x pos) (varE i) := by
  refine pe_imp h fun σ H Q h => ?_
  obtain ⟨env, av, own, hs, w, h⟩ := h
  unfold varE at h
  cases q : env.getD i .un with
  | d x =>
    rw [q] at h
    obtain ⟨v, fp, e1, e2, _⟩ := slot_some (i := i) hs (by rw [q]; rfl)
    rw [q] at e2
    cases e2 with
    | d r => exact ⟨v, e1, h v H av [] own (Adv.refl w) w (.d r) hs⟩
  | un => rw [q] at h; exact h.elim
  | fl _ => rw [q] at h; exact h.elim
  | ob _ _ => rw [q] at h; exact h.elim
  | ls _ => rw [q] at h; exact h.elim
  | tp _ => rw [q] at h; exact h.elim
theorem v_const {v : V} {x : D} (h : PE X e (tC v)) (r : ∀ (av : Addr → Prop) (H : Hp), RD X.K av H v x) : VE X W e (cE x) := by
  refine pe_imp h fun σ H Q h => ?_
  obtain ⟨env, av, own, hs, w, h⟩ := h
  exact h v H av [] own (Adv.refl w) w (.d (r av H)) hs
theorem v_int {i : Int} {j : Nat} : VE X W (.Constant (.int i) j pos) (cE (.int i)) := v_const pe_int fun _ _ => .int i
theorem v_bool {i : Bool} {j : Nat} : VE X W (.Constant (.bool i) j pos) (cE (.bl i)) := v_const pe_bl fun _ _ => .bl i
theorem v_none {j : Nat} : VE X W (.Constant .none j pos) (cE .non) := v_const pe_non fun _ _ => .non
theorem v_str {i : Str} {j : Nat} : VE X W (.Constant (.str i) j pos) (cE (.str i)) := v_const pe_str fun _ _ => .str i
theorem va_nil : VA X W [] [] := pa_nil
theorem va_cons {es : List Expr} {os : List Opd} (ha : VO X W e oa) (hr : VA X W es os) (hs : starEach (e :: es) X.env = (false, eval e X.env) :: starEach es X.env := by rfl) : VA X W (e :: es) (oa :: os) := pa_cons ha hr hs
theorem rn_two {K : PySem.W.Frag} {g : D → D → Option O} {x y : V} {H : Hp} {Q : VK} (h : RN K (fun
  | [x, y] => g x y
  | _ => none) [x, y] H Q) : RB K g x y H Q := by
  obtain ⟨av, ds, dm, hv, f⟩ := h
  cases hv with | cons h1 r => cases r with | cons h2 r => cases r; exact ⟨av, _, _, dm, h1, h2, f⟩
theorem rn_one {K : PySem.W.Frag} {g : D → Option O} {x : V} {H : Hp} {Q : VK} (h : RN K (fun
  | [x] => g x
  | _ => none) [x] H Q) : RU K g x H Q := by
  obtain ⟨av, ds, dm, hv, f⟩ := h
  cases hv with | cons h1 r => cases r; exact ⟨av, _, dm, h1, f⟩
theorem two_of {K : PySem.W.Frag} {mg : Str → Option Value} {g : D → D → Option O} {σ : L2.St} {H : Hp} {Q : VK} (h : tOf K mg W (op2 g oa ob) σ H Q) : tOp (RB K g) (tOpd K mg W oa) (tOpd K mg W ob) σ H Q :=
  tOpd_mono (fun x H1 h => tOpd_mono (fun y H2 h => rn_two h) h) (opN_ok h)
theorem v_bin {op : Operator} {g : D → D → Option O} (ho : OpR X (binaryOp op) (RB X.K g)) (ha : VO X W a oa) (hb : VO X W b ob) : VE X W (.BinOp a op b pos) (op2 g oa ob) :=
  pe_imp (pe_op ho ha hb) fun _ _ _ h => two_of h
theorem v_cmp {op : CmpOp} {g : D → D → Option O} (ho : OpR X (compareOp op) (RB X.K g)) (ha : VO X W a oa) (hb : VO X W b ob) (hm : behindInMarks op b = false := by first | exact nomark _ | rfl) : VE X W (.Compare a [op] [b] pos) (op2 g oa ob) :=
  pe_imp (pe_cmpR ho ha hb hm) fun _ _ _ h => two_of h
theorem v_un {op : UnaryOp} {g : D → Option O} (ho : UnR X (unaryOp op) (RU X.K g)) (ha : VO X W a oa) : VE X W (.UnaryOp op a pos) (op1 g oa) :=
  pe_imp (pe_un ho ha) fun _ _ _ h => tOpd_mono (fun x H1 h => rn_one h) (opN_ok h)
theorem v_ix (ha : VO X W a oa) (hb : VO X W b ob) (hs : PlainIx b := by exact fun _ _ => rfl) : VE X W (.Subscript a b pos) (op2 ixD oa ob) :=
  pe_imp (pe_ix ix_D ha hb hs) fun _ _ _ h => two_of h
theorem v_callB {x : Str} {id : String} {g : List D → Option O} {es : List Expr} {os : List Opd} {p : Pos} (hc : CallR X (.builtin id) (RN X.K g)) (hg : Gl X x) (hm : X.mg x = none) (hv : bootBuiltins x = some (.builtin id)) (ha : VA X W (e :: es) os) (hn : x ≠ "__name__" := by decide) (hdb : (x == ("__debug__" : Str)) = false := by decide)
    (he : starEach (e :: es) X.env = (false, eval e X.env) :: starEach es X.env := by rfl) (hpl : (backTo pos (starEach es X.env)).any (·.1) = false := by rfl) : VE X W (.Call (.Name x p) (e :: es) [] pos) (opN g os) :=
  pe_imp (pe_callB hc hg hm hv ha hn hdb he hpl) fun _ _ _ h => opN_ok h
theorem v_callTy {x : Str} {T : String} {g : List D → Option O} {es : List Expr} {os : List Opd} {p : Pos} (hc : CallR X (.type T) (RN X.K g)) (hg : Gl X x) (hm : X.mg x = none) (hv : bootBuiltins x = some (.type T)) (ha : VA X W (e :: es) os) (hn : x ≠ "__name__" := by decide) (hdb : (x == ("__debug__" : Str)) = false := by decide)
    (he : starEach (e :: es) X.env = (false, eval e X.env) :: starEach es X.env := by rfl) (hpl : (backTo pos (starEach es X.env)).any (·.1) = false := by rfl) : VE X W (.Call (.Name x p) (e :: es) [] pos) (opN g os) :=
  pe_imp (pe_callTy hc hg hm hv ha hn hdb he hpl) fun _ _ _ h => opN_ok h
/-- a built-in class as a value -/
theorem v_type {x : Str} {T : String} (hg : Gl X x) (hm : X.mg x = none) (hv : bootBuiltins x = some (.type T)) (hn : x ≠ "__name__" := by decide) (hd : (x == ("__debug__" : Str)) = false := by decide) : VE X W (.Name x pos) (cE (.ty T)) :=
  v_const (pe_bltn (v := .ty T) hg hm hv rfl hn hd) fun _ _ => .ty T
theorem small_line {n : Nat} (h : n ≤ 1000) : n ≤ sizeLine := by rw [line_eq]; omega
theorem v_tup {es : List Expr} {os : List Opd} {k : Nat} (ha : VA X W es os) : VE X W (.Tuple es k pos) (opC tupC os) := by
  refine pe_imp (pe_tup ha) fun σ H Q h => tArg_mono (fun vs H1 h => ?_) (opC_ok h)
  obtain ⟨av, ds, dm, hv, f⟩ := h
  unfold tupC at f
  split at f
  · rename_i hz
    exact ⟨by rw [hv.length]; exact small_line hz, f.tuple dm hv⟩
  · exact f.elim
theorem v_lst {es : List Expr} {os : List Opd} (ha : VA X W es os) : VE X W (.List es pos) (opC lstC os) := by
  refine pe_imp (pe_lst ha) fun σ H Q h => tArg_mono (fun vs H1 h => ?_) (opC_ok h)
  obtain ⟨av, ds, dm, hv, f⟩ := h
  unfold lstC at f
  split at f
  · rename_i hz
    exact ⟨by rw [hv.length]; exact small_line hz, f.list hv⟩
  · exact f.elim
theorem v_sl0 {p2 : Pos} (ha : VO X W a oa) : VE X W (.Subscript a (.Slice none none none p2) pos) (opN (slD false false) [oa]) := by
  refine pe_imp (pe_slice sl_D ha po_none po_none) fun σ H Q h => tOpd_mono (fun x H1 h => ?_) (opN_ok h)
  obtain ⟨av, ds, dm, hv, f⟩ := h
  cases hv with | cons h1 r =>
    cases r
    exact ⟨av, _, dm, h1, f⟩
theorem v_sl1 {p2 : Pos} (ha : VO X W a oa) (hb : VO X W b ob) : VE X W (.Subscript a (.Slice (some b) none none p2) pos) (opN (slD true false) [oa, ob]) := by
  refine pe_imp (pe_slice sl_D ha (po_some hb) po_none) fun σ H Q h => tOpd_mono (fun x H1 h => tOpd_mono (fun y H2 h => ?_) h) (opN_ok h)
  obtain ⟨av, ds, dm, hv, f⟩ := h
  cases hv with | cons h1 r => cases r with | cons h2 r =>
    cases r
    rename_i d2
    cases d2 <;> first | exact f.elim | skip
    rw [h2.int]
    exact ⟨_, rfl, av, _, dm, h1, f⟩
theorem v_sl2 {p2 : Pos} (ha : VO X W a oa) (hb : VO X W b ob) : VE X W (.Subscript a (.Slice none (some b) none p2) pos) (opN (slD false true) [oa, ob]) := by
  refine pe_imp (pe_slice sl_D ha po_none (po_some hb)) fun σ H Q h => tOpd_mono (fun x H1 h => tOpd_mono (fun y H2 h => ?_) h) (opN_ok h)
  obtain ⟨av, ds, dm, hv, f⟩ := h
  cases hv with | cons h1 r => cases r with | cons h2 r =>
    cases r
    rename_i d2
    cases d2 <;> first | exact f.elim | skip
    rw [h2.int]
    exact ⟨_, rfl, av, _, dm, h1, f⟩
theorem intE_ok {K : PySem.W.Frag} {mg : Str → Option Value} {σ : L2.St} {H : Hp} {Q : VK} (h : tOf K mg W (intE fa) σ H Q) : tOf K mg W fa σ H fun x H1 => ∃ i, x = .int i ∧ Q (.int i) H1 := by
  obtain ⟨env, av, own, hs, w, h⟩ := h
  refine ⟨env, av, own, hs, w, ?_⟩
  unfold intE at h
  cases q : fa env with
  | st => rw [q] at h; exact h
  | ex c x e => rw [q] at h; exact h
  | ok p =>
    obtain ⟨o, env1⟩ := p
    rw [q] at h
    intro v H1 av1 fp own1 A w1 hr hs1
    have h' : EPost K mg W av H own σ Q (if o.isInt then .ok (o, env1) else .st) := h
    cases ho : o.isInt with
    | false => rw [ho, if_neg Bool.false_ne_true] at h'; exact h'.elim
    | true =>
      rw [ho, if_pos rfl] at h'
      obtain ⟨i, rfl⟩ := O.isInt_eq ho
      cases hr with | d r =>
        cases r
        exact ⟨_, rfl, h' _ _ _ [] own1 A w1 (.d (.int _)) hs1⟩
theorem v_sl3 {p2 : Pos} {fc : Fe} (ha : VO X W a oa) (hb : VE X W b fb) (hc : VE X W c fc) : VE X W (.Subscript a (.Slice (some b) (some c) none p2) pos) (opN (slD true true) [oa, .val (intE fb), .val (intE fc)]) := by
  refine pe_imp (pe_slice sl_D ha (po_some hb) (po_some hc)) fun σ H Q h => tOpd_mono (fun x H1 h => ?_) (opN_ok h)
  have h' : tOf X.K X.mg W (intE fb) σ H1 fun y H2 => tOf X.K X.mg W (intE fc) σ H2 fun z H3 => RN X.K (slD true true) [x, y, z] H3 Q := h
  refine tOf_mono (fun y H2 h2 => ?_) (intE_ok h')
  obtain ⟨i, rfl, h2⟩ := h2
  refine ⟨i, rfl, tOf_mono (fun z H3 h3 => ?_) (intE_ok h2)⟩
  obtain ⟨j, rfl, h3⟩ := h3
  obtain ⟨av, ds, dm, hv, f⟩ := h3
  cases hv with | cons h1 r => cases r with | cons h2 r => cases r with | cons h3 r =>
    cases r
    refine ⟨j, rfl, av, _, dm, h1, ?_⟩
    cases h2 with | d r2 => cases h3 with | d r3 =>
      cases r2
      cases r3
      exact f
theorem v_if (hc : VT X W c ta) (ha : VE X W a fa) (hb : VE X W b fb) : VE X W (.IfExp c a b pos) (ifE ta fa fb) := by
  refine pe_imp (pe_ifExp hc ha hb) fun σ H Q h => ?_
  obtain ⟨env, av, own, hs, w, h⟩ := h
  refine ⟨env, av, own, hs, w, ?_⟩
  unfold ifE at h
  cases q : ta env with
  | st => rw [q] at h; exact h
  | ex c x e => rw [q] at h; exact h
  | ok p =>
    obtain ⟨k, env1⟩ := p
    rw [q] at h
    intro H1 av1 own1 A w1 hs1
    cases k with
    | true => exact ⟨env1, av1, own1, hs1, w1, EPost.step (t := []) w w1 A h⟩
    | false => exact ⟨env1, av1, own1, hs1, w1, EPost.step (t := []) w w1 A h⟩
theorem v_and {rest : List Expr} (ha : VE X W a fa) (hb : VE X W (.BoolOp .And (b :: rest) pos) fb) : VE X W (.BoolOp .And (a :: b :: rest) pos) (andE fa fb) := by
  refine pe_imp (pe_and ha hb) fun σ H Q h => ?_
  obtain ⟨env, av, own, hs, w, h⟩ := h
  refine ⟨env, av, own, hs, w, ?_⟩
  unfold andE at h
  cases q : fa env with
  | st => rw [q] at h; exact h
  | ex c x e => rw [q] at h; exact h
  | ok p =>
    obtain ⟨o, env1⟩ := p
    rw [q] at h
    intro v H1 av1 fp own1 A w1 hr hs1
    have h' : EPost X.K X.mg W av H own σ Q (bindB o fun c => if c then fb env1 else .ok (.d (.bl false), env1)) := h
    unfold bindB at h'
    cases ho : o.asB with
    | none => rw [ho] at h'; exact h'.elim
    | some k =>
      rw [ho] at h'
      rw [O.asB_eq ho] at hr
      cases hr with | d r =>
        cases r
        cases k with
        | true => exact ⟨true, rfl, env1, av1, own1, hs1, w1, EPost.step (t := []) w w1 A h'⟩
        | false => exact ⟨false, rfl, h' _ _ _ [] own1 A w1 (.d (.bl false)) hs1⟩
theorem v_or {rest : List Expr} (ha : VE X W a fa) (hb : VE X W (.BoolOp .Or (b :: rest) pos) fb) : VE X W (.BoolOp .Or (a :: b :: rest) pos) (orE fa fb) := by
  refine pe_imp (pe_or ha hb) fun σ H Q h => ?_
  obtain ⟨env, av, own, hs, w, h⟩ := h
  refine ⟨env, av, own, hs, w, ?_⟩
  unfold orE at h
  cases q : fa env with
  | st => rw [q] at h; exact h
  | ex c x e => rw [q] at h; exact h
  | ok p =>
    obtain ⟨o, env1⟩ := p
    rw [q] at h
    intro v H1 av1 fp own1 A w1 hr hs1
    have h' : EPost X.K X.mg W av H own σ Q (bindB o fun c => if c then .ok (.d (.bl true), env1) else fb env1) := h
    unfold bindB at h'
    cases ho : o.asB with
    | none => rw [ho] at h'; exact h'.elim
    | some k =>
      rw [ho] at h'
      rw [O.asB_eq ho] at hr
      cases hr with | d r =>
        cases r
        cases k with
        | false => exact ⟨false, rfl, env1, av1, own1, hs1, w1, EPost.step (t := []) w w1 A h'⟩
        | true => exact ⟨true, rfl, h' _ _ _ [] own1 A w1 (.d (.bl true)) hs1⟩
theorem v_one {op : BoolOp} {f : Fe} (h : VE X W a f) : VE X W (.BoolOp op [a] pos) f := pe_one h
theorem v_not (ha : VE X W a fa) : VE X W (.UnaryOp .Not a pos) (notE fa) := by
  refine pe_imp (pe_not ha) fun σ H Q h => ?_
  obtain ⟨env, av, own, hs, w, h⟩ := h
  refine ⟨env, av, own, hs, w, ?_⟩
  unfold notE at h
  cases q : fa env with
  | st => rw [q] at h; exact h
  | ex c x e => rw [q] at h; exact h
  | ok p =>
    obtain ⟨o, env1⟩ := p
    rw [q] at h
    intro v H1 av1 fp own1 A w1 hr hs1
    have h' : EPost X.K X.mg W av H own σ Q (bindB o fun c => .ok (.d (.bl (!c)), env1)) := h
    unfold bindB at h'
    cases ho : o.asB with
    | none => rw [ho] at h'; exact h'.elim
    | some k =>
      rw [ho] at h'
      rw [O.asB_eq ho] at hr
      cases hr with | d r =>
        cases r
        exact ⟨_, rfl, h' _ _ _ [] own1 A w1 (.d (.bl _)) hs1⟩

theorem tst_ok {K : PySem.W.Frag} {mg : Str → Option Value} {σ : L2.St} {H : Hp} {Q : Bool → Hp → Prop} (h : tTs K mg W (tstE fa) σ H Q) : tOf K mg W fa σ H fun x H1 => ∃ k, x = .bl k ∧ Q k H1 := by
  obtain ⟨env, av, own, hs, w, h⟩ := h
  refine ⟨env, av, own, hs, w, ?_⟩
  unfold tstE at h
  cases q : fa env with
  | st => rw [q] at h; exact h
  | ex c x e => rw [q] at h; exact h
  | ok p =>
    obtain ⟨o, env1⟩ := p
    rw [q] at h
    intro v H1 av1 fp own1 A w1 hr hs1
    have h' : TPost K mg W av H own σ Q (bindB o fun c => .ok (c, env1)) := h
    unfold bindB at h'
    cases ho : o.asB with
    | none => rw [ho] at h'; exact h'.elim
    | some k =>
      rw [ho] at h'
      rw [O.asB_eq ho] at hr
      cases hr with | d r =>
        cases r
        exact ⟨_, rfl, h' H1 av1 own1 A w1 hs1⟩
theorem t_val {f : Fe} (h : VE X W e f) (he : ∀ whole, isTrue e X.env whole = (do let v ← whole; standAt e.pos; holding [v] (truthy v)) := by intro _; rfl) : VT X W e (tstE f) :=
  pt_imp (pt_val h he) fun _ _ _ h => tst_ok h
theorem t_cmp {op : CmpOp} {g : D → D → Option O} (ho : OpR X (compareOp op) (RB X.K g)) (ha : VO X W a oa) (hb : VO X W b ob) (hm : behindInMarks op b = false := by first | exact nomark _ | rfl) : VT X W (.Compare a [op] [b] pos) (tstE (op2 g oa ob)) :=
  pt_imp (pt_cmpR ho ha hb hm) fun _ _ _ h => two_of (tst_ok h)
theorem t_w {f : Ft} (h : VW X W e f) : VT X W e f := h.pt
theorem w_and1 (ha : VT X W a ta) : VW X W (.BoolOp .And [a] pos) ta := pw_and1 ha
theorem w_or1 (ha : VT X W a ta) : VW X W (.BoolOp .Or [a] pos) ta := pw_or1 ha
theorem w_and {rest : List Expr} (ha : VT X W a ta) (hb : VW X W (.BoolOp .And (b :: rest) pos) tb) : VW X W (.BoolOp .And (a :: b :: rest) pos) (andT ta tb) := by
  refine pw_imp (pw_and ha hb) fun σ H Q h => ?_
  obtain ⟨env, av, own, hs, w, h⟩ := h
  refine ⟨env, av, own, hs, w, ?_⟩
  unfold andT at h
  cases q : ta env with
  | st => rw [q] at h; exact h
  | ex c x e => rw [q] at h; exact h
  | ok p =>
    obtain ⟨k, env1⟩ := p
    rw [q] at h
    intro H1 av1 own1 A w1 hs1
    cases k with
    | true => exact ⟨env1, av1, own1, hs1, w1, TPost.step w w1 A h⟩
    | false => exact h H1 av1 own1 A w1 hs1
theorem w_or {rest : List Expr} (ha : VT X W a ta) (hb : VW X W (.BoolOp .Or (b :: rest) pos) tb) : VW X W (.BoolOp .Or (a :: b :: rest) pos) (orT ta tb) := by
  refine pw_imp (pw_or ha hb) fun σ H Q h => ?_
  obtain ⟨env, av, own, hs, w, h⟩ := h
  refine ⟨env, av, own, hs, w, ?_⟩
  unfold orT at h
  cases q : ta env with
  | st => rw [q] at h; exact h
  | ex c x e => rw [q] at h; exact h
  | ok p =>
    obtain ⟨k, env1⟩ := p
    rw [q] at h
    intro H1 av1 own1 A w1 hs1
    cases k with
    | true => exact h H1 av1 own1 A w1 hs1
    | false => exact ⟨env1, av1, own1, hs1, w1, TPost.step w w1 A h⟩
theorem t_not (ha : VT X W a ta) : VT X W (.UnaryOp .Not a pos) (notT ta) := by
  refine pt_imp (pt_not ha) fun σ H Q h => ?_
  obtain ⟨env, av, own, hs, w, h⟩ := h
  refine ⟨env, av, own, hs, w, ?_⟩
  unfold notT at h
  cases q : ta env with
  | st => rw [q] at h; exact h
  | ex c x e => rw [q] at h; exact h
  | ok p =>
    obtain ⟨k, env1⟩ := p
    rw [q] at h
    exact h
end
end VL

set_option Elab.async false
set_option linter.all false
set_option maxRecDepth 100000
namespace VL
open PySem PySem.Spec PyProof.Rows L2

inductive SRes where
  | nx (env : Ev) | rt (o : O) (env : Ev) | bk (env : Ev) | ct (env : Ev) | ex (c : Str) (x : D) (env : Ev) | st
abbrev Fs := Ev → SRes
def ER.then {α : Type} (x : ER α) (k : α → SRes) : SRes := match x with
  | .ok a => k a
  | .ex c y e => .ex c y e
  | .st => .st
@[simp] theorem ER.then_ok {α : Type} (a : α) (k : α → SRes) : (ER.ok a).then k = k a := (rfl)
@[simp] theorem ER.then_ex {α : Type} (c : Str) (y : D) (e : Ev) (k : α → SRes) : (ER.ex c y e : ER α).then k = .ex c y e := (rfl)
@[simp] theorem ER.then_st {α : Type} (k : α → SRes) : (ER.st : ER α).then k = .st := (rfl)

/-- the slots of parameters that the caller keeps are not given other values -/
def Pn (pn : List Nat) (σ σ' : L2.St) : Prop := σ'.length = σ.length ∧ ∀ i, i ∈ pn → σ'[i]? = σ[i]?
theorem Pn.refl (pn : List Nat) (σ : L2.St) : Pn pn σ σ := ⟨rfl, fun _ _ => rfl⟩
theorem Pn.trans {pn : List Nat} {σ σ1 σ2 : L2.St} (a : Pn pn σ σ1) (b : Pn pn σ1 σ2) : Pn pn σ σ2 := ⟨b.1.trans a.1, fun i h => (b.2 i h).trans (a.2 i h)⟩
theorem Pn.set {pn : List Nat} {σ : L2.St} {i : Nat} {s : Option V} (h : pn.contains i = false) : Pn pn σ (σ.set i s) := ⟨by simp, fun j hj => by
  have : i ≠ j := fun e => by
    subst e
    rw [List.contains_iff_mem.mpr hj] at h
    cases h
  rw [List.getElem?_set_ne this]⟩

section
variable (K : PySem.W.Frag) (mg : Str → Option Value) (W : WX) (pn : List Nat)
def SPost (av : Addr → Prop) (H : Hp) (own : List Addr) (σ : L2.St) (D : Ends) : SRes → Prop
  | .nx env' => ∀ (σ' : L2.St) (H' : Hp) (av' : Addr → Prop) (own' : List Addr), Pn pn σ σ' → Adv av H own av' H' own' → OkW av' H' own' → Slots K av' H' σ' env' own' → D.nx σ' H'
  | .bk env' => ∀ (σ' : L2.St) (H' : Hp) (av' : Addr → Prop) (own' : List Addr), Pn pn σ σ' → Adv av H own av' H' own' → OkW av' H' own' → Slots K av' H' σ' env' own' → D.bk σ' H'
  | .ct env' => ∀ (σ' : L2.St) (H' : Hp) (av' : Addr → Prop) (own' : List Addr), Pn pn σ σ' → Adv av H own av' H' own' → OkW av' H' own' → Slots K av' H' σ' env' own' → D.ct σ' H'
  | .rt o env' => ∀ (v : V) (σ' : L2.St) (H' : Hp) (av' : Addr → Prop) (fp own' : List Addr), Pn pn σ σ' → Adv av H own av' H' (fp ++ own') → OkW av' H' (fp ++ own') → SR K av' H' (some v) o fp → Slots K av' H' σ' env' own' → D.rt v H'
  | .ex c x env' => ∀ (σ' : L2.St), Pn pn σ σ' → ∀ (cls : Value) (dd : Addr) (v : V) (H' : Hp) (av' : Addr → Prop) (own' : List Addr), mg c = some cls → Adv av H own av' H' own' → OkW av' H' own' → H' dd = some (.xd [("value", v)]) → RD K av' H' v x → Slots K av' H' σ' env' own' → W cls (some dd) σ' H'
  | .st => False
def tS (f : Fs) : TS := fun D σ H => ∃ (env : Ev) (av : Addr → Prop) (own : List Addr), Slots K av H σ env own ∧ OkW av H own ∧ SPost K mg W pn av H own σ D (f env)
end
abbrev VS (X : Cx) (W : WX) (pn : List Nat) (s : Stmt) (f : Fs) : Prop := PS X s (tS X.K X.mg W pn f)
abbrev VB (X : Cx) (W : WX) (pn : List Nat) (s : List Stmt) (f : Fs) : Prop := PSs X s (tS X.K X.mg W pn f)
theorem ps_imp {X : Cx} {s : Stmt} {t t' : TS} (h : PS X s t) (i : ∀ D σ H, t' D σ H → t D σ H) : PS X s t' := ⟨fun pins s σ H D I q => h.run pins s σ H D I (i D σ H q)⟩
theorem pss_imp {X : Cx} {s : List Stmt} {t t' : TS} (h : PSs X s t) (i : ∀ D σ H, t' D σ H → t D σ H) : PSs X s t' := ⟨fun pins s σ H D I q => h.run pins s σ H D I (i D σ H q)⟩

def nilS : Fs := .nx
def seqS (f g : Fs) : Fs := fun env => match f env with
  | .nx env' => g env'
  | r => r
def putS (i : Nat) (o : O) (env : Ev) : SRes := if i < env.length then .nx (env.set i o) else .st
def asgS (i : Nat) (e : Fe) : Fs := fun env => (e env).then fun p => putS i p.1 p.2
/-- stored as data -/
def asgZ (i : Nat) (e : Fe) : Fs := fun env => (e env).then fun p => if p.1.isUn then .st else putS i (.d p.1.toD) p.2
def retS (e : Fe) : Fs := fun env => (e env).then fun p => .rt p.1 p.2
/-- a slot's own list or instance is handed back -/
def retO (i : Nat) : Fs := fun env => if (env.getD i .un).isUn then .st else .rt (env.getD i .un) (env.set i .un)
def retN : Fs := fun env => .rt (.d .non) env
def dropS (e : Fe) : Fs := fun env => (e env).then fun p => .nx p.2
def ifS (c : Ft) (a b : Fs) : Fs := fun env => (c env).then fun p => if p.1 then a p.2 else b p.2
def bkS : Fs := .bk
def ctS : Fs := .ct
def freeze (is : List Nat) (env : Ev) : Ev := is.foldl (fun env i => match env.getD i .un with
  | .un => env
  | o => env.set i (.d o.toD)) env

section
variable {K : PySem.W.Frag} {mg : Str → Option Value} {W : WX} {pn : List Nat} {av av1 : Addr → Prop} {H H1 : Hp} {own own1 t : List Addr} {σ σ1 : L2.St} {G : Ends}
theorem Slots.focus : ∀ {σ : L2.St} {env : Ev} {own : List Addr} {i : Nat}, Slots K av H σ env own → i < env.length →
    ∃ (s : Option V) (A fp B : List Addr), own = A ++ (fp ++ B) ∧ σ[i]? = some s ∧ SR K av H s (env.getD i .un) fp ∧
      ∀ {av' : Addr → Prop} {H' : Hp} {s' : Option V} {o' : O} {fp' : List Addr}, Keep av av' H H' → (∀ a u, a ∈ A ++ B → H a = some u → H' a = some u) → SR K av' H' s' o' fp' → Slots K av' H' (σ.set i s') (env.set i o') (A ++ (fp' ++ B))
  | _, _, _, _, .nil, h => by simp at h
  | _, _, _, 0, .cons (fp := fp) (own := own) (σ := σ) (env := env) h r, _ => by
    refine ⟨_, [], fp, own, rfl, rfl, h, fun {av' H' s' o' fp'} k f q => ?_⟩
    have z := Slots.cons q (Slots.keep (σ := σ) (env := env) (own := own) k r fun a u m => f a u (by simpa using m))
    exact z
  | _, _, _, i + 1, .cons (fp := fp) (own := own) h r, hi => by
    obtain ⟨s, A, fpi, B, e, e1, e2, g⟩ := Slots.focus (i := i) r (by simpa using hi)
    refine ⟨s, fp ++ A, fpi, B, by rw [e]; simp, by simpa using e1, by simpa using e2, fun {av' H' s' o' fp'} k f q => ?_⟩
    have z := g k (fun a u m => f a u (by
      rcases List.mem_append.mp m with m | m
      · simp [m]
      · simp [m])) q
    have z2 := Slots.cons (h.keep k fun a u m => f a u (by simp [m])) z
    rw [List.append_assoc]
    exact z2
/-- one statement behind another -/
theorem SPost.step {r : SRes} (w0 : OkW av H own) (w : OkW av1 H1 own1) (p : Pn pn σ σ1) (A : Adv av H own av1 H1 own1) (h : SPost K mg W pn av H own σ G r) : SPost K mg W pn av1 H1 own1 σ1 G r := by
  cases r with
  | st => exact h
  | nx env => exact fun σ' H' av' own' p2 B w2 s => h σ' H' av' own' (p.trans p2) (Adv.trans (t := []) (u := []) w0 w A B) w2 s
  | bk env => exact fun σ' H' av' own' p2 B w2 s => h σ' H' av' own' (p.trans p2) (Adv.trans (t := []) (u := []) w0 w A B) w2 s
  | ct env => exact fun σ' H' av' own' p2 B w2 s => h σ' H' av' own' (p.trans p2) (Adv.trans (t := []) (u := []) w0 w A B) w2 s
  | rt o env => exact fun v σ' H' av' fp own' p2 B w2 r s => h v σ' H' av' fp own' (p.trans p2) (Adv.trans (t := []) (u := fp) w0 w A B) w2 r s
  | ex c x env => exact fun σ' p2 cls dd v H' av' own' hc B w2 hd r s => h σ' (p.trans p2) cls dd v H' av' own' hc (Adv.trans (t := []) (u := []) w0 w A B) w2 hd r s
theorem SPost.mono {r : SRes} {G' : Ends} (h : SPost K mg W pn av H own σ G r) (h1 : ∀ σ H, G.nx σ H → G'.nx σ H) (h2 : ∀ v H, G.rt v H → G'.rt v H) (h3 : ∀ σ H, G.bk σ H → G'.bk σ H) (h4 : ∀ σ H, G.ct σ H → G'.ct σ H) : SPost K mg W pn av H own σ G' r := by
  cases r with
  | st => exact h
  | nx env => exact fun σ' H' av' own' p2 B w2 s => h1 _ _ (h σ' H' av' own' p2 B w2 s)
  | bk env => exact fun σ' H' av' own' p2 B w2 s => h3 _ _ (h σ' H' av' own' p2 B w2 s)
  | ct env => exact fun σ' H' av' own' p2 B w2 s => h4 _ _ (h σ' H' av' own' p2 B w2 s)
  | rt o env => exact fun v σ' H' av' fp own' p2 B w2 r s => h2 _ _ (h v σ' H' av' fp own' p2 B w2 r s)
  | ex c x env => exact h
/-- an expression's exception is the statement's -/
theorem SPost.exc {c : Str} {x : D} {env' : Ev} (h : SPost K mg W pn av H own σ G (.ex c x env')) : XPost K mg W av H own σ c x env' :=
  fun cls dd v H' av' own' hc A w hd r s => h σ (Pn.refl pn σ) cls dd v H' av' own' hc A w hd r s
/-- slot i is given another content: what it held is given up -/
theorem Slots.put {env : Ev} {i : Nat} {v : Option V} {o : O} {fp : List Addr} (A : Adv av H own av1 H1 (fp ++ own1)) (w1 : OkW av1 H1 (fp ++ own1)) (hs : Slots K av1 H1 σ env own1) (hi : i < env.length) (hr : SR K av1 H1 v o fp) :
    ∃ (av2 : Addr → Prop) (own2 : List Addr), Adv av H own av2 H1 own2 ∧ OkW av2 H1 own2 ∧ Slots K av2 H1 (σ.set i v) (env.set i o) own2 := by
  obtain ⟨s, P, fpi, B, rfl, e1, e2, g⟩ := hs.focus hi
  have sub : ∀ a, drp av own (P ++ (fp ++ B)) a → av1 a := fun a h => by
    rcases h with h | h
    · exact (A.av_ a).mpr (.inl h)
    · refine w1.sub a ?_
      simp only [List.mem_append] at h ⊢
      rcases h with h | h | h <;> simp [h]
  have nd : (P ++ (fp ++ B)).Nodup := by
    have := w1.nodup
    simp only [List.nodup_append, List.mem_append] at this ⊢
    obtain ⟨n1, ⟨n2, ⟨n3, n4, n5⟩, n6⟩, n7⟩ := this
    refine ⟨n2, ⟨n1, n4, fun a ha b hb => n7 a ha b (.inr (.inr hb))⟩, fun a ha b hb => ?_⟩
    rcases hb with hb | hb
    · exact fun e => n7 b hb a (.inl ha) e.symm
    · exact n6 a ha b (.inr hb)
  refine ⟨drp av own (P ++ (fp ++ B)), P ++ (fp ++ B), ⟨fun _ => Iff.rfl, fun a h => A.fresh a ?_, A.ext, A.there⟩, ⟨nd, fun a h => .inr h, fun a h => w1.dom a (sub a h)⟩, ?_⟩
  · simp only [List.mem_append] at h ⊢
    rcases h with h | h | h <;> simp [h]
  · exact g (.grow (Grow.refl _) sub) (fun _ _ _ e => e) (hr.keep (.grow (Grow.refl _) sub) fun _ _ _ e => e)
end

section
variable {X : Cx} {W : WX} {pn : List Nat} {pos : Pos} {e c : Expr} {fe : Fe} {ft : Ft} {f g : Fs} {s : Stmt} {ss : List Stmt}
theorem b_nil : VB X W pn [] nilS := by
  refine pss_imp pss_nil fun D σ H h => ?_
  obtain ⟨env, av, own, hs, w, h⟩ := h
  exact h σ H av own (Pn.refl pn σ) (Adv.refl w) w hs
theorem b_cons (h1 : VS X W pn s f) (h2 : VB X W pn ss g) : VB X W pn (s :: ss) (seqS f g) := by
  refine pss_imp (pss_cons h1 h2) fun D σ H h => ?_
  obtain ⟨env, av, own, hs, w, h⟩ := h
  refine ⟨env, av, own, hs, w, ?_⟩
  unfold seqS at h
  cases q : f env with
  | nx env1 =>
    rw [q] at h
    exact fun σ' H' av' own' p A w' s => ⟨env1, av', own', s, w', SPost.step w w' p A h⟩
  | st => rw [q] at h; exact h
  | bk env1 => rw [q] at h; exact h
  | ct env1 => rw [q] at h; exact h
  | rt o env1 => rw [q] at h; exact h
  | ex c x env1 => rw [q] at h; exact h
theorem b_one (h1 : VS X W pn s f) : VB X W pn [s] f := pss_one h1
theorem s_pass : VS X W pn (.Pass pos) nilS := by
  refine ps_imp ps_pass fun D σ H h => ?_
  obtain ⟨env, av, own, hs, w, h⟩ := h
  exact h σ H av own (Pn.refl pn σ) (Adv.refl w) w hs
theorem s_break : VS X W pn (.Break pos) bkS := by
  refine ps_imp ps_break fun D σ H h => ?_
  obtain ⟨env, av, own, hs, w, h⟩ := h
  exact h σ H av own (Pn.refl pn σ) (Adv.refl w) w hs
theorem s_continue : VS X W pn (.Continue pos) ctS := by
  refine ps_imp ps_continue fun D σ H h => ?_
  obtain ⟨env, av, own, hs, w, h⟩ := h
  exact h σ H av own (Pn.refl pn σ) (Adv.refl w) w hs
theorem s_set {i : Nat} {x : Str} {pos' : Pos} (hN : X.N.Nodup) (hi : X.N[i]? = some x) (hx : Loc X.env.scope x) (hp : pn.contains i = false) (he : VE X W e fe) (hs : swapsWith e (some (.Name x pos')) pos.line X.env = pure false := by rfl)
    (hf : X.fn x = true ∨ X.env.scope.names.lookup x = some .local := by first | exact .inl rfl | exact .inr rfl | assumption) : VS X W pn (.Assign [.Name x pos'] e pos) (asgS i fe) := by
  refine ps_imp (ps_set hN hi hx he hs hf) fun D σ H h => ?_
  obtain ⟨env, av, own, hs, w, h⟩ := h
  refine ⟨env, av, own, hs, w, ?_⟩
  unfold asgS at h
  cases q : fe env with
  | st => rw [q] at h; exact h
  | ex c x e => rw [q] at h; exact SPost.exc h
  | ok p =>
    obtain ⟨o, env1⟩ := p
    rw [q] at h
    intro v H1 av1 fp own1 A w1 hr hs1
    have h' : SPost X.K X.mg W pn av H own σ D (if i < env1.length then .nx (env1.set i o) else .st) := h
    by_cases hl : i < env1.length
    · rw [if_pos hl] at h'
      obtain ⟨av2, own2, A2, w2, s2⟩ := hs1.put A w1 hl hr
      exact h' _ H1 av2 own2 (Pn.set hp) A2 w2 s2
    · rw [if_neg hl] at h'
      exact h'.elim
theorem s_setZ {i : Nat} {x : Str} {pos' : Pos} (hN : X.N.Nodup) (hi : X.N[i]? = some x) (hx : Loc X.env.scope x) (hp : pn.contains i = false) (he : VE X W e fe) (hs : swapsWith e (some (.Name x pos')) pos.line X.env = pure false := by rfl)
    (hf : X.fn x = true ∨ X.env.scope.names.lookup x = some .local := by first | exact .inl rfl | exact .inr rfl | assumption) : VS X W pn (.Assign [.Name x pos'] e pos) (asgZ i fe) := by
  refine ps_imp (ps_set hN hi hx he hs hf) fun D σ H h => ?_
  obtain ⟨env, av, own, hs, w, h⟩ := h
  refine ⟨env, av, own, hs, w, ?_⟩
  unfold asgZ at h
  cases q : fe env with
  | st => rw [q] at h; exact h
  | ex c x e => rw [q] at h; exact SPost.exc h
  | ok p =>
    obtain ⟨o, env1⟩ := p
    rw [q] at h
    intro v H1 av1 fp own1 A w1 hr hs1
    have h' : SPost X.K X.mg W pn av H own σ D (if o.isUn then .st else if i < env1.length then .nx (env1.set i (.d o.toD)) else .st) := h
    cases hu : o.isUn with
    | true => rw [hu, if_pos rfl] at h'; exact h'.elim
    | false =>
      rw [hu, if_neg Bool.false_ne_true] at h'
      by_cases hl : i < env1.length
      · rw [if_pos hl] at h'
        have A' := Adv.drop A
        have w' := OkW.drop A w1
        have r' : RD X.K (drp av own own1) H1 v o.toD := hr.frozen hu (drp_sub A) fun a m z => by
          rcases z with z | z
          · rcases A.fresh a (List.mem_append_left _ m) with q | q
            · exact z.2 q
            · have := w.dom a z.1
              rw [q] at this; cases this
          · exact w1.apart a m z
        obtain ⟨av2, own2, A2, w2, s2⟩ := Slots.put (fp := []) A' w' (hs1.grow (σ := σ) (env := env1) (Grow.refl _) (drp_sub A)) hl (.d r')
        exact h' _ H1 av2 own2 (Pn.set hp) A2 w2 s2
      · rw [if_neg hl] at h'
        exact h'.elim
theorem s_ret (he : VE X W e fe) : VS X W pn (.Return (some e) pos) (retS fe) := by
  refine ps_imp (ps_ret he) fun D σ H h => ?_
  obtain ⟨env, av, own, hs, w, h⟩ := h
  refine ⟨env, av, own, hs, w, ?_⟩
  unfold retS at h
  cases q : fe env with
  | st => rw [q] at h; exact h
  | ex c x e => rw [q] at h; exact SPost.exc h
  | ok p =>
    rw [q] at h
    exact fun v H1 av1 fp own1 A w1 hr hs1 => h v σ H1 av1 fp own1 (Pn.refl pn σ) A w1 hr hs1
theorem s_retN : VS X W pn (.Return none pos) retN := by
  refine ps_imp ps_retN fun D σ H h => ?_
  obtain ⟨env, av, own, hs, w, h⟩ := h
  exact h .non σ H av [] own (Pn.refl pn σ) (Adv.refl w) w (.d .non) hs
/-- the slot's own list is handed back: return x -/
theorem s_retO {i : Nat} {x : Str} {p2 : Pos} (hx : PE X (.Name x p2) (tVar i)) : VS X W pn (.Return (some (.Name x p2)) pos) (retO i) := by
  refine ps_imp (ps_ret hx) fun D σ H h => ?_
  obtain ⟨env, av, own, hs, w, h⟩ := h
  unfold retO at h
  cases hu : (env.getD i .un).isUn with
  | true => rw [hu, if_pos rfl] at h; exact h.elim
  | false =>
    rw [hu, if_neg Bool.false_ne_true] at h
    obtain ⟨v, fp0, e1, e2, _⟩ := slot_some hs hu
    have hl : i < env.length := by
      rw [List.getD_eq_getElem?_getD] at hu
      cases q : env[i]? with
      | none => rw [q] at hu; cases hu
      | some o => exact (List.getElem?_eq_some_iff.mp q).1
    obtain ⟨s, P, fp, B, rfl, e3, e4, g⟩ := hs.focus hl
    rw [e1] at e3
    cases e3
    have z := g (av' := av) (H' := H) (s' := some v) (o' := .un) (fp' := []) (.grow (Grow.refl _) fun _ h => h) (fun _ _ _ e => e) .un
    have eσ : σ.set i (some v) = σ := by
      refine List.ext_getElem? fun j => ?_
      by_cases hj : i = j
      · subst hj
        rw [List.getElem?_set_self (List.getElem?_eq_some_iff.mp e1).1, e1]
      · rw [List.getElem?_set_ne hj]
    rw [eσ] at z
    have nd : (fp ++ (P ++ ([] ++ B))).Nodup := by
      have := w.nodup
      simp only [List.nil_append, List.nodup_append, List.mem_append] at this ⊢
      obtain ⟨n1, ⟨n2, n3, n4⟩, n5⟩ := this
      exact ⟨n2, ⟨n1, n3, fun a ha b hb => n5 a ha b (.inr hb)⟩, fun a ha b hb => hb.elim (fun hb e => n5 b hb a (.inl ha) e.symm) fun hb => n4 a ha b hb⟩
    have mm : ∀ a, a ∈ fp ++ (P ++ ([] ++ B)) ↔ a ∈ P ++ (fp ++ B) := fun a => by
      simp only [List.nil_append, List.mem_append]
      constructor
      · rintro (h | h | h) <;> simp [h]
      · rintro (h | h | h) <;> simp [h]
    refine ⟨v, e1, h v σ H av fp (P ++ ([] ++ B)) (Pn.refl pn σ) ⟨fun a => ⟨fun q => ?_, fun q => ?_⟩, fun a m => .inl ((mm a).mp m), fun _ _ e _ => e, fun _ e => e⟩ ⟨nd, fun a m => w.sub a ((mm a).mp m), w.dom⟩ e4 z⟩
    · by_cases k : a ∈ P ++ (fp ++ B)
      · exact .inr ((mm a).mpr k)
      · exact .inl ⟨q, k⟩
    · rcases q with q | q
      · exact q.1
      · exact w.sub a ((mm a).mp q)
theorem s_expr (he : VE X W e fe) (hs : swapsWith e none pos.line X.env = pure false := by rfl) : VS X W pn (.Expr e pos) (dropS fe) := by
  refine ps_imp (ps_expr he hs) fun D σ H h => ?_
  obtain ⟨env, av, own, hs, w, h⟩ := h
  refine ⟨env, av, own, hs, w, ?_⟩
  unfold dropS at h
  cases q : fe env with
  | st => rw [q] at h; exact h
  | ex c x e => rw [q] at h; exact SPost.exc h
  | ok p =>
    rw [q] at h
    exact fun v H1 av1 fp own1 A w1 hr hs1 => h σ H1 _ own1 (Pn.refl pn σ) (Adv.drop A) (OkW.drop A w1) (hs1.grow (σ := σ) (env := p.2) (Grow.refl _) (drp_sub A))
theorem s_if {a b : List Stmt} (hc : VT X W c ft) (ha : VB X W pn a f) (hb : VB X W pn b g) : VS X W pn (.If c a b pos) (ifS ft f g) := by
  refine ps_imp (ps_if hc ha hb) fun D σ H h => ?_
  obtain ⟨env, av, own, hs, w, h⟩ := h
  refine ⟨env, av, own, hs, w, ?_⟩
  unfold ifS at h
  cases q : ft env with
  | st => rw [q] at h; exact h
  | ex c x e => rw [q] at h; exact SPost.exc h
  | ok p =>
    obtain ⟨k, env1⟩ := p
    rw [q] at h
    intro H1 av1 own1 A w1 hs1
    cases k with
    | true => exact ⟨env1, av1, own1, hs1, w1, SPost.step w w1 (Pn.refl pn σ) A h⟩
    | false => exact ⟨env1, av1, own1, hs1, w1, SPost.step w w1 (Pn.refl pn σ) A h⟩
end
end VL

set_option Elab.async false
set_option linter.all false
set_option maxRecDepth 100000
namespace VL
open PySem PySem.Spec PyProof.Rows L2

structure Yields (K : PySem.W.Frag) (av : Addr → Prop) (H : Hp) (J : It) (ds : List D) : Prop where
  go : ∀ av' H', Keep av av' H H' → ∀ i, i < ds.length → J.go i H'
  yld : ∀ av' H', Keep av av' H H' → Dom av' H' → ∀ i x H'' d, ds[i]? = some d → J.yld i H' x H'' → Grow H' H'' ∧ RD K av' H'' x d
  stop : ∀ av' H', Keep av av' H H' → J.stop ds.length H'
abbrev Fi := Ev → ER (List D × Ev)
abbrev Fg := D → Ev → Option Ev
section
variable (K : PySem.W.Frag) (mg : Str → Option Value) (W : WX)
def IPost (av : Addr → Prop) (H : Hp) (own : List Addr) (σ : L2.St) (R : It → Hp → Prop) : ER (List D × Ev) → Prop
  | .ok (ds, env') => ∀ (J : It) (H' : Hp) (av' : Addr → Prop) (own' : List Addr), Adv av H own av' H' own' → OkW av' H' own' → Slots K av' H' σ env' own' → Yields K av' H' J ds → R J H'
  | .ex c x env' => XPost K mg W av H own σ c x env'
  | .st => False
def tI (f : Fi) : TI := fun σ H R => ∃ (env : Ev) (av : Addr → Prop) (own : List Addr), Slots K av H σ env own ∧ OkW av H own ∧ IPost K mg W av H own σ R (f env)
def GPost (pn : List Nat) (av : Addr → Prop) (H : Hp) (own : List Addr) (σ : L2.St) (Q : L2.St → Hp → Prop) : Option Ev → Prop
  | some env' => ∀ (σ' : L2.St) (av' : Addr → Prop) (own' : List Addr), Pn pn σ σ' → Adv av H own av' H own' → OkW av' H own' → Slots K av' H σ' env' own' → Q σ' H
  | none => False
/-- a target: the slots of pn stay -/
def tG (pn : List Nat) (f : Fg) : TG := fun v σ H Q => ∃ (env : Ev) (av : Addr → Prop) (own : List Addr) (d : D), Slots K av H σ env own ∧ OkW av H own ∧ RD K av H v d ∧
  GPost K pn av H own σ Q (f d env)
end
abbrev VI (X : Cx) (W : WX) (tg e : Expr) (f : Fi) : Prop := PI X tg e (tI X.K X.mg W f)
abbrev VG (X : Cx) (pn : List Nat) (tg : Expr) (f : Fg) : Prop := PG X tg (tG X.K pn f)
theorem pg_imp {X : Cx} {e : Expr} {t t' : TG} (h : PG X e t) (i : ∀ v σ H Q, t' v σ H Q → t v σ H Q) : PG X e t' := ⟨fun pins s σ H v u Q I r q => h.run pins s σ H v u Q I r (i v σ H Q q)⟩
theorem pi_imp {X : Cx} {tg e : Expr} {t t' : TI} (h : PI X tg e t) (i : ∀ σ H R, t' σ H R → t σ H R) : PI X tg e t' := ⟨fun pins s σ H R I q => h.run pins s σ H R I (i σ H R q)⟩

def nameG (i : Nat) : Fg := fun d env => if i < env.length then some (env.set i (.d d)) else none
def setsG : List Nat → List D → Ev → Option Ev
  | [], [], env => some env
  | i :: is, d :: ds, env => if i < env.length then setsG is ds (env.set i (.d d)) else none
  | _, _, _ => none
def tupG (is : List Nat) : Fg := fun d env => match d with
  | .tup ds => setsG is ds env
  | _ => none
section
variable {X : Cx} {W : WX} {pn : List Nat} {pos : Pos}
theorem g_name {i : Nat} {x : Str} (h : PG X (.Name x pos) (gName i)) (hp : pn.contains i = false) : VG X pn (.Name x pos) (nameG i) := by
  refine pg_imp h fun v σ H Q h => ?_
  obtain ⟨env, av, own, d, hs, w, r, h⟩ := h
  unfold nameG at h
  by_cases hl : i < env.length
  · rw [if_pos hl] at h
    obtain ⟨av2, own2, A2, w2, s2⟩ := Slots.put (fp := []) (Adv.refl w) w hs hl (.d r)
    exact h _ av2 own2 (Pn.set hp) A2 w2 s2
  · rw [if_neg hl] at h
    exact h.elim
/-- several names -/
def tGs (K : PySem.W.Frag) (pn : List Nat) (is : List Nat) : TGs := fun vs σ H Q => ∃ (env : Ev) (av : Addr → Prop) (own : List Addr) (ds : List D), Slots K av H σ env own ∧ OkW av H own ∧ RDs K av H vs ds ∧
  GPost K pn av H own σ Q (setsG is ds env)
abbrev VGs (X : Cx) (pn : List Nat) (ts : List Expr) (is : List Nat) : Prop := PGs X ts (tGs X.K pn is)
theorem pgs_imp {X : Cx} {e : List Expr} {t t' : TGs} (h : PGs X e t) (i : ∀ v σ H Q, t' v σ H Q → t v σ H Q) : PGs X e t' := ⟨fun pins s σ H v u Q I r q => h.run pins s σ H v u Q I r (i v σ H Q q)⟩
theorem gs_nil : VGs X pn [] [] := by
  refine pgs_imp pgs_nil fun vs σ H Q h => ?_
  obtain ⟨env, av, own, ds, hs, w, r, h⟩ := h
  cases r with
  | nil => exact ⟨rfl, h σ av own (Pn.refl pn σ) (Adv.refl w) w hs⟩
  | cons a b => exact h.elim
theorem gs_cons {i : Nat} {is : List Nat} {x : Str} {ts : List Expr} (h : PG X (.Name x pos) (gName i)) (hp : pn.contains i = false) (ht : VGs X pn ts is)
    (hs : (assignEach (.Name x pos :: ts) X.env).map (·.2) = assign (.Name x pos) X.env :: (assignEach ts X.env).map (·.2) := by rfl) : VGs X pn (.Name x pos :: ts) (i :: is) := by
  refine pgs_imp (pgs_cons h ht hs) fun vs σ H Q h => ?_
  obtain ⟨env, av, own, ds, hs, w, r, h⟩ := h
  cases r with
  | nil => exact h.elim
  | cons a b =>
    rename_i v d vs ds
    refine ⟨v, vs, rfl, ?_⟩
    have h' : GPost X.K pn av H own σ Q (if i < env.length then setsG is ds (env.set i (.d d)) else none) := h
    by_cases hl : i < env.length
    · rw [if_pos hl] at h'
      obtain ⟨av2, own2, A2, w2, s2⟩ := Slots.put (fp := []) (Adv.refl w) w hs hl (.d a)
      refine ⟨_, av2, own2, ds, s2, w2, b.keep (A2.keep w), ?_⟩
      cases q : setsG is ds (env.set i (.d d)) with
      | none => rw [q] at h'; exact h'
      | some env' =>
        rw [q] at h'
        exact fun σ' av' own' p A3 w3 s3 => h' σ' av' own' ((Pn.set hp).trans p) (Adv.trans (t := []) (u := []) w w2 A2 A3) w3 s3
    · rw [if_neg hl] at h'
      exact h'.elim
theorem g_tup {es : List Expr} {k : Nat} {is : List Nat} (hc : X.calm = true) (h : VGs X pn es is) (hn : (assignEach es X.env).length = is.length := by rfl) (hst : (assignEach es X.env).findIdx? (·.1) = none := by rfl) : VG X pn (.Tuple es k pos) (tupG is) := by
  refine pg_imp (pg_tup hc h hn hst) fun v σ H Q h => ?_
  obtain ⟨env, av, own, d, hs, w, r, h⟩ := h
  unfold tupG at h
  cases d <;> first | exact h.elim | skip
  rename_i ds
  obtain ⟨a, vs, rfl, e1, e2⟩ := (RV.d r).tup
  have hl : ∀ (is : List Nat) (ds : List D) (env : Ev) (env' : Ev), setsG is ds env = some env' → ds.length = is.length := by
    intro is
    induction is with
    | nil =>
      intro ds env env' q
      cases ds with
      | nil => rfl
      | cons _ _ => cases q
    | cons i is ih =>
      intro ds env env' q
      cases ds with
      | nil => cases q
      | cons d ds =>
        unfold setsG at q
        split at q
        · rw [List.length_cons, List.length_cons, ih _ _ _ q]
        · cases q
  have h' : GPost X.K pn av H own σ Q (setsG is ds env) := h
  refine ⟨a, vs, rfl, e1, ?_, env, av, own, ds, hs, w, e2, h'⟩
  cases q : setsG is ds env with
  | none => rw [q] at h'; exact h'.elim
  | some env' => rw [e2.length, hl _ _ _ _ q]
/-- a, b = e -/
def nxO : Option Ev → SRes
  | some env' => .nx env'
  | none => .st
def unR (is : List Nat) (o : O) (env : Ev) : SRes := if o.isUn then .st else nxO (tupG is o.toD env)
def unS (is : List Nat) (e : Fe) : Fs := fun env => (e env).then fun p => unR is p.1 p.2
theorem s_unpack {tg e : Expr} {is : List Nat} {fe : Fe} (he : VE X W e fe) (hg : VG X pn tg (tupG is)) (hs : swapsWithSole [tg] e pos.line X.env = pure false := by rfl) (hw : swappedStores [tg] e X.env = pure none := by rfl)
    (h1 : (assignEach [tg] X.env).map (·.2) = [assign tg X.env] := by rfl) : VS X W pn (.Assign [tg] e pos) (unS is fe) := by
  refine ps_imp (ps_asg he hg hs hw h1) fun G σ H h => ?_
  obtain ⟨env, av, own, hs, w, h⟩ := h
  refine ⟨env, av, own, hs, w, ?_⟩
  unfold unS at h
  cases q : fe env with
  | st => rw [q] at h; exact h
  | ex c x e => rw [q] at h; exact SPost.exc h
  | ok p =>
    obtain ⟨o, env1⟩ := p
    rw [q] at h
    intro v H1 av1 fp own1 A w1 hr hs1
    have h' : SPost X.K X.mg W pn av H own σ G (if o.isUn then .st else nxO (tupG is o.toD env1)) := h
    cases hu : o.isUn with
    | true => rw [hu, if_pos rfl] at h'; exact h'.elim
    | false =>
      rw [hu, if_neg Bool.false_ne_true] at h'
      cases q2 : tupG is o.toD env1 with
      | none => rw [q2] at h'; exact h'.elim
      | some env2 =>
        rw [q2] at h'
        have A' := Adv.drop A
        have w' := OkW.drop A w1
        have r' : RD X.K (drp av own own1) H1 v o.toD := hr.frozen hu (drp_sub A) fun a m z => by
          rcases z with z | z
          · rcases A.fresh a (List.mem_append_left _ m) with q | q
            · exact z.2 q
            · have := w.dom a z.1
              rw [q] at this; cases this
          · exact w1.apart a m z
        refine ⟨env1, _, own1, o.toD, hs1.grow (σ := σ) (env := env1) (Grow.refl _) (drp_sub A), w', r', ?_⟩
        rw [q2]
        exact fun σ' av' own' p A3 w3 s3 => h' σ' H1 av' own' p (Adv.trans (t := []) (u := []) w w' A' A3) w3 s3
end

/-- behind a turn -/
def forNext (r : SRes) (k : Ev → SRes) : SRes := match r with
  | .nx e => k e
  | .ct e => k e
  | .bk e => .nx e
  | r => r
@[simp] theorem forNext_nx (e : Ev) (k : Ev → SRes) : forNext (.nx e) k = k e := (rfl)
@[simp] theorem forNext_ct (e : Ev) (k : Ev → SRes) : forNext (.ct e) k = k e := (rfl)
@[simp] theorem forNext_bk (e : Ev) (k : Ev → SRes) : forNext (.bk e) k = .nx e := (rfl)
@[simp] theorem forNext_rt (o : O) (e : Ev) (k : Ev → SRes) : forNext (.rt o e) k = .rt o e := (rfl)
@[simp] theorem forNext_ex (c : Str) (x : D) (e : Ev) (k : Ev → SRes) : forNext (.ex c x e) k = .ex c x e := (rfl)
@[simp] theorem forNext_st (k : Ev → SRes) : forNext .st k = .st := (rfl)
def forL (tgt : Fg) (body : Fs) : List D → Ev → SRes
  | [], env => .nx env
  | d :: ds, env => match tgt d env with
    | none => .st
    | some env1 => forNext (body env1) (forL tgt body ds)
def forS (src : Fi) (tgt : Fg) (body : Fs) : Fs := fun env => (src env).then fun p => forL tgt body p.1 p.2
section
variable {X : Cx} {W : WX} {pn : List Nat} {pos : Pos}
theorem s_for {tg iter : Expr} {body : List Stmt} {src : Fi} {tgt : Fg} {f : Fs} (hp : PassesOwn (model X.prog X.w) X.A X.env X.xe) (hc : X.calm = true) (hi : VI X W tg iter src) (hg : VG X pn tg tgt) (hb : VB X W pn body f)
    (hs : ∀ x, foldedSetIterable iter X.env x = pure x := by intro _; rfl) : VS X W pn (.For tg iter body [] pos) (forS src tgt f) := by
  refine ps_imp (ps_for hp hc hi hg hb hs) fun G σ H h => ?_
  obtain ⟨env, av, own, hs, w, h⟩ := h
  refine ⟨env, av, own, hs, w, ?_⟩
  unfold forS at h
  cases q : src env with
  | st => rw [q] at h; exact h
  | ex c x e => rw [q] at h; exact SPost.exc h
  | ok p =>
    obtain ⟨ds, env1⟩ := p
    rw [q] at h
    intro J H1 av1 own1 A1 w1 hs1 Y
    have h1 : SPost X.K X.mg W pn av1 H1 own1 σ G (forL tgt f ds env1) := SPost.step w w1 (Pn.refl pn σ) A1 h
    refine ⟨fun i m σ' H' => ∃ (env' : Ev) (av' : Addr → Prop) (own' : List Addr), Pn pn σ σ' ∧ Adv av1 H1 own1 av' H' own' ∧ OkW av' H' own' ∧ Slots X.K av' H' σ' env' own' ∧ m = ds.length - i ∧ i ≤ ds.length ∧
      SPost X.K X.mg W pn av1 H1 own1 σ G (forL tgt f (ds.drop i) env'), ⟨ds.length, env1, av1, own1, Pn.refl pn σ, Adv.refl w1, w1, hs1, rfl, Nat.zero_le _, h1⟩, ?_⟩
    rintro i m σ' H' ⟨env', av', own', pn', A', w', s', rfl, hi, hq⟩
    have k := A'.keep w1
    by_cases hl : i < ds.length
    · right
      refine ⟨Y.go av' H' k i hl, fun σ2 H2 => ∃ (env' : Ev) (av' : Addr → Prop) (own' : List Addr), Pn pn σ σ2 ∧ Adv av1 H1 own1 av' H2 own' ∧ OkW av' H2 own' ∧ Slots X.K av' H2 σ2 env' own' ∧
        SPost X.K X.mg W pn av1 H1 own1 σ G (forL tgt f (ds.drop (i + 1)) env'), fun σ2 H2 ⟨e2, a2, o2, p2, A2, w2, s2, q2⟩ => ⟨ds.length - (i + 1), by omega, e2, a2, o2, p2, A2, w2, s2, rfl, hl, q2⟩, fun x H'' y => ?_⟩
      obtain ⟨gr, rd⟩ := Y.yld av' H' k w'.dom i x H'' ds[i] (List.getElem?_eq_getElem hl) y
      have A'' := A'.grow gr
      have w'' := w'.grow gr
      have s'' := s'.grow (σ := σ') (env := env') gr (fun _ z => z)
      refine ⟨env', av', own', ds[i], s'', w'', rd, ?_⟩
      rw [List.drop_eq_getElem_cons hl] at hq
      unfold forL at hq
      cases qt : tgt ds[i] env' with
      | none => rw [qt] at hq; exact hq.elim
      | some env2 =>
        rw [qt] at hq
        have hq : SPost X.K X.mg W pn av1 H1 own1 σ G (forNext (f env2) (forL tgt f (ds.drop (i + 1)))) := hq
        intro σ2 av2 own2 p2 A2 w2 s2
        refine ⟨env2, av2, own2, s2, w2, ?_⟩
        have AA := Adv.trans (t := []) (u := []) w1 w'' A'' A2
        have pp := pn'.trans p2
        cases qb : f env2 with
        | st => rw [qb] at hq; exact hq
        | nx e =>
          rw [qb] at hq
          exact fun σ3 H3 av3 own3 p3 A3 w3 s3 => ⟨e, av3, own3, pp.trans p3, Adv.trans (t := []) (u := []) w1 w2 AA A3, w3, s3, hq⟩
        | ct e =>
          rw [qb] at hq
          exact fun σ3 H3 av3 own3 p3 A3 w3 s3 => ⟨e, av3, own3, pp.trans p3, Adv.trans (t := []) (u := []) w1 w2 AA A3, w3, s3, hq⟩
        | bk e =>
          rw [qb] at hq
          exact fun σ3 H3 av3 own3 p3 A3 w3 s3 => hq σ3 H3 av3 own3 (pp.trans p3) (Adv.trans (t := []) (u := []) w1 w2 AA A3) w3 s3
        | rt o e =>
          rw [qb] at hq
          exact SPost.step (r := .rt o e) w1 w2 pp AA hq
        | ex c x e =>
          rw [qb] at hq
          exact SPost.step (r := .ex c x e) w1 w2 pp AA hq
    · have e : i = ds.length := by omega
      subst e
      left
      refine ⟨Y.stop av' H' k, ?_⟩
      rw [List.drop_length] at hq
      exact hq σ' H' av' own' pn' A' w' s'
def whileF (t : Ft) (b : Fs) : Nat → Ev → SRes
  | 0, _ => .st
  | n + 1, env => (t env).then fun p => if p.1 then forNext (b p.2) (whileF t b n) else .nx p.2
theorem s_while {c : Expr} {body : List Stmt} {t : Ft} {f : Fs} {n : Ev → Nat} (hp : PassesOwn (model X.prog X.w) X.A X.env X.xe) (hc : VT X W c t) (hb : VB X W pn body f) : VS X W pn (.While c body [] pos) (fun env => whileF t f (n env) env) := by
  refine ps_imp (ps_while hp hc hb) fun G σ H h => ?_
  obtain ⟨env, av, own, hs, w, h⟩ := h
  refine ⟨fun m σ' H' => ∃ (env' : Ev) (av' : Addr → Prop) (own' : List Addr), Pn pn σ σ' ∧ Adv av H own av' H' own' ∧ OkW av' H' own' ∧ Slots X.K av' H' σ' env' own' ∧ SPost X.K X.mg W pn av H own σ G (whileF t f m env'),
    ⟨n env, env, av, own, Pn.refl pn σ, Adv.refl w, w, hs, h⟩, ?_⟩
  rintro m σ1 H1 ⟨env1, av1, own1, p1, A1, w1, s1, hq⟩
  refine ⟨env1, av1, own1, s1, w1, ?_⟩
  cases m with
  | zero => exact hq.elim
  | succ m =>
    unfold whileF at hq
    cases qt : t env1 with
    | st => rw [qt] at hq; exact hq
    | ex c x e =>
      rw [qt] at hq
      exact SPost.exc (SPost.step w w1 p1 A1 hq)
    | ok r =>
      obtain ⟨k, env2⟩ := r
      rw [qt] at hq
      intro H2 av2 own2 A2 w2 s2
      have AA := Adv.trans (t := []) (u := []) w w1 A1 A2
      cases k with
      | false => exact hq σ1 H2 av2 own2 p1 AA w2 s2
      | true =>
        rw [if_pos rfl]
        refine ⟨fun σ3 H3 => ∃ (env' : Ev) (av' : Addr → Prop) (own' : List Addr), Pn pn σ σ3 ∧ Adv av H own av' H3 own' ∧ OkW av' H3 own' ∧ Slots X.K av' H3 σ3 env' own' ∧ SPost X.K X.mg W pn av H own σ G (whileF t f m env'),
          fun σ3 H3 z => ⟨m, Nat.lt_succ_self m, z⟩, env2, av2, own2, s2, w2, ?_⟩
        have hq' : SPost X.K X.mg W pn av H own σ G (forNext (f env2) (whileF t f m)) := hq
        cases qb : f env2 with
        | st => rw [qb] at hq'; exact hq'
        | nx e =>
          rw [qb] at hq'
          exact fun σ3 H3 av3 own3 p3 A3 w3 s3 => ⟨e, av3, own3, p1.trans p3, Adv.trans (t := []) (u := []) w w2 AA A3, w3, s3, hq'⟩
        | ct e =>
          rw [qb] at hq'
          exact fun σ3 H3 av3 own3 p3 A3 w3 s3 => ⟨e, av3, own3, p1.trans p3, Adv.trans (t := []) (u := []) w w2 AA A3, w3, s3, hq'⟩
        | bk e =>
          rw [qb] at hq'
          exact fun σ3 H3 av3 own3 p3 A3 w3 s3 => hq' σ3 H3 av3 own3 (p1.trans p3) (Adv.trans (t := []) (u := []) w w2 AA A3) w3 s3
        | rt o e =>
          rw [qb] at hq'
          exact SPost.step (r := .rt o e) w w2 p1 AA hq'
        | ex c x e =>
          rw [qb] at hq'
          exact SPost.step (r := .ex c x e) w w2 p1 AA hq'
end
end VL

set_option Elab.async false
set_option linter.all false
set_option maxRecDepth 100000
namespace VL
open PySem PySem.Spec PyProof.Rows L2

def rangeL (lo : Int) (n : Nat) : List D := (List.range n).map fun i => D.int (lo + (i : Nat))
theorem rangeL_length (lo : Int) (n : Nat) : (rangeL lo n).length = n := by unfold rangeL; rw [List.length_map, List.length_range]
/-- the numbers that range may walk -/
def okR (i : Int) : Bool := decide (-(2 ^ 62) ≤ i) && decide (i < 2 ^ 62)
theorem okR_ok {i : Int} (h : okR i = true) : -(2 ^ 62) ≤ i ∧ i < 2 ^ 62 := by
  unfold okR at h
  rw [Bool.and_eq_true, decide_eq_true_iff, decide_eq_true_iff] at h
  exact h
def rangeD1 : List D → Option (List D)
  | [.int j] => if okR j then some (rangeL 0 j.toNat) else none
  | _ => none
def rangeD2 : List D → Option (List D)
  | [.int i, .int j] => if okR i && okR j then some (rangeL i (j - i).toNat) else none
  | _ => none
/-- a source of operands that are not kept -/
def srcN (g : List D → Option (List D)) (as : List Opd) : Fi := fun env => (evA as env).bind fun p =>
  if p.1.all (Arg.good p.2) then (match g (p.1.map (Arg.look p.2)) with
    | some ds => .ok (ds, p.2)
    | none => .st) else .st
/-- a source of operands that stay as they are meanwhile -/
def srcC (g : List D → Option (List D)) (as : List Opd) : Fi := fun env => (evA as env).bind fun p =>
  if p.1.all (Arg.data p.2) then (match g (p.1.map (Arg.look p.2)) with
    | some ds => .ok (ds, p.2)
    | none => .st) else .st
def optR {α : Type} (r : Option (List D)) (env : Ev) (k : List D × Ev → ER α) : ER α := match r with
  | some ds => k (ds, env)
  | none => .st
section
variable {K : PySem.W.Frag} {mg : Str → Option Value} {W : WX} {av av1 : Addr → Prop} {H H1 : Hp} {own own1 t : List Addr} {σ : L2.St}
theorem yields_range (lo : Int) (n : Nat) : Yields K av H (Itr lo n) (rangeL lo n) where
  go := fun av' H' k i hi => by
    rw [rangeL_length] at hi
    exact hi
  yld := fun av' H' k dm i x H'' d hd y => by
    obtain ⟨rfl, rfl⟩ := y
    refine ⟨Grow.refl _, ?_⟩
    unfold rangeL at hd
    rw [List.getElem?_map] at hd
    cases q : (List.range n)[i]? with
    | none => rw [q] at hd; cases hd
    | some j =>
      rw [q] at hd
      have e : j = i := by
        obtain ⟨h1, h2⟩ := List.getElem?_eq_some_iff.mp q
        rw [List.getElem_range] at h2
        exact h2.symm
      subst e
      cases hd
      exact .int _
  stop := fun av' H' k => by
    show n ≤ _
    rw [rangeL_length]
    exact Nat.le_refl n
theorem yields_list {a : Addr} {vs : List V} {ds : List D} (n : ¬ av a) (h : H a = some (.lst vs)) (r : RDs K av H vs ds) : Yields K av H (Itl K a) ds where
  go := fun av' H' k i hi => by
    obtain ⟨v, e, _⟩ := r.getD (List.getElem?_eq_getElem hi)
    exact ⟨vs, v, SqL.of (k.at_ a _ n h), e⟩
  yld := fun av' H' k dm i x H'' d hd y => by
    obtain ⟨rfl, y⟩ := y
    obtain ⟨v, e, q⟩ := r.getD hd
    have e2 := y vs (SqL.of (k.at_ a _ n h))
    rw [e] at e2
    cases e2
    exact ⟨Grow.refl _, q.keep k⟩
  stop := fun av' H' k => ⟨vs, SqL.of (k.at_ a _ n h), by rw [r.length]; exact Nat.le_refl _⟩
theorem yields_seqL {v : V} {d : D} {ds : List D} (h : RD K av H v d) (e : d.seqL = some ds) : ∃ a, v = .ref a ∧ (∃ vs, SqL K H a vs) ∧ Yields K av H (Itl K a) ds := by
  cases d <;> simp only [D.seqL, Option.some.injEq, reduceCtorEq] at e <;> subst e
  · cases h with | lst n e r => exact ⟨_, rfl, ⟨_, SqL.of e⟩, yields_list n e r⟩
  · have stable : ∀ {a : Addr} {vs : List V} {ds : List D}, (∀ av' H', Keep av av' H H' → SqL K H' a vs) → RDs K av H vs ds → Yields K av H (Itl K a) ds := fun {a vs ds} st r => ⟨fun av' H' k i hi => by
      obtain ⟨v, e, _⟩ := r.getD (List.getElem?_eq_getElem hi)
      exact ⟨vs, v, st av' H' k, e⟩, fun av' H' k dm i x H'' d hd y => by
      obtain ⟨rfl, y⟩ := y
      obtain ⟨v, e, q⟩ := r.getD hd
      have e2 := y vs (st av' _ k)
      rw [e] at e2
      cases e2
      exact ⟨Grow.refl _, q.keep k⟩, fun av' H' k => ⟨vs, st av' H' k, by rw [r.length]; exact Nat.le_refl _⟩⟩
    cases h with
    | scr n e r => exact ⟨_, rfl, ⟨_, .inl e⟩, stable (fun av' H' k => .inl (k.rd n e).2) r⟩
    | kscr e r => exact ⟨_, rfl, ⟨_, .inr e⟩, stable (fun av' H' k => .inr e) r⟩
theorem yields_tup {v : V} {ds : List D} (h : RD K av H v (.tup ds)) : ∃ a, v = .ref a ∧ (∃ vs, SqT K H a vs) ∧ Yields K av H (Itt K a) ds := by
  have stable : ∀ {a : Addr} {vs : List V} {ds : List D}, (∀ av' H', Keep av av' H H' → SqT K H' a vs) → RDs K av H vs ds → Yields K av H (Itt K a) ds := fun {a vs ds} st r => ⟨fun av' H' k i hi => by
      obtain ⟨v, e, _⟩ := r.getD (List.getElem?_eq_getElem hi)
      exact ⟨vs, v, st av' H' k, e⟩, fun av' H' k dm i x H'' d hd y => by
      obtain ⟨rfl, y⟩ := y
      obtain ⟨v, e, q⟩ := r.getD hd
      have e2 := y vs (st av' _ k)
      rw [e] at e2
      cases e2
      exact ⟨Grow.refl _, q.keep k⟩, fun av' H' k => ⟨vs, st av' H' k, by rw [r.length]; exact Nat.le_refl _⟩⟩
  cases h with
  | tup n e r => exact ⟨_, rfl, ⟨_, SqT.of e⟩, stable (fun av' H' k => SqT.of (k.at_ _ _ n e)) r⟩
  | ktup e r => exact ⟨_, rfl, ⟨_, .inr e⟩, stable (fun av' H' k => .inr e) r⟩
/-- .. as a source gives it on -/
theorem srcN_ok {g : List D → Option (List D)} {as : List Opd} {R : It → Hp → Prop} (h : tI K mg W (srcN g as) σ H R) : tArg K mg W as σ H fun vs H1 => ∃ (av1 : Addr → Prop) (l : List D) (ds : List D), RVs K av1 H1 vs l ∧ g l = some ds ∧
    ∀ J, (∀ av2 H2, Yields K av2 H2 J ds) → R J H1 := by
  obtain ⟨env, av, own, hs, w, h⟩ := h
  refine args_ok as hs w ?_
  unfold srcN at h
  cases q : evA as env with
  | st => rw [q] at h; exact h
  | ex c x e => rw [q] at h; exact h
  | ok p =>
    obtain ⟨l, env'⟩ := p
    rw [q] at h
    intro vs H1 av1 t own1 A w1 ha hs1
    have h' : IPost K mg W av H own σ R (if l.all (Arg.good env') then optR (g (l.map (Arg.look env'))) env' .ok else .st) := h
    cases hg : l.all (Arg.good env') with
    | false => rw [hg, if_neg Bool.false_ne_true] at h'; exact h'.elim
    | true =>
      rw [hg, if_pos rfl] at h'
      cases hr : g (l.map (Arg.look env')) with
      | none => rw [hr] at h'; exact h'.elim
      | some ds =>
        rw [hr] at h'
        exact ⟨drp av own own1, _, ds, ha.view hs1 (drp_sub A) (fun a m z => by
          rcases z with z | z
          · rcases A.fresh a (List.mem_append_left _ m) with q | q
            · exact z.2 q
            · have := w.dom a z.1
              rw [q] at this; cases this
          · exact w1.apart a m z) hg, hr, fun J Y => h' J H1 _ own1 (Adv.drop A) (OkW.drop A w1) (hs1.grow (σ := σ) (env := env') (Grow.refl _) (drp_sub A)) (Y _ _)⟩
theorem srcC_ok {g : List D → Option (List D)} {as : List Opd} {R : It → Hp → Prop} (h : tI K mg W (srcC g as) σ H R) : tArg K mg W as σ H fun vs H1 => ∃ (av1 : Addr → Prop) (l : List D) (ds : List D), Dom av1 H1 ∧ RDs K av1 H1 vs l ∧ g l = some ds ∧
    ∀ J, Yields K av1 H1 J ds → R J H1 := by
  obtain ⟨env, av, own, hs, w, h⟩ := h
  refine args_ok as hs w ?_
  unfold srcC at h
  cases q : evA as env with
  | st => rw [q] at h; exact h
  | ex c x e => rw [q] at h; exact h
  | ok p =>
    obtain ⟨l, env'⟩ := p
    rw [q] at h
    intro vs H1 av1 t own1 A w1 ha hs1
    have h' : IPost K mg W av H own σ R (if l.all (Arg.data env') then optR (g (l.map (Arg.look env'))) env' .ok else .st) := h
    cases hg : l.all (Arg.data env') with
    | false => rw [hg, if_neg Bool.false_ne_true] at h'; exact h'.elim
    | true =>
      rw [hg, if_pos rfl] at h'
      cases hr : g (l.map (Arg.look env')) with
      | none => rw [hr] at h'; exact h'.elim
      | some ds =>
        rw [hr] at h'
        refine ⟨drp av own own1, _, ds, (OkW.drop A w1).dom, ha.frozen hs1 (drp_sub A) (fun a m z => ?_) hg, hr, fun J Y => h' J H1 _ own1 (Adv.drop A) (OkW.drop A w1) (hs1.grow (σ := σ) (env := env') (Grow.refl _) (drp_sub A)) Y⟩
        rcases z with z | z
        · rcases A.fresh a (List.mem_append_left _ m) with q | q
          · exact z.2 q
          · have := w.dom a z.1
            rw [q] at this; cases this
        · exact w1.apart a m z
end
def seqLD : List D → Option (List D)
  | [d] => d.seqL
  | _ => none
def tupLD : List D → Option (List D)
  | [.tup ds] => some ds
  | _ => none
section
variable {X : Cx} {W : WX} {pos : Pos} {e e2 tg : Expr} {o o2 : Opd}
theorem i_list (h : VO X W e o) : VI X W tg e (srcC seqLD [o]) := by
  refine pi_imp (pi_list h) fun σ H R h => tOpd_mono (fun x H1 h => ?_) (srcC_ok h)
  obtain ⟨av1, l, ds, dm, r, hg, k⟩ := h
  cases r with | cons r rr =>
    cases rr
    obtain ⟨a, rfl, h1, Y⟩ := yields_seqL r hg
    exact ⟨a, rfl, h1, k _ Y⟩
theorem i_tup (h : VO X W e o) : VI X W tg e (srcC tupLD [o]) := by
  refine pi_imp (pi_tup h) fun σ H R h => tOpd_mono (fun x H1 h => ?_) (srcC_ok h)
  obtain ⟨av1, l, ds, dm, r, hg, k⟩ := h
  cases r with | cons r rr =>
    cases rr
    rename_i d
    cases d <;> first | (cases hg; done) | skip
    cases hg
    obtain ⟨a, rfl, h1, Y⟩ := yields_tup r
    exact ⟨a, rfl, h1, k _ Y⟩
theorem i_range1 {p : Pos} {os : List Opd} (hg : Gl X "range") (hm : X.mg "range" = none) (h : VA X W [e] os) (hs : starEach [e] X.env = [(false, eval e X.env)] := by rfl) : VI X W tg (.Call (.Name "range" p) [e] [] pos) (srcN rangeD1 os) := by
  refine pi_imp (pi_range1 hg hm h hs) fun σ H R h => tArg_mono (fun vs H1 h => ?_) (srcN_ok h)
  obtain ⟨av1, l, ds, r, hg, k⟩ := h
  unfold rangeD1 at hg
  split at hg
  · rename_i j
    split at hg
    · rename_i hj
      cases hg
      obtain ⟨v, rfl, r1⟩ := r.one
      rw [r1.int]
      exact ⟨j, rfl, (okR_ok hj).1, (okR_ok hj).2, k _ fun av2 H2 => yields_range 0 j.toNat⟩
    · cases hg
  · cases hg
theorem i_range2 {p : Pos} {os : List Opd} (hg : Gl X "range") (hm : X.mg "range" = none) (h : VA X W [e, e2] os) (hs : starEach [e, e2] X.env = [(false, eval e X.env), (false, eval e2 X.env)] := by rfl) (hs2 : starEach [e2] X.env = [(false, eval e2 X.env)] := by rfl) :
    VI X W tg (.Call (.Name "range" p) [e, e2] [] pos) (srcN rangeD2 os) := by
  refine pi_imp (pi_range2 hg hm h hs hs2) fun σ H R h => tArg_mono (fun vs H1 h => ?_) (srcN_ok h)
  obtain ⟨av1, l, ds, r, hg, k⟩ := h
  unfold rangeD2 at hg
  split at hg
  · rename_i i j
    split at hg
    · rename_i hj
      rw [Bool.and_eq_true] at hj
      cases hg
      obtain ⟨v, w, rfl, r1, r2⟩ := r.two
      rw [r1.int, r2.int]
      exact ⟨i, j, rfl, ⟨(okR_ok hj.1).1, (okR_ok hj.1).2, (okR_ok hj.2).1, (okR_ok hj.2).2⟩, k _ fun av2 H2 => yields_range i (j - i).toNat⟩
    · cases hg
  · cases hg
end

/-- the slots of a comprehension's own names are cleared -/
def wipeE (env : Ev) : List Nat → Ev
  | [] => env
  | v :: vs => (wipeE env vs).set v .un
/-- .. and given back -/
def backE (env' env1 : Ev) : List Nat → Ev
  | [] => env'
  | v :: vs => (backE env' env1 vs).set v (env1.getD v .un)
def O.free : O → Bool
  | .un => true
  | .d _ => true
  | _ => false
def frees (vs : List Nat) (env : Ev) : Bool := vs.all fun v => (env.getD v .un).free && decide (v < env.length)
/-- behind a turn that gave o -/
def lcOn (vs : List Nat) (acc : List D) (k : Ev → List D → ER (List D × Ev)) (p : O × Ev) : ER (List D × Ev) :=
  if p.1.isUn || !decide (acc.length < 16777216) || !frees vs p.2 then .st else k (wipeE p.2 vs) (acc ++ [p.1.toD])
/-- no exception leaves a comprehension -/
def ER.calm {α β : Type} (r : ER α) (k : α → ER β) : ER β := match r with
  | .ok a => k a
  | _ => .st
@[simp] theorem ER.calm_ok {α β : Type} (a : α) (k : α → ER β) : (ER.ok a).calm k = k a := (rfl)
def lcL (vs : List Nat) (tgt : Fg) (test : Ft) (elt : Fe) : List D → Ev → List D → ER (List D × Ev)
  | [], env, acc => .ok (acc, env)
  | d :: ds, env, acc => match tgt d env with
    | none => .st
    | some env2 => (test env2).calm fun q =>
      if q.1 then (elt q.2).calm (lcOn vs acc (lcL vs tgt test elt ds)) else if frees vs q.2 then lcL vs tgt test elt ds (wipeE q.2 vs) acc else .st
def lcE (vs : List Nat) (src : Fi) (tgt : Fg) (test : Ft) (elt : Fe) : Fe := fun env => (src env).bind fun p =>
  if frees vs p.2 then (lcL vs tgt test elt p.1 (wipeE p.2 vs) []).bind fun q => .ok (.fl q.1, backE q.2 p.2 vs) else .st
def yesT : Ft := fun env => .ok (true, env)
section
variable {K : PySem.W.Frag} {mg : Str → Option Value} {W : WX} {av av1 av' : Addr → Prop} {H H1 H' : Hp} {own own1 t : List Addr} {σ : L2.St}
theorem Slots.swap {env : Ev} {i : Nat} {s' : Option V} {o' : O} (hs : Slots K av H σ env own) (hi : i < env.length) (hf : (env.getD i .un).free = true) (h : SR K av H s' o' []) : Slots K av H (σ.set i s') (env.set i o') own := by
  obtain ⟨s, A, fp, B, e, e1, e2, g⟩ := hs.focus hi
  have z := g (.grow (Grow.refl _) fun _ h => h) (fun _ _ _ e => e) h
  have efp : fp = [] := by
    cases q : env.getD i .un with
    | un => rw [q] at e2; cases e2; rfl
    | d x => rw [q] at e2; cases e2; rfl
    | fl _ => rw [q] at hf; cases hf
    | ob _ _ => rw [q] at hf; cases hf
    | ls _ => rw [q] at hf; cases hf
    | tp _ => rw [q] at hf; cases hf
  subst efp
  rw [e]
  exact z
theorem wipeE_length (env : Ev) : ∀ vs : List Nat, (wipeE env vs).length = env.length
  | [] => rfl
  | v :: vs => by unfold wipeE; rw [List.length_set, wipeE_length env vs]
theorem backE_length (env' env1 : Ev) : ∀ vs : List Nat, (backE env' env1 vs).length = env'.length
  | [] => rfl
  | v :: vs => by unfold backE; rw [List.length_set, backE_length env' env1 vs]
theorem getD_set {env : Ev} {i j : Nat} {o : O} : (env.set i o).getD j .un = if i = j ∧ j < env.length then o else env.getD j .un := by
  rw [List.getD_eq_getElem?_getD, List.getD_eq_getElem?_getD, List.getElem?_set]
  by_cases e : i = j
  · subst e
    by_cases h : i < env.length
    · simp [h]
    · simp [h]
  · simp [e]
theorem wipeE_free {env : Ev} {v : Nat} (h : (env.getD v .un).free = true) : ∀ vs : List Nat, ((wipeE env vs).getD v .un).free = true
  | [] => h
  | w :: vs => by
    unfold wipeE
    rw [getD_set]
    split
    · rfl
    · exact wipeE_free h vs
theorem backE_free {env' env1 : Ev} {v : Nat} (h : (env'.getD v .un).free = true) (h1 : (env1.getD v .un).free = true) : ∀ vs : List Nat, ((backE env' env1 vs).getD v .un).free = true
  | [] => h
  | w :: vs => by
    unfold backE
    rw [getD_set]
    split
    · rename_i e
      rw [e.1]
      exact h1
    · exact backE_free h h1 vs
theorem frees_at {vs : List Nat} {env : Ev} (h : frees vs env = true) : ∀ v, v ∈ vs → (env.getD v .un).free = true ∧ v < env.length := fun v m => by
  have := List.all_eq_true.mp h v m
  rw [Bool.and_eq_true, decide_eq_true_iff] at this
  exact this
theorem wipe_slots {env : Ev} : ∀ {vs : List Nat}, Slots K av H σ env own → (∀ v, v ∈ vs → (env.getD v .un).free = true ∧ v < env.length) → Slots K av H (wipe σ vs) (wipeE env vs) own
  | [], hs, _ => hs
  | v :: vs, hs, h => by
    have ih := wipe_slots (vs := vs) hs fun w m => h w (List.mem_cons_of_mem _ m)
    unfold wipe wipeE
    exact ih.swap (by rw [wipeE_length]; exact (h v List.mem_cons_self).2) (wipeE_free (h v List.mem_cons_self).1 vs) .un
theorem wipe_set {i : Nat} : ∀ {vs : List Nat}, i ∉ vs → (wipe σ vs).set i none = wipe (σ.set i none) vs
  | [], _ => rfl
  | v :: vs, h => by
    unfold wipe
    rw [List.set_comm _ _ (fun e => h (by rw [e]; exact List.mem_cons_self)), wipe_set (vs := vs) fun m => h (List.mem_cons_of_mem _ m)]
theorem back_slots {env' env1 : Ev} : ∀ {vs : List Nat} {σ : L2.St}, vs.Nodup → Slots K av H (wipe σ vs) env' own → (∀ v, v ∈ vs → (env'.getD v .un).free = true ∧ v < env'.length ∧ (env1.getD v .un).free = true ∧ ∃ s, σ[v]? = some s ∧ SR K av H s (env1.getD v .un) []) →
    Slots K av H σ (backE env' env1 vs) own
  | [], σ, _, hs, _ => hs
  | v :: vs, σ, nd, hs, h => by
    obtain ⟨n1, n2⟩ := List.nodup_cons.mp nd
    unfold wipe at hs
    rw [wipe_set n1] at hs
    obtain ⟨f1, f2, f3, s, e, r⟩ := h v List.mem_cons_self
    have ih := back_slots (vs := vs) (σ := σ.set v none) n2 hs fun w m => by
      obtain ⟨f1, f2, f3, s, e, r⟩ := h w (List.mem_cons_of_mem _ m)
      have ne : v ≠ w := fun z => n1 (by rw [z]; exact m)
      exact ⟨f1, f2, f3, s, by rw [List.getElem?_set_ne ne]; exact e, r⟩
    unfold backE
    have z := ih.swap (i := v) (by rw [backE_length]; exact f2) (backE_free f1 f3 vs) r
    have es : (σ.set v none).set v s = σ := by
      refine List.ext_getElem? fun j => ?_
      have lv := (List.getElem?_eq_some_iff.mp e).1
      by_cases hj : v = j
      · subst hj
        rw [List.getElem?_set_self (by simpa using lv), e]
      · rw [List.getElem?_set_ne hj, List.getElem?_set_ne hj]
    rw [es] at z
    exact z
theorem wipe_at {i : Nat} : ∀ {vs : List Nat}, i ∈ vs → i < σ.length → (wipe σ vs)[i]? = some none
  | v :: vs, m, h => by
    unfold wipe
    by_cases e : v = i
    · subst e
      rw [List.getElem?_set_self (by rw [wipe_length]; exact h)]
    · rw [List.getElem?_set_ne e]
      exact wipe_at ((List.mem_cons.mp m).resolve_left fun z => e z.symm) h
theorem wipe_pn {σ2 : L2.St} {vs pn : List Nat} {n : Nat} (p : Pn pn (wipe σ vs) σ2) (hl : σ.length = n) (hpn : ∀ i, i < n → i ∈ vs ∨ i ∈ pn) : wipe σ2 vs = wipe σ vs := by
  have l2 : σ2.length = σ.length := by rw [p.1, wipe_length]
  refine List.ext_getElem? fun i => ?_
  by_cases hi : i < n
  · by_cases m : i ∈ vs
    · rw [wipe_at m (by omega), wipe_at m (by omega)]
    · rw [wipe_out m]
      exact p.2 i ((hpn i hi).resolve_left m)
  · rw [List.getElem?_eq_none (by rw [wipe_length]; omega), List.getElem?_eq_none (by rw [wipe_length]; omega)]
end
theorem pe_impL {X : Cx} {e : Expr} {t t' : TE} (h : PE X e t) (i : ∀ σ H Q, σ.length = X.N.length → t' σ H Q → t σ H Q) : PE X e t' := ⟨fun pins s σ H Q I q => h.run pins s σ H Q I (i σ H Q I.len q)⟩
abbrev W0 : WX := fun _ _ _ _ => False
section
variable {K : PySem.W.Frag} {mg : Str → Option Value} {W : WX} {av av1 av2 av' : Addr → Prop} {H H1 H2 H' : Hp} {own own1 t : List Addr} {σ : L2.St}
theorem Keep.trans {av3 : Addr → Prop} {H3 : Hp} (a : Keep av1 av2 H1 H2) (b : Keep av2 av3 H2 H3) : Keep av1 av3 H1 H3 where
  own := fun x n h => by
    obtain ⟨o, e⟩ := Option.isSome_iff_exists.mp h
    exact b.own x (a.own x n h) (by rw [a.at_ x o n e]; rfl)
  at_ := fun x o n h => b.at_ x o (a.own x n (by rw [h]; rfl)) (a.at_ x o n h)
theorem Adv.write {p : Addr} {o : HO} (A : Adv av H own av1 H1 own1) (hp : p ∈ own1) : Adv av H own av1 (upd H1 p o) own1 where
  av_ := A.av_
  fresh := A.fresh
  ext := fun a u h n => by
    have ne : a ≠ p := fun e => by
      subst e
      rcases A.fresh a hp with z | z
      · exact n z
      · rw [h] at z; cases z
    rw [upd_ne ne]
    exact A.ext a u h n
  there := fun a h => by
    by_cases e : a = p
    · rw [e, upd_same]; rfl
    · rw [upd_ne e]
      exact A.there a h
theorem OkW.write {p : Addr} {o : HO} (w : OkW av H own) : OkW av (upd H p o) own := ⟨w.nodup, w.sub, fun a h => by
  by_cases e : a = p
  · rw [e, upd_same]; rfl
  · rw [upd_ne e]
    exact w.dom a h⟩
theorem Keep.write {p : Addr} {o : HO} (hp : av p) : Keep av av H (upd H p o) := ⟨fun _ n _ => n, fun a u n h => by
  rw [upd_ne (fun e => n (by rw [e]; exact hp))]
  exact h⟩
end
section
variable {X : Cx} {W : WX} {pos : Pos}
abbrev VTs (X : Cx) (ifs : List Expr) (f : Ft) : Prop := PTs X ifs (tTs X.K X.mg W0 f)
theorem pts_imp {X : Cx} {ifs : List Expr} {t t' : TT} (h : PTs X ifs t) (i : ∀ σ H Q, t' σ H Q → t σ H Q) : PTs X ifs t' := ⟨fun pins s σ H Q I q => h.run pins s σ H Q I (i σ H Q q)⟩
theorem ts_nil : VTs X [] yesT := pts_imp pts_nil fun σ H Q h => by
  obtain ⟨env, av, own, hs, w, h⟩ := h
  exact h H av own (Adv.refl w) w hs
theorem ts_one {c : Expr} {f : Ft} (h : VT X W0 c f) : VTs X [c] f := pts_one h
theorem lc_ok {K : PySem.W.Frag} {mg : Str → Option Value} {σ : L2.St} {H : Hp} {Q : VK} {vs pn : List Nat} {n : Nat} {src : Fi} {tgt : Fg} {test : Ft} {elt : Fe} (nd : vs.Nodup) (hl : σ.length = n) (hpn : ∀ i, i < n → i ∈ vs ∨ i ∈ pn)
    (h : tOf K mg W (lcE vs src tgt test elt) σ H Q) : tLc (tI K mg W src) (tG K pn tgt) (tTs K mg W0 test) (tOf K mg W0 elt) vs σ H Q := by
  obtain ⟨env, av, own, hs, w, h⟩ := h
  refine ⟨env, av, own, hs, w, ?_⟩
  unfold lcE at h
  cases q : src env with
  | st => rw [q] at h; exact h
  | ex c x e => rw [q] at h; exact h
  | ok p =>
    obtain ⟨ds, env1⟩ := p
    rw [q] at h
    intro J H1 av1 own1 A1 w1 hs1 Y Dd hD
    have h' : EPost K mg W av H own σ Q (if frees vs env1 then (lcL vs tgt test elt ds (wipeE env1 vs) []).bind fun q => .ok (.fl q.1, backE q.2 env1 vs) else .st) := h
    cases hf : frees vs env1 with
    | false => rw [hf, if_neg Bool.false_ne_true] at h'; exact h'.elim
    | true =>
      rw [hf, if_pos rfl] at h'
      have fr := frees_at hf
      have k1 := keep_new (o := .lst []) A1 hD
      refine ⟨fun i m H' => ∃ (env' : Ev) (av' : Addr → Prop) (own' : List Addr) (accV : List V) (acc : List D), Adv av H own av' H' (Dd :: own') ∧ OkW av' H' (Dd :: own') ∧ Keep av1 av' H1 H' ∧ H' Dd = some (.lst accV) ∧ RDs K av' H' accV acc ∧
          Slots K av' H' (wipe σ vs) env' own' ∧ (∀ v, v ∈ vs → (env'.getD v .un).free = true ∧ v < env'.length) ∧ m = ds.length - i ∧ i ≤ ds.length ∧
          EPost K mg W av H own σ Q ((lcL vs tgt test elt (ds.drop i) env' acc).bind fun q => .ok (.fl q.1, backE q.2 env1 vs)),
        ⟨ds.length, wipeE env1 vs, _, own1, [], [], A1.new hD, w1.new A1 hD, k1, upd_same, .nil, wipe_slots (Slots.keep (σ := σ) (env := env1) k1 hs1 fun a u m e => Grow.new hD a u e) fr, fun v m => ⟨wipeE_free (fr v m).1 vs, by rw [wipeE_length]; exact (fr v m).2⟩, rfl, Nat.zero_le _, h'⟩, ?_⟩
      rintro i m H' ⟨env', av', own', accV, acc, A', w', k', eD, rA, s', f', rfl, hi, hq⟩
      by_cases hlt : i < ds.length
      · right
        refine ⟨Y.go av' H' k' i hlt, fun H2 => ∃ (env' : Ev) (av' : Addr → Prop) (own' : List Addr) (accV : List V) (acc : List D), Adv av H own av' H2 (Dd :: own') ∧ OkW av' H2 (Dd :: own') ∧ Keep av1 av' H1 H2 ∧ H2 Dd = some (.lst accV) ∧ RDs K av' H2 accV acc ∧
            Slots K av' H2 (wipe σ vs) env' own' ∧ (∀ v, v ∈ vs → (env'.getD v .un).free = true ∧ v < env'.length) ∧ EPost K mg W av H own σ Q ((lcL vs tgt test elt (ds.drop (i + 1)) env' acc).bind fun q => .ok (.fl q.1, backE q.2 env1 vs)),
          fun H2 ⟨a1, a2, a3, a4, a5, a6, a7, a8, a9, b1, b2, b3, b4⟩ => ⟨ds.length - (i + 1), by omega, a1, a2, a3, a4, a5, a6, a7, a8, a9, b1, b2, b3, rfl, hlt, b4⟩, fun x H'' y => ?_⟩
        obtain ⟨gr, rd⟩ := Y.yld av' H' k' w'.dom i x H'' ds[i] (List.getElem?_eq_getElem hlt) y
        have A2 := A'.grow gr
        have w2 := w'.grow gr
        have k2 : Keep av1 av' H1 H'' := k'.trans (.grow gr fun _ z => z)
        have s2 := s'.grow (σ := wipe σ vs) (env := env') gr (fun _ z => z)
        have eD2 := gr _ _ eD
        have rA2 : RDs K av' H'' accV acc := rA.keep (.grow gr fun _ z => z)
        have w2t : OkW av' H'' own' := OkW.tail (t := [Dd]) w2
        rw [List.drop_eq_getElem_cons hlt] at hq
        unfold lcL at hq
        refine ⟨env', av', own', ds[i], s2, w2t, rd, ?_⟩
        cases qt : tgt ds[i] env' with
        | none => rw [qt] at hq; exact hq.elim
        | some env2 =>
          rw [qt] at hq
          have hq : EPost K mg W av H own σ Q (((test env2).calm fun q =>
            if q.1 then (elt q.2).calm (lcOn vs acc (lcL vs tgt test elt (ds.drop (i + 1)))) else if frees vs q.2 then lcL vs tgt test elt (ds.drop (i + 1)) (wipeE q.2 vs) acc else .st).bind fun q => .ok (.fl q.1, backE q.2 env1 vs)) := hq
          intro σ3 av3 own3 p3 A3 w3 s3
          have hwp := wipe_pn p3 hl hpn
          refine ⟨hwp, env2, av3, own3, s3, w3, ?_⟩
          have B3 := Adv.trans (t := [Dd]) (u := []) w w2 A2 A3
          have v3 := OkW.trans (t := [Dd]) (u := []) w2 A3 w3
          have k3 := k2.trans (A3.keep w2t)
          have eD3 : H'' Dd = some (.lst accV) := A3.ext _ _ eD2 (w2.apart (t := [Dd]) Dd (by simp))
          have rA3 := rA2.keep (A3.keep w2t)
          cases qe : test env2 with
          | st => rw [qe] at hq; exact hq
          | ex c x e => rw [qe] at hq; exact hq.elim
          | ok r =>
            obtain ⟨b, env3⟩ := r
            rw [qe] at hq
            intro H4 av4 own4 A4 w4 s4
            have B4 := Adv.trans (t := [Dd] ++ []) (u := []) w v3 B3 A4
            have v4 := OkW.trans (t := [Dd] ++ []) (u := []) v3 A4 w4
            have k4 := k3.trans (A4.keep w3)
            have eD4 : H4 Dd = some (.lst accV) := A4.ext _ _ eD3 (v3.apart (t := [Dd] ++ []) Dd (by simp))
            have rA4 := rA3.keep (A4.keep w3)
            cases b with
            | false =>
              have hq : EPost K mg W av H own σ Q ((if frees vs env3 then lcL vs tgt test elt (ds.drop (i + 1)) (wipeE env3 vs) acc else .st).bind fun q => .ok (.fl q.1, backE q.2 env1 vs)) := hq
              cases ff : frees vs env3 with
              | false => rw [ff, if_neg Bool.false_ne_true] at hq; exact hq.elim
              | true =>
                rw [ff, if_pos rfl] at hq
                have fr4 := frees_at ff
                have s5 := wipe_slots s4 fr4
                rw [hwp] at s5
                exact ⟨wipeE env3 vs, av4, own4, accV, acc, B4, v4, k4, eD4, rA4, s5, fun v m => ⟨wipeE_free (fr4 v m).1 vs, by rw [wipeE_length]; exact (fr4 v m).2⟩, hq⟩
            | true =>
              have hq : EPost K mg W av H own σ Q (((elt env3).calm (lcOn vs acc (lcL vs tgt test elt (ds.drop (i + 1))))).bind fun q => .ok (.fl q.1, backE q.2 env1 vs)) := hq
              refine ⟨env3, av4, own4, s4, w4, ?_⟩
              cases qo : elt env3 with
              | st => rw [qo] at hq; exact hq
              | ex c x e => rw [qo] at hq; exact hq.elim
              | ok r =>
                obtain ⟨o, env4⟩ := r
                rw [qo] at hq
                have hq : EPost K mg W av H own σ Q ((if o.isUn || !decide (acc.length < 16777216) || !frees vs env4 then .st else lcL vs tgt test elt (ds.drop (i + 1)) (wipeE env4 vs) (acc ++ [o.toD])).bind fun q => .ok (.fl q.1, backE q.2 env1 vs)) := hq
                intro v5 H5 av5 fp own5 A5 w5 r5 s5
                have B5 := Adv.trans (t := [Dd] ++ [] ++ []) (u := fp) w v4 B4 A5
                have v5w := OkW.trans (t := [Dd] ++ [] ++ []) (u := fp) v4 A5 w5
                have k5 := k4.trans (A5.keep w4)
                have eD5 : H5 Dd = some (.lst accV) := A5.ext _ _ eD4 (v4.apart (t := [Dd] ++ [] ++ []) Dd (by simp))
                have rA5 := rA4.keep (A5.keep w4)
                cases hc : (o.isUn || !decide (acc.length < 16777216) || !frees vs env4) with
                | true => rw [hc, if_pos rfl] at hq; exact hq.elim
                | false =>
                  rw [hc, if_neg Bool.false_ne_true] at hq
                  simp only [Bool.or_eq_false_iff, Bool.not_eq_false', decide_eq_true_eq] at hc
                  obtain ⟨⟨hu, hz⟩, ff⟩ := hc
                  refine ⟨accV, eD5, by rw [rA5.length, line_eq]; exact hz, ?_⟩
                  -- fp is given up, what is at Dd grows
                  have B5' : Adv av H own av5 H5 (([Dd] ++ fp) ++ own5) := B5
                  have v5w' : OkW av5 H5 (([Dd] ++ fp) ++ own5) := v5w
                  have sub6 : ∀ a, drp av own (Dd :: own5) a → av5 a := fun a z => (B5'.av_ a).mpr (z.elim .inl fun z => .inr (by
                    rcases List.mem_cons.mp z with z | z <;> simp [z]))
                  have A6 : Adv av H own (drp av own (Dd :: own5)) H5 (Dd :: own5) := ⟨fun _ => Iff.rfl, fun a m => B5'.fresh a (by
                    rcases List.mem_cons.mp m with z | z <;> simp [z]), B5'.ext, B5'.there⟩
                  have nd6 : (Dd :: own5).Nodup := by
                    have := v5w'.nodup
                    simp only [List.cons_append, List.nil_append, List.nodup_cons, List.nodup_append, List.mem_append, not_or] at this ⊢
                    exact ⟨this.1.2, this.2.2.1⟩
                  have w6 : OkW (drp av own (Dd :: own5)) H5 (Dd :: own5) := ⟨nd6, fun a m => .inr m, fun a m => v5w'.dom a (sub6 a m)⟩
                  have kk : Keep av5 (drp av own (Dd :: own5)) H5 H5 := .grow (Grow.refl _) sub6
                  have rd6 : RD K (drp av own (Dd :: own5)) H5 v5 o.toD := r5.frozen hu sub6 fun a m z => by
                    rcases z with z | z
                    · rcases B5'.fresh a (by simp [m]) with q | q
                      · exact z.2 q
                      · have := w.dom a z.1
                        rw [q] at this; cases this
                    · rcases List.mem_cons.mp z with z | z
                      · have := v5w'.nodup
                        simp only [List.cons_append, List.nil_append, List.nodup_cons, List.mem_append, not_or] at this
                        exact this.1.1 (by rw [← z]; exact m)
                      · exact w5.apart a m z
                  have kw : Keep (drp av own (Dd :: own5)) (drp av own (Dd :: own5)) H5 (upd H5 Dd (.lst (accV ++ [v5]))) := Keep.write (.inr List.mem_cons_self)
                  have fr5 := frees_at ff
                  have s6 := wipe_slots s5 fr5
                  rw [hwp] at s6
                  refine ⟨wipeE env4 vs, _, own5, accV ++ [v5], acc ++ [o.toD], A6.write List.mem_cons_self, w6.write, (k5.trans kk).trans kw, upd_same, ((rA5.keep kk).append (.cons rd6 .nil)).keep kw, ?_,
                    fun v m => ⟨wipeE_free (fr5 v m).1 vs, by rw [wipeE_length]; exact (fr5 v m).2⟩, hq⟩
                  refine Slots.keep (σ := wipe σ vs) (env := wipeE env4 vs) kw (Slots.keep (σ := wipe σ vs) (env := wipeE env4 vs) kk s6 fun _ _ _ e => e) fun a u m e => ?_
                  rw [upd_ne (fun z => (List.nodup_cons.mp nd6).1 (by rw [← z]; exact m))]
                  exact e
      · left
        have e : i = ds.length := by omega
        subst e
        refine ⟨Y.stop av' H' k', ?_⟩
        rw [List.drop_length] at hq
        refine hq (.ref Dd) H' av' [Dd] own' A' w' (.fl eD rA) (back_slots nd s' fun v m => ?_)
        obtain ⟨s, fp, e1, e2, _⟩ : ∃ s fp, σ[v]? = some s ∧ SR K av1 H1 s (env1.getD v .un) fp ∧ True := by
          have lv := (fr v m).2
          obtain ⟨s, fp, e1, e2, _⟩ := hs1.get (i := v) (o := env1.getD v .un) (by
            rw [List.getD_eq_getElem?_getD, List.getElem?_eq_getElem lv]
            rfl)
          exact ⟨s, fp, e1, e2, trivial⟩
        have e3 : SR K av' H' s (env1.getD v .un) [] := by
          have hf1 := (fr v m).1
          cases q : env1.getD v .un with
          | un => exact .un
          | d x =>
            rw [q] at e2
            cases e2 with | d r => exact .d (r.keep k')
          | fl _ => rw [q] at hf1; cases hf1
          | ob _ _ => rw [q] at hf1; cases hf1
          | ls _ => rw [q] at hf1; cases hf1
          | tp _ => rw [q] at hf1; cases hf1
        exact ⟨(f' v m).1, (f' v m).2, (fr v m).1, s, e1, e3⟩
theorem v_lc {elt tg iter : Expr} {ifs : List Expr} {scope : Scope} {own : List (Str × Nat)} {pn vs : List Nat} {src : Fi} {tgt : Fg} {test : Ft} {fe : Fe} (hc : X.calm = true) (hN : X.N.Nodup) (hi : VI X W tg iter src) (ok : BlkOk X.N X.env.scope scope own)
    (hg : ∀ (s : Shared) (H : Hp) (C : Addr) (cl : List (Str × Addr)) (fp : List Addr), VG (X.blk s H scope (compEnvC scope cl C X.env) fp) pn tg tgt) (ht : ∀ (s : Shared) (H : Hp) (C : Addr) (cl : List (Str × Addr)) (fp : List Addr), VTs (X.blk s H scope (compEnvC scope cl C X.env) fp) ifs test)
    (he : ∀ (s : Shared) (H : Hp) (C : Addr) (cl : List (Str × Addr)) (fp : List Addr), VE (X.blk s H scope (compEnvC scope cl C X.env) fp) W0 elt fe) (hv : own.map (·.2) = vs) (nd : vs.Nodup) (hpn : (List.range X.N.length).all (fun i => vs.contains i || pn.contains i) = true) (hs : ∀ x, foldedSetIterable iter X.env x = pure x := by intro _; rfl) :
    VE X W (.ListComp elt [⟨tg, iter, ifs, 0⟩] scope pos) (lcE vs src tgt test fe) := by
  subst hv
  refine pe_impL (pe_lc hc hN hi ok hg ht he hs) fun σ H Q hl h => lc_ok nd hl (fun i hi => ?_) h
  have := List.all_eq_true.mp hpn i (List.mem_range.mpr hi)
  rw [Bool.or_eq_true, List.contains_iff_mem, List.contains_iff_mem] at this
  exact this
theorem s_setLc {i : Nat} {y : Str} {py : Pos} {elt tg iter : Expr} {ifs : List Expr} {scope : Scope} {own : List (Str × Nat)} {spos : Pos} {pn pm vs : List Nat} {src : Fi} {tgt : Fg} {test : Ft} {fe : Fe} (hc : X.calm = true) (hN : X.N.Nodup) (hy : X.N[i]? = some y) (hyl : X.env.scope.names.lookup y = some .local) (hp : pm.contains i = false)
    (hsw : swapsWith (.ListComp elt [⟨tg, iter, ifs, 0⟩] scope pos) (some (.Name y py)) spos.line X.env = pure true) (hi : VI X W tg iter src) (ok : BlkOk X.N X.env.scope scope own)
    (hg : ∀ (s : Shared) (H : Hp) (C : Addr) (cl : List (Str × Addr)) (fp : List Addr), VG (X.blk s H scope (compEnvC scope cl C X.env) fp) pn tg tgt) (ht : ∀ (s : Shared) (H : Hp) (C : Addr) (cl : List (Str × Addr)) (fp : List Addr), VTs (X.blk s H scope (compEnvC scope cl C X.env) fp) ifs test)
    (he : ∀ (s : Shared) (H : Hp) (C : Addr) (cl : List (Str × Addr)) (fp : List Addr), VE (X.blk s H scope (compEnvC scope cl C X.env) fp) W0 elt fe) (hv : own.map (·.2) = vs) (nd : vs.Nodup) (hpn : (List.range X.N.length).all (fun i => vs.contains i || pn.contains i) = true) (hs : ∀ x, foldedSetIterable iter X.env x = pure x := by intro _; rfl) :
    VS X W pm (.Assign [.Name y py] (.ListComp elt [⟨tg, iter, ifs, 0⟩] scope pos) spos) (asgS i (lcE vs src tgt test fe)) := by
  subst hv
  have base := ps_setLc (wi := tI X.K X.mg W src) (g := tG X.K pn tgt) (tt := tTs X.K X.mg W0 test) (te := tOf X.K X.mg W0 fe) hc hN hy hyl hsw hi ok hg ht he hs
  refine ⟨fun pins s σ H G I h => base.run pins s σ H G I ?_⟩
  show tLc (tI X.K X.mg W src) (tG X.K pn tgt) (tTs X.K X.mg W0 test) (tOf X.K X.mg W0 fe) (own.map (·.2)) σ H fun x H1 => G.nx (σ.set i (some x)) H1
  refine lc_ok nd I.len (fun i hi => ?_) ?_
  · have := List.all_eq_true.mp hpn i (List.mem_range.mpr hi)
    rw [Bool.or_eq_true, List.contains_iff_mem, List.contains_iff_mem] at this
    exact this
  · obtain ⟨env, av, own', hs, w, h⟩ := h
    refine ⟨env, av, own', hs, w, ?_⟩
    unfold asgS at h
    cases q : lcE (own.map (·.2)) src tgt test fe env with
    | st => rw [q] at h; exact h
    | ex c x e => rw [q] at h; exact SPost.exc h
    | ok p =>
      obtain ⟨o, env1⟩ := p
      rw [q] at h
      intro v H1 av1 fp own1 A w1 hr hs1
      have h' : SPost X.K X.mg W pm av H own' σ G (if i < env1.length then .nx (env1.set i o) else .st) := h
      by_cases hl : i < env1.length
      · rw [if_pos hl] at h'
        obtain ⟨av2, own2, A2, w2, s2⟩ := hs1.put A w1 hl hr
        exact h' _ H1 av2 own2 (Pn.set hp) A2 w2 s2
      · rw [if_neg hl] at h'
        exact h'.elim
end
end VL

set_option Elab.async false
set_option linter.all false
set_option maxRecDepth 100000
namespace VL
open PySem PySem.Spec PyProof.Rows L2

section
variable {K : PySem.W.Frag} {mg : Str → Option Value} {W : WX} {av av1 av' : Addr → Prop} {H H1 H' : Hp} {own own1 t : List Addr} {σ : L2.St}
/-- slot i holds a list of its own: where it lies, and what comes of writing there -/
theorem slot_write {env : Ev} {i : Nat} {ds : List D} (A : Adv av H own av1 H1 (t ++ own1)) (w1 : OkW av1 H1 (t ++ own1)) (hs1 : Slots K av1 H1 σ env own1) (e : env.getD i .un = .fl ds) :
    ∃ a vs, σ[i]? = some (some (.ref a)) ∧ H1 a = some (.lst vs) ∧ RDs K (drp av own own1) H1 vs ds ∧ ∀ vs' ds', RDs K (drp av own own1) H1 vs' ds' →
      Adv av H own (drp av own own1) (upd H1 a (.lst vs')) own1 ∧ OkW (drp av own own1) (upd H1 a (.lst vs')) own1 ∧ Slots K (drp av own own1) (upd H1 a (.lst vs')) σ (env.set i (.fl ds')) own1 := by
  have A2 := Adv.drop A
  have w2 := OkW.drop A w1
  have s2 := hs1.grow (σ := σ) (env := env) (Grow.refl _) (drp_sub A)
  have hl : i < env.length := by
    rw [List.getD_eq_getElem?_getD] at e
    cases q : env[i]? with
    | none => rw [q] at e; cases e
    | some o => exact (List.getElem?_eq_some_iff.mp q).1
  obtain ⟨s, P, fp, B, eo, e1, e2, g⟩ := s2.focus hl
  rw [e] at e2
  cases e2 with | fl h r =>
    rename_i a vs
    have hp : a ∈ own1 := by rw [eo]; simp
    refine ⟨a, vs, e1, h, r, fun vs' ds' r' => ⟨A2.write hp, w2.write, ?_⟩⟩
    have kw : Keep (drp av own own1) (drp av own own1) H1 (upd H1 a (.lst vs')) := Keep.write (w2.sub a hp)
    have z := g (s' := some (.ref a)) (o' := .fl ds') (fp' := [a]) kw (fun b u m q => by
      rw [upd_ne (fun z => ?_)]
      · exact q
      · subst z
        have nd := w2.nodup
        rw [eo] at nd
        simp only [List.nodup_append, List.mem_append, List.mem_singleton] at nd m
        rcases m with m | m
        · exact nd.2.2 b m b (.inl rfl) rfl
        · exact nd.2.1.2.2 b rfl b m rfl) (.fl upd_same (r'.keep kw))
    have eσ : σ.set i (some (.ref a)) = σ := by
      refine List.ext_getElem? fun j => ?_
      by_cases hj : i = j
      · subst hj
        rw [List.getElem?_set_self (List.getElem?_eq_some_iff.mp e1).1, e1]
      · rw [List.getElem?_set_ne hj]
    rw [eσ, ← eo] at z
    exact z
end
/-- a list of one's own -/
def O.flO : O → Option (List D)
  | .fl ds => some ds
  | _ => none
theorem O.flO_eq {o : O} {ds : List D} (h : o.flO = some ds) : o = .fl ds := by
  cases o <;> simp only [O.flO, Option.some.injEq, reduceCtorEq] at h
  rw [h]
/-- x.m(as), x the list of slot i: g makes the new items and the answer of the old ones and of the operands -/
def mutE (i : Nat) (g : List D → List D → Option (D × List D)) (as : List Opd) : Fe := fun env =>
  if (env.getD i .un).flO.isSome then (evA as env).bind fun p =>
    if p.1.all (Arg.data p.2) then (match (p.2.getD i .un).flO with
      | some ds => (match g ds (p.1.map (Arg.look p.2)) with
        | some (r, ds') => .ok (.d r, p.2.set i (.fl ds'))
        | none => .st)
      | none => .st) else .st
  else .st
def mutR {α : Type} (r : Option (D × List D)) (env : Ev) (i : Nat) (k : O × Ev → ER α) : ER α := match r with
  | some (r, ds') => k (.d r, env.set i (.fl ds'))
  | none => .st
def appD (ds : List D) : List D → Option (D × List D)
  | [d] => if ds.length < 16777216 then some (.non, ds ++ [d]) else none
  | _ => none
def extD (ds : List D) : List D → Option (D × List D)
  | [.lst es] => if ds.length + es.length ≤ 16777216 then some (.non, ds ++ es) else none
  | _ => none
def popD (ds : List D) : List D → Option (D × List D)
  | [] => match ds[ds.length - 1]? with
    | some d => some (d, ds.dropLast)
    | none => none
  | _ => none
def popAtD (ds : List D) : List D → Option (D × List D)
  | [.int i] => if okR i then (match ixN ds.length i with
    | some k => (match ds[k]? with
      | some d => some (d, ds.eraseIdx k)
      | none => none)
    | none => none) else none
  | _ => none
/-- what a method that changes its list is to reach -/
def RM (K : PySem.W.Frag) (g : List D → List D → Option (D × List D)) : V → List V → Hp → VK → Prop := fun x vs H Q => ∃ (av : Addr → Prop) (a : Addr) (ws : List V) (ds es ds' : List D) (r : D), x = .ref a ∧ av a ∧ H a = some (.lst ws) ∧ RDs K av H ws ds ∧ RDs K av H vs es ∧ g ds es = some (r, ds') ∧
  ∀ v ws', RD K av H v r → RDs K av H ws' ds' → Q v (upd H a (.lst ws'))
section
variable {K : PySem.W.Frag} {mg : Str → Option Value} {W : WX} {σ : L2.St} {H : Hp}
theorem mutE_ok {i : Nat} {g : List D → List D → Option (D × List D)} {as : List Opd} {Q : VK} (h : tOf K mg W (mutE i g as) σ H Q) :
    ∃ a ws, σ[i]? = some (some (.ref a)) ∧ H a = some (.lst ws) ∧ tArg K mg W as σ H fun vs H1 => RM K g (.ref a) vs H1 Q := by
  obtain ⟨env, av, own, hs, w, h⟩ := h
  unfold mutE at h
  cases ho : (env.getD i .un).flO with
  | none => rw [ho] at h; exact h.elim
  | some ds0 =>
    rw [ho] at h
    have h : EPost K mg W av H own σ Q ((evA as env).bind fun p =>
      if p.1.all (Arg.data p.2) then (match (p.2.getD i .un).flO with
        | some ds => mutR (g ds (p.1.map (Arg.look p.2))) p.2 i .ok
        | none => .st) else .st) := h
    obtain ⟨a, ws, e1, e2, _⟩ := slot_write (t := []) (Adv.refl w) w hs (O.flO_eq ho)
    refine ⟨a, ws, e1, e2, args_ok as hs w ?_⟩
    cases q : evA as env with
    | st => rw [q] at h; exact h
    | ex c x e => rw [q] at h; exact h
    | ok p =>
      obtain ⟨l, env'⟩ := p
      rw [q] at h
      intro vs H1 av1 t own1 A w1 ha hs1
      have h' : EPost K mg W av H own σ Q (if l.all (Arg.data env') then (match (env'.getD i .un).flO with
        | some ds => mutR (g ds (l.map (Arg.look env'))) env' i .ok
        | none => .st) else .st) := h
      cases hg : l.all (Arg.data env') with
      | false => rw [hg, if_neg Bool.false_ne_true] at h'; exact h'.elim
      | true =>
        rw [hg, if_pos rfl] at h'
        cases ho1 : (env'.getD i .un).flO with
        | none => rw [ho1] at h'; exact h'.elim
        | some ds =>
          rw [ho1] at h'
          have h' : EPost K mg W av H own σ Q (mutR (g ds (l.map (Arg.look env'))) env' i .ok) := h'
          obtain ⟨b, ws1, f1, f2, f3, f4⟩ := slot_write A w1 hs1 (O.flO_eq ho1)
          rw [e1] at f1
          cases f1
          have fz : RDs K (drp av own own1) H1 vs (l.map (Arg.look env')) := ha.frozen hs1 (drp_sub A) (fun a m z => by
            rcases z with z | z
            · rcases A.fresh a (List.mem_append_left _ m) with q | q
              · exact z.2 q
              · have := w.dom a z.1
                rw [q] at this; cases this
            · exact w1.apart a m z) hg
          cases hr : g ds (l.map (Arg.look env')) with
          | none => rw [hr] at h'; exact h'.elim
          | some r =>
            obtain ⟨r, ds'⟩ := r
            rw [hr] at h'
            have avb : drp av own own1 a := by
              obtain ⟨a1, a2, a3⟩ := f4 ws1 ds f3
              by_cases z : drp av own own1 a
              · exact z
              · exfalso
                have hl : i < env'.length := by
                  have e := O.flO_eq ho1
                  rw [List.getD_eq_getElem?_getD] at e
                  cases q : env'[i]? with
                  | none => rw [q] at e; cases e
                  | some o => exact (List.getElem?_eq_some_iff.mp q).1
                obtain ⟨s, P, fp, B, eo, g1, g2, _⟩ := hs1.focus hl
                rw [O.flO_eq ho1] at g2
                cases g2 with | fl h r =>
                  rw [e1] at g1
                  cases g1
                  exact z (.inr (by rw [eo]; simp))
            refine ⟨_, a, ws1, ds, _, ds', r, rfl, avb, f2, f3, fz, hr, fun v ws' rv rw' => ?_⟩
            obtain ⟨a1, a2, a3⟩ := f4 ws' ds' rw'
            exact h' v _ _ [] own1 a1 a2 (.d (rv.keep (Keep.write avb))) a3
end
section
variable {X : Cx} {W : WX} {pos apos p2 : Pos} {e : Expr} {es : List Expr} {os : List Opd} {o : Opd} {i : Nat} {x name : Str} {id : String}
theorem v_mut {r : V → List V → Hp → VK → Prop} {g : List D → List D → Option (D × List D)} (slot : Slot "list" name id) (hty : typeOf (.builtin id) = pure (.type "method_descriptor")) (hm : MtR X id r)
    (hr : ∀ x vs H Q, Sane H → RM X.K g x vs H Q → r x vs H Q) (hx : PE X (.Name x p2) (tVar i)) (ha : VA X W (e :: es) os)
    (hbase : attributeBase (.Name x p2) name X.env (eval (.Name x p2) X.env) = eval (.Name x p2) X.env := by rfl)
    (hfew : ((backTo pos (starEach (e :: es) X.env)).all (fun x => !x.1) && (backToKw pos (keywordEach [] X.env)).all (fun x => x.1.isSome)
      && decide ((e :: es).length + ([] : List Keyword).length + (if ([] : List Keyword).isEmpty then 0 else 1) < 30)) = true := by rfl)
    (hline : (apos.endLine == pos.line) = true := by rfl) (hs : starEach (e :: es) X.env = (false, eval e X.env) :: starEach es X.env := by rfl) (hplain : (backTo pos (starEach es X.env)).any (·.1) = false := by rfl) :
    VE X W (.Call (.Attribute (.Name x p2) name apos) (e :: es) [] pos) (mutE i g os) := by
  refine pe_imp (pe_bm PySem.F.plainAttrs_list slot hty (mtR_sane hm hr) hx ha hbase hfew hline hs hplain) fun σ H Q h => ?_
  obtain ⟨a, ws, e1, e2, h⟩ := mutE_ok h
  exact ⟨.ref a, e1, .inl ⟨rfl, _, SqL.of e2⟩, h⟩
theorem v_mut0 {r : V → List V → Hp → VK → Prop} {g : List D → List D → Option (D × List D)} (slot : Slot "list" name id) (hty : typeOf (.builtin id) = pure (.type "method_descriptor")) (hm : MtR X id r)
    (hr : ∀ x vs H Q, Sane H → RM X.K g x vs H Q → r x vs H Q) (hx : PE X (.Name x p2) (tVar i))
    (hbase : attributeBase (.Name x p2) name X.env (eval (.Name x p2) X.env) = eval (.Name x p2) X.env := by rfl) (hline : (apos.endLine == pos.line) = true := by rfl) :
    VE X W (.Call (.Attribute (.Name x p2) name apos) [] [] pos) (mutE i g []) := by
  refine pe_imp (pe_bm0 PySem.F.plainAttrs_list slot hty (mtR_sane hm hr) hx hbase hline) fun σ H Q h => ?_
  obtain ⟨a, ws, e1, e2, h⟩ := mutE_ok h
  exact ⟨.ref a, e1, .inl ⟨rfl, _, SqL.of e2⟩, h⟩
theorem rm_app : ∀ x vs H Q, Sane H → RM X.K appD x vs H Q → rAppend x vs H Q := fun x vs H Q sn h => by
  obtain ⟨av, a, ws, ds, es, ds', r, rfl, ha, e, rw_, rv, hg, k⟩ := h
  unfold appD at hg
  split at hg
  · split at hg
    · rename_i d hz
      cases hg
      cases rv with | cons q rr =>
        cases rr
        exact ⟨a, ws, _, rfl, rfl, e, by rw [rw_.length, line_eq]; exact hz, k _ _ .non (rw_.append (.cons q .nil))⟩
    · cases hg
  · cases hg
theorem rm_ext : ∀ x vs H Q, Sane H → RM X.K extD x vs H Q → rExtend x vs H Q := fun x vs H Q sn h => by
  obtain ⟨av, a, ws, ds, es, ds', r, rfl, ha, e, rw_, rv, hg, k⟩ := h
  unfold extD at hg
  split at hg
  · split at hg
    · rename_i d hz
      cases hg
      cases rv with | cons q rr =>
        cases rr
        obtain ⟨b, zs, rfl, e2, r2⟩ := (RV.d q).lst
        exact ⟨a, b, ws, zs, rfl, rfl, e, e2, by rw [rw_.length, r2.length, line_eq]; exact hz, k _ _ .non (rw_.append r2)⟩
    · cases hg
  · cases hg
theorem rm_pop : ∀ x vs H Q, Sane H → RM X.K popD x vs H Q → rPop x vs H Q := fun x vs H Q sn h => by
  obtain ⟨av, a, ws, ds, es, ds', r, rfl, ha, e, rw_, rv, hg, k⟩ := h
  unfold popD at hg
  split at hg
  · split at hg
    · rename_i d hz
      cases hg
      cases rv
      obtain ⟨v, e3, q⟩ := rw_.getD hz
      exact ⟨a, ws, v, rfl, rfl, e, by rw [rw_.length]; exact e3, k _ _ q rw_.dropLast⟩
    · cases hg
  · cases hg
theorem rm_popAt : ∀ x vs H Q, Sane H → RM X.K popAtD x vs H Q → rPopAt x vs H Q := fun x vs H Q sn h => by
  obtain ⟨av, a, ws, ds, es, ds', r, rfl, ha, e, rw_, rv, hg, k⟩ := h
  unfold popAtD at hg
  split at hg
  · split at hg
    · rename_i i hi
      split at hg
      · rename_i j hj
        split at hg
        · rename_i d hd
          cases hg
          cases rv with | cons q rr =>
            cases rr
            rw [(RV.d q).int]
            obtain ⟨v, e3, q3⟩ := rw_.getD hd
            obtain ⟨o1, o2⟩ := okR_ok hi
            exact ⟨a, ws, i, j, v, rfl, rfl, e, by omega, by omega, by rw [rw_.length]; exact (ixN_seq hj).1, e3, k _ _ q3 (rw_.eraseIdx j)⟩
        · cases hg
      · cases hg
    · cases hg
  · cases hg
theorem v_append (hx : PE X (.Name x p2) (tVar i)) (ha : VA X W (e :: es) os)
    (hbase : attributeBase (.Name x p2) "append" X.env (eval (.Name x p2) X.env) = eval (.Name x p2) X.env := by rfl)
    (hfew : ((backTo pos (starEach (e :: es) X.env)).all (fun x => !x.1) && (backToKw pos (keywordEach [] X.env)).all (fun x => x.1.isSome)
      && decide ((e :: es).length + ([] : List Keyword).length + (if ([] : List Keyword).isEmpty then 0 else 1) < 30)) = true := by rfl)
    (hline : (apos.endLine == pos.line) = true := by rfl) (hs : starEach (e :: es) X.env = (false, eval e X.env) :: starEach es X.env := by rfl) (hplain : (backTo pos (starEach es X.env)).any (·.1) = false := by rfl) :
    VE X W (.Call (.Attribute (.Name x p2) "append" apos) (e :: es) [] pos) (mutE i appD os) := v_mut PySem.F.slot_list_append PySem.F.type_list_append mt_append rm_app hx ha hbase hfew hline hs hplain
theorem v_extend (hx : PE X (.Name x p2) (tVar i)) (ha : VA X W (e :: es) os)
    (hbase : attributeBase (.Name x p2) "extend" X.env (eval (.Name x p2) X.env) = eval (.Name x p2) X.env := by rfl)
    (hfew : ((backTo pos (starEach (e :: es) X.env)).all (fun x => !x.1) && (backToKw pos (keywordEach [] X.env)).all (fun x => x.1.isSome)
      && decide ((e :: es).length + ([] : List Keyword).length + (if ([] : List Keyword).isEmpty then 0 else 1) < 30)) = true := by rfl)
    (hline : (apos.endLine == pos.line) = true := by rfl) (hs : starEach (e :: es) X.env = (false, eval e X.env) :: starEach es X.env := by rfl) (hplain : (backTo pos (starEach es X.env)).any (·.1) = false := by rfl) :
    VE X W (.Call (.Attribute (.Name x p2) "extend" apos) (e :: es) [] pos) (mutE i extD os) := v_mut PySem.F.slot_list_extend PySem.F.type_list_extend mt_extend rm_ext hx ha hbase hfew hline hs hplain
theorem v_popAt (hx : PE X (.Name x p2) (tVar i)) (ha : VA X W (e :: es) os)
    (hbase : attributeBase (.Name x p2) "pop" X.env (eval (.Name x p2) X.env) = eval (.Name x p2) X.env := by rfl)
    (hfew : ((backTo pos (starEach (e :: es) X.env)).all (fun x => !x.1) && (backToKw pos (keywordEach [] X.env)).all (fun x => x.1.isSome)
      && decide ((e :: es).length + ([] : List Keyword).length + (if ([] : List Keyword).isEmpty then 0 else 1) < 30)) = true := by rfl)
    (hline : (apos.endLine == pos.line) = true := by rfl) (hs : starEach (e :: es) X.env = (false, eval e X.env) :: starEach es X.env := by rfl) (hplain : (backTo pos (starEach es X.env)).any (·.1) = false := by rfl) :
    VE X W (.Call (.Attribute (.Name x p2) "pop" apos) (e :: es) [] pos) (mutE i popAtD os) := v_mut PySem.F.slot_list_pop PySem.F.type_list_pop mt_popAt rm_popAt hx ha hbase hfew hline hs hplain
theorem v_pop (hx : PE X (.Name x p2) (tVar i)) (hbase : attributeBase (.Name x p2) "pop" X.env (eval (.Name x p2) X.env) = eval (.Name x p2) X.env := by rfl) (hline : (apos.endLine == pos.line) = true := by rfl) :
    VE X W (.Call (.Attribute (.Name x p2) "pop" apos) [] [] pos) (mutE i popD []) := v_mut0 PySem.F.slot_list_pop PySem.F.type_list_pop mt_pop rm_pop hx hbase hline
end

/-- the value first, then the index -/
def setI (i : Nat) (ev ek : Fe) : Fs := fun env => (ev env).then fun p => if p.1.isUn then .st else if (p.2.getD i .un).flO.isSome then
    (ek p.2).then fun q => setR (q.2.getD i .un).flO q.1 p.1.toD i q.2 else .st
where setR (l : Option (List D)) (k : O) (d : D) (i : Nat) (env : Ev) : SRes := match l, k with
  | some ds, .d (.int j) => nxO ((ixN ds.length j).map fun n => env.set i (.fl (ds.set n d)))
  | _, _ => .st
section
variable {X : Cx} {W : WX} {pn : List Nat} {pos p2 p3 : Pos} {ek e : Expr} {fe fk : Fe} {i : Nat} {x : Str}
theorem s_setI (he : VE X W e fe) (hx : PE X (.Name x p2) (tVar i)) (hk : VE X W ek fk)
    (hs : swapsWithSole [.Subscript (.Name x p2) ek p3] e pos.line X.env = pure false := by rfl) (hw : swappedStores [.Subscript (.Name x p2) ek p3] e X.env = pure none := by rfl)
    (h1 : (assignEach [.Subscript (.Name x p2) ek p3] X.env).map (·.2) = [assign (.Subscript (.Name x p2) ek p3) X.env] := by rfl)
    (ha : ∀ v, assign (.Subscript (.Name x p2) ek p3) X.env v = (do
      let ov ← holding [v] (eval (.Name x p2) X.env)
      let iv ← holding [v, ov] (eval ek X.env)
      standAt p3
      holding [v, ov, iv] (setItem ov iv v)
      release [v, ov, iv] []) := by intro _; rfl) : VS X W pn (.Assign [.Subscript (.Name x p2) ek p3] e pos) (setI i fe fk) := by
  refine ps_imp (ps_asg he (pg_sub hx hk set_list ha) hs hw h1) fun G σ H h => ?_
  obtain ⟨env, av, own, hs, w, h⟩ := h
  refine ⟨env, av, own, hs, w, ?_⟩
  unfold setI at h
  cases q : fe env with
  | st => rw [q] at h; exact h
  | ex c x e => rw [q] at h; exact SPost.exc h
  | ok p =>
    obtain ⟨o, env1⟩ := p
    rw [q] at h
    intro v H1 av1 fp own1 A w1 hr hs1
    have h' : SPost X.K X.mg W pn av H own σ G (if o.isUn then .st else if (env1.getD i .un).flO.isSome then (fk env1).then fun q => setI.setR (q.2.getD i .un).flO q.1 o.toD i q.2 else .st) := h
    cases hu : o.isUn with
    | true => rw [hu, if_pos rfl] at h'; exact h'.elim
    | false =>
      rw [hu, if_neg Bool.false_ne_true] at h'
      cases ho : (env1.getD i .un).flO with
      | none => rw [ho] at h'; exact h'.elim
      | some ds0 =>
        rw [ho] at h'
        have h' : SPost X.K X.mg W pn av H own σ G ((fk env1).then fun q => setI.setR (q.2.getD i .un).flO q.1 o.toD i q.2) := h'
        obtain ⟨a, ws0, e1, _, _, _⟩ := slot_write A w1 hs1 (O.flO_eq ho)
        refine ⟨.ref a, e1, env1, av1, own1, hs1, w1.tail, ?_⟩
        cases qk : fk env1 with
        | st => rw [qk] at h'; exact h'
        | ex c x e =>
          rw [qk] at h'
          have z : XPost X.K X.mg W av H own σ c x e := SPost.exc h'
          exact XPost.step w w1 A z
        | ok pk =>
          obtain ⟨ok, env2⟩ := pk
          rw [qk] at h'
          intro vk H2 av2 fk2 own2 A2 w2 hr2 hs2
          have h' : SPost X.K X.mg W pn av H own σ G (setI.setR (env2.getD i .un).flO ok o.toD i env2) := h'
          cases ho2 : (env2.getD i .un).flO with
          | none => rw [ho2] at h'; exact h'.elim
          | some ds =>
            rw [ho2] at h'
            have AA := Adv.trans w w1 A A2
            have ww := OkW.trans w1 A2 w2
            obtain ⟨b, ws, f1, f2, f3, f4⟩ := slot_write AA ww hs2 (O.flO_eq ho2)
            rw [e1] at f1
            cases f1
            cases ok with
            | un => exact h'.elim
            | fl _ => exact h'.elim
            | ob _ _ => exact h'.elim
            | ls _ => exact h'.elim
            | tp _ => exact h'.elim
            | d dk =>
              cases dk with
              | int j =>
                cases hr2 with | d rk =>
                  cases rk
                  have h' : SPost X.K X.mg W pn av H own σ G (nxO ((ixN ds.length j).map fun n => env2.set i (.fl (ds.set n o.toD)))) := h'
                  cases hn : ixN ds.length j with
                  | none => rw [hn] at h'; exact h'.elim
                  | some n =>
                    rw [hn] at h'
                    have r5 := hr.over w1 A2
                    have sub : ∀ b, drp av own own2 b → av2 b := drp_sub AA
                    have rd : RD X.K (drp av own own2) H2 v o.toD := r5.frozen hu sub fun b m z => by
                      rcases z with z | z
                      · rcases A.fresh b (List.mem_append_left _ m) with q | q
                        · exact z.2 q
                        · have := w.dom b z.1
                          rw [q] at this; cases this
                      · exact ww.apart b (List.mem_append_left _ m) z
                    obtain ⟨a1, a2, a3⟩ := f4 (ws.set n v) (ds.set n o.toD) (f3.set rd n)
                    exact ⟨a, ws, j, n, rfl, rfl, f2, by rw [f3.length]; exact hn, h' σ _ _ own2 (Pn.refl pn σ) a1 a2 a3⟩
              | _ => exact h'.elim
end
end VL

set_option Elab.async false
set_option linter.all false
set_option maxRecDepth 100000
namespace VL
open PySem PySem.Spec PyProof.Rows L2

/-- a def of n parameters that does F: the arguments, data or lists of one's own, then the same behind the call -/
def spF (K : PySem.W.Frag) (mg : Str → Option Value) (n : Nat) (F : Fe) : Sp := fun vs H Q E => vs.length = n ∧ ∃ (args : Ev) (av : Addr → Prop) (own : List Addr), Slots K av H (vs.map some) args own ∧ OkW av H own ∧
  EPost K mg (fun cls d _ H' => E cls d H') av H own (vs.map some) Q (F args)
abbrev FnV (P : Program) (w : World) (K : PySem.W.Frag) (mg : Str → Option Value) (base : Heap) (k : Nat) (f : Addr) (fd : FuncData) (ps : List Str) (F : Fe) : Prop := FnOk P w K mg base (L2.CX P w) k f fd ps (spF K mg ps.length F)

/-- behind a body: what the parameters hold; those of mu are lists of one's own -/
def outsOf (mu : List Nat) : Nat → Ev → Ev → Ev
  | _, [], _ => []
  | j, a :: args, env' => (if mu.contains j then env'.headD .un else a) :: outsOf mu (j + 1) args env'.tail
def okArgs (mu : List Nat) : Nat → Ev → Bool
  | _, [] => true
  | j, a :: args => (mu.contains j || a.free) && okArgs mu (j + 1) args
/-- a body's end -/
def endOf (mu : List Nat) (args : Ev) : SRes → ER (O × Ev)
  | .nx env' => .ok (.d .non, outsOf mu 0 args env')
  | .rt o env' => .ok (o, outsOf mu 0 args env')
  | .ex c x env' => .ex c x (outsOf mu 0 args env')
  | _ => .st
@[simp] theorem endOf_nx (mu : List Nat) (args env' : Ev) : endOf mu args (.nx env') = .ok (.d .non, outsOf mu 0 args env') := (rfl)
@[simp] theorem endOf_rt (mu : List Nat) (args env' : Ev) (o : O) : endOf mu args (.rt o env') = .ok (o, outsOf mu 0 args env') := (rfl)
@[simp] theorem endOf_ex (mu : List Nat) (args env' : Ev) (c : Str) (x : D) : endOf mu args (.ex c x env') = .ex c x (outsOf mu 0 args env') := (rfl)
@[simp] theorem endOf_st (mu : List Nat) (args : Ev) : endOf mu args .st = .st := (rfl)
def bodyF (mu : List Nat) (m : Nat) (f : Fs) : Fe := fun args => if okArgs mu 0 args then endOf mu args (f (args ++ List.replicate m .un)) else .st
section
variable {K : PySem.W.Frag} {mg : Str → Option Value} {W : WX} {av av' av1 : Addr → Prop} {H H' H1 : Hp} {own own' own1 own2 fp : List Addr}
theorem slots_more {σ : L2.St} {env : Ev} (hs : Slots K av H σ env own) : ∀ m : Nat, Slots K av H (σ ++ List.replicate m none) (env ++ List.replicate m .un) own := fun m => by
  have un : ∀ m : Nat, Slots K av H (List.replicate m none) (List.replicate m .un) [] := fun m => by
    induction m with
    | zero => exact .nil
    | succ m ih => exact Slots.cons (fp := []) .un ih
  have app : ∀ {σ : L2.St} {env : Ev} {own : List Addr}, Slots K av H σ env own → Slots K av H (σ ++ List.replicate m none) (env ++ List.replicate m .un) own := by
    intro σ env own h
    induction h with
    | nil => exact un m
    | cons h r ih => exact .cons h ih
  exact app hs
theorem outs_slots {mu : List Nat} : ∀ (args : Ev) (j : Nat) {vs : L2.St} {σ' : L2.St} {env' : Ev} {own' : List Addr}, Slots K av' H' σ' env' own' → vs.length = args.length → args.length ≤ σ'.length →
    (∀ i, i < args.length → mu.contains (j + i) = true → σ'[i]? = vs[i]?) → (∀ i s o, vs[i]? = some s → args[i]? = some o → mu.contains (j + i) = false → SR K av' H' s o []) →
    ∃ own2, Slots K av' H' vs (outsOf mu j args env') own2 ∧ own2.Sublist own'
  | [], j, vs, σ', env', own', hs, hl, _, _, _ => by
    cases vs with
    | nil => exact ⟨[], .nil, List.nil_sublist _⟩
    | cons _ _ => cases hl
  | a :: args, j, vs, σ', env', own', hs, hl, hz, hm, hd => by
    cases vs with
    | nil => cases hl
    | cons v vs =>
      cases hs with
      | nil => simp at hz
      | cons h r =>
        rename_i s o fp own2 σ2 env2
        obtain ⟨o2, s2, l2⟩ := outs_slots args (j + 1) (vs := vs) r (by simpa using hl) (by simpa using hz) (fun i hi q => by
          have := hm (i + 1) (by simpa using hi) (by rw [← q, Nat.add_assoc, Nat.add_comm 1 i])
          simpa using this) (fun i s o e1 e2 q => hd (i + 1) s o (by simpa using e1) (by simpa using e2) (by rw [← q, Nat.add_assoc, Nat.add_comm 1 i]))
        unfold outsOf
        cases hc : mu.contains j with
        | true =>
          have e := hm 0 (by simp) (by simpa using hc)
          simp only [List.getElem?_cons_zero, Option.some.injEq] at e
          subst e
          exact ⟨fp ++ o2, .cons h s2, (List.Sublist.refl fp).append l2⟩
        | false =>
          have q := hd 0 v a (by simp) (by simp) (by simpa using hc)
          exact ⟨[] ++ o2, .cons q s2, (List.nil_sublist fp).append l2⟩
theorem okArgs_at {mu : List Nat} : ∀ {args : Ev} {j i : Nat} {o : O}, okArgs mu j args = true → args[i]? = some o → mu.contains (j + i) = false → o.free = true
  | [], _, _, _, _, e, _ => by simp at e
  | a :: args, j, 0, o, h, e, q => by
    simp only [List.getElem?_cons_zero, Option.some.injEq] at e
    subst e
    unfold okArgs at h
    rw [Bool.and_eq_true, Bool.or_eq_true] at h
    rcases h.1 with z | z
    · rw [Nat.add_zero] at q
      rw [q] at z
      cases z
    · exact z
  | a :: args, j, i + 1, o, h, e, q => by
    simp only [List.getElem?_cons_succ] at e
    unfold okArgs at h
    rw [Bool.and_eq_true] at h
    exact okArgs_at h.2 e (by rw [← q, Nat.add_assoc, Nat.add_comm 1 i])
/-- the end with fewer owned -/
theorem adv_sub (A : Adv av H own av1 H1 (fp ++ own1)) (w : OkW av1 H1 (fp ++ own1)) (l : own2.Sublist own1) : Adv av H own (drp av own (fp ++ own2)) H1 (fp ++ own2) ∧ OkW (drp av own (fp ++ own2)) H1 (fp ++ own2) ∧ ∀ a, drp av own (fp ++ own2) a → av1 a := by
  have l2 : (fp ++ own2).Sublist (fp ++ own1) := (List.Sublist.refl fp).append l
  have s : ∀ a, drp av own (fp ++ own2) a → av1 a := fun a h => by
    rcases h with h | h
    · exact (A.av_ a).mpr (.inl h)
    · exact w.sub a (l2.subset h)
  exact ⟨⟨fun _ => Iff.rfl, fun a h => A.fresh a (l2.subset h), A.ext, A.there⟩, ⟨w.nodup.sublist l2, fun a h => .inr h, fun a h => w.dom a (s a h)⟩, s⟩
theorem body_ok {mu : List Nat} {m n : Nat} {f : Fs} {vs : List V} {Q : VK} {E : XK} (h : spF K mg n (bodyF mu m f) vs H Q E) :
    tS K mg (fun cls d _ H => E cls d H) mu f { nx := fun _ H' => Q .non H', rt := Q } (vs.map some ++ List.replicate m none) H := by
  obtain ⟨hn, args, av, own, hs, w, h⟩ := h
  refine ⟨args ++ List.replicate m .un, av, own, slots_more hs m, w, ?_⟩
  unfold bodyF at h
  cases hk : okArgs mu 0 args with
  | false => rw [hk, if_neg Bool.false_ne_true] at h; exact h.elim
  | true =>
    rw [hk, if_pos rfl] at h
    have hlen : (vs.map some).length = args.length := hs.length
    -- the parameters at an end
    have par : ∀ {σ' : L2.St} {H' : Hp} {av' : Addr → Prop} {fp own' : List Addr} {env' : Ev}, Pn mu (vs.map some ++ List.replicate m none) σ' → Adv av H own av' H' (fp ++ own') → OkW av' H' (fp ++ own') → Slots K av' H' σ' env' own' →
        ∃ own2, Slots K av' H' (vs.map some) (outsOf mu 0 args env') own2 ∧ own2.Sublist own' := fun {σ' H' av' fp own' env'} p A w' s => by
      have kp := A.keep w
      refine outs_slots args 0 s hlen (by rw [p.1, List.length_append, hlen]; omega) (fun i hi q => ?_) fun i sv o e1 e2 q => ?_
      · rw [Nat.zero_add] at q
        rw [p.2 i (List.contains_iff_mem.mp q), List.getElem?_append_left (by rw [hlen]; exact hi)]
      · have hf := okArgs_at hk e2 q
        obtain ⟨s2, fp2, g1, g2, _⟩ := hs.get e2
        rw [e1] at g1
        cases g1
        cases o with
        | un => exact .un
        | d x => cases g2 with | d r => exact .d (r.keep kp)
        | fl _ => cases hf
        | ob _ _ => cases hf
        | ls _ => cases hf
        | tp _ => cases hf
    cases q : f (args ++ List.replicate m .un) with
    | st => rw [q] at h; exact h
    | bk e => rw [q] at h; exact h.elim
    | ct e => rw [q] at h; exact h.elim
    | nx e =>
      rw [q] at h
      intro σ' H' av' own' p A w' s
      obtain ⟨own2, s2, l⟩ := par (fp := []) p A w' s
      obtain ⟨A2, w2, sb⟩ := adv_sub (fp := []) A w' l
      exact h .non H' _ [] own2 A2 w2 (.d .non) (s2.grow (σ := vs.map some) (env := outsOf mu 0 args e) (Grow.refl _) sb)
    | rt o e =>
      rw [q] at h
      intro v σ' H' av' fp own' p A w' r s
      obtain ⟨own2, s2, l⟩ := par p A w' s
      obtain ⟨A2, w2, sb⟩ := adv_sub A w' l
      exact h v H' _ fp own2 A2 w2 (r.keep (.grow (Grow.refl _) sb) fun _ _ _ e => e) (s2.grow (σ := vs.map some) (env := outsOf mu 0 args e) (Grow.refl _) sb)
    | ex c x e =>
      rw [q] at h
      intro σ' p cls dd v H' av' own' hc A w' hd r s
      obtain ⟨own2, s2, l⟩ := par (fp := []) p A w' s
      obtain ⟨A2, w2, sb⟩ := adv_sub (fp := []) A w' l
      exact h cls dd v H' _ own2 hc A2 w2 hd (r.keep (.grow (Grow.refl _) sb)) (s2.grow (σ := vs.map some) (env := outsOf mu 0 args e) (Grow.refl _) sb)
end
/-- THE RULE for a def -/
theorem fn_mk {P : Program} {w : World} {K : PySem.W.Frag} {mg : Str → Option Value} {base : Heap} {x qual : Str} {st : Stmt} {f : Addr} {fd : FuncData} {N ps : List Str} {k : Nat} {mu : List Nat} {m : Nat} {fs : Fs} (F : Fun K x qual st f fd) (S : FnScope N ps (defScope st)) (hm : m = N.length - ps.length)
    (hb : ∀ (cdv : Value) (A : Around) (outer : List Env) (s : Shared) (H : Hp) (E : XK), Room k (A.deeper (envOfC qual (defScope st) s.heap.objs.size f cdv)) →
      VB (cxOf (L2.CX P w) P w K mg base N qual (defScope st) f cdv A outer s H E) (fun cls d _ H => E cls d H) mu (defBody st) fs) : FnV P w K mg base (k + 1) f fd ps (bodyF mu m fs) :=
  F.okX S (fun vs H Q E h => h.1) fun cdv A outer s H vs Q E hr h => ⟨_, hb cdv A outer s H E hr, by
    have e : L2.start N vs = vs.map some ++ List.replicate m none := by
      unfold L2.start
      rw [h.1, hm]
    rw [e]
    exact body_ok h⟩
/-- a promise by another form of the same function -/
theorem fn_eq {P : Program} {w : World} {K : PySem.W.Frag} {mg : Str → Option Value} {base : Heap} {k : Nat} {f : Addr} {fd : FuncData} {ps : List Str} {F G : Fe} (h : FnV P w K mg base k f fd ps F) (e : F = G) : FnV P w K mg base k f fd ps G := e ▸ h

def Arg.own (env : Ev) : Arg → O
  | .tmp o => o
  | .sl i => env.getD i .un
/-- the arguments: the one at place m is handed on as one's own -/
def argsOf : Option Nat → List Arg → Ev → Ev
  | _, [], _ => []
  | some 0, a :: as, env => a.own env :: argsOf none as env
  | some (j + 1), a :: as, env => .d (a.look env) :: argsOf (some j) as env
  | none, a :: as, env => .d (a.look env) :: argsOf none as env
def dataOk : Option Nat → List Arg → Ev → Bool
  | _, [], _ => true
  | some 0, _ :: as, env => dataOk none as env
  | some (j + 1), a :: as, env => a.data env && dataOk (some j) as env
  | none, a :: as, env => a.data env && dataOk none as env
/-- .. and comes back -/
def backOf (m : Option Nat) (l : List Arg) (env outs : Ev) : Ev := match m with
  | none => env
  | some j => match l[j]? with
    | some (.sl i) => env.set i (outs.getD j .un)
    | _ => env
def callBack (m : Option Nat) (l : List Arg) (env : Ev) : ER (O × Ev) → ER (O × Ev)
  | .ok p => .ok (p.1, backOf m l env p.2)
  | .ex c x outs => .ex c x (backOf m l env outs)
  | .st => .st
@[simp] theorem callBack_ok (m : Option Nat) (l : List Arg) (env : Ev) (p : O × Ev) : callBack m l env (.ok p) = .ok (p.1, backOf m l env p.2) := (rfl)
@[simp] theorem callBack_ex (m : Option Nat) (l : List Arg) (env outs : Ev) (c : Str) (x : D) : callBack m l env (.ex c x outs) = .ex c x (backOf m l env outs) := (rfl)
@[simp] theorem callBack_st (m : Option Nat) (l : List Arg) (env : Ev) : callBack m l env .st = .st := (rfl)
def callE (F : Fe) (m : Option Nat) (as : List Opd) : Fe := fun env => (evA as env).bind fun p => if dataOk m p.1 p.2 then callBack m p.1 p.2 (F (argsOf m p.1 p.2)) else .st
section
variable {K : PySem.W.Frag} {mg : Str → Option Value} {W : WX} {av av' av1 av2 av3 : Addr → Prop} {H H' H1 H2 H3 : Hp} {own own' own1 own2 fp t c c' : List Addr} {σ : L2.St} {env : Ev}
theorem evA_length : ∀ {as : List Opd} {env env' : Ev} {l : List Arg}, evA as env = .ok (l, env') → l.length = as.length
  | [], env, env', l, h => by
    cases h
    rfl
  | .val f :: as, env, env', l, h => by
    unfold evA at h
    cases q : f env with
    | st => rw [q] at h; cases h
    | ex c x e => rw [q] at h; cases h
    | ok p =>
      rw [q] at h
      cases q2 : evA as p.2 with
      | st => rw [ER.bind_ok, q2] at h; cases h
      | ex c x e => rw [ER.bind_ok, q2] at h; cases h
      | ok p2 =>
        rw [ER.bind_ok, q2] at h
        cases h
        rw [List.length_cons, List.length_cons, evA_length (l := p2.1) (env' := p2.2) q2]
  | .pk i :: as, env, env', l, h => by
    unfold evA at h
    split at h
    · cases h
    · cases q2 : evA as env with
      | st => rw [q2] at h; cases h
      | ex c x e => rw [q2] at h; cases h
      | ok p2 =>
        rw [q2] at h
        cases h
        rw [List.length_cons, List.length_cons, evA_length (l := p2.1) (env' := p2.2) q2]
theorem ARep.len : ∀ {vs : List V} {l : List Arg} {t : List Addr}, ARep K av H σ vs l t → vs.length = l.length
  | _, _, _, .nil => rfl
  | _, _, _, .tmp _ r => by rw [List.length_cons, List.length_cons, ARep.len r]
  | _, _, _, .sl _ r => by rw [List.length_cons, List.length_cons, ARep.len r]
/-- one operand that is kept -/
theorem arg_frozen (hs : Slots K av H σ env own) (s : ∀ a, av' a → av a) {v : V} {a : Arg} {vs : List V} {l : List Arg} {t : List Addr} (h : ARep K av H σ (v :: vs) (a :: l) t) (n : ∀ b, b ∈ t → ¬ av' b) (g : a.data env = true) : RD K av' H v (a.look env) := by
  cases h with
  | tmp h r =>
    rename_i o fp t2
    have z := ARep.frozen (av' := av') hs s (ARep.tmp h .nil) (fun a m => n a (by
      rw [List.append_nil] at m
      exact List.mem_append_left _ m)) (by rw [List.all_cons, g]; rfl)
    cases z with | cons z _ => exact z
  | sl h r =>
    rename_i i
    have z := ARep.frozen (av' := av') hs s (ARep.sl h .nil) (fun a m => nomatch m) (by rw [List.all_cons, g]; rfl)
    cases z with | cons z _ => exact z
theorem ARep.tail {v : V} {a : Arg} {vs : List V} {l : List Arg} {t : List Addr} (h : ARep K av H σ (v :: vs) (a :: l) t) : ∃ t1 t2, t = t1 ++ t2 ∧ ARep K av H σ vs l t2 := by
  cases h with
  | tmp h r => exact ⟨_, _, rfl, r⟩
  | sl h r => exact ⟨[], _, rfl, r⟩
theorem args_none (hs : Slots K av H σ env own) (s : ∀ a, av' a → av a) : ∀ {l : List Arg} {vs : List V} {t : List Addr}, ARep K av H σ vs l t → dataOk none l env = true → (∀ a, a ∈ t → ¬ av' a) → Slots K av' H (vs.map some) (argsOf none l env) []
  | [], vs, t, h, _, _ => by
    cases h
    exact .nil
  | a :: l, vs, t, h, g, n => by
    cases vs with
    | nil => cases h
    | cons v vs =>
      unfold dataOk at g
      rw [Bool.and_eq_true] at g
      have r := arg_frozen hs s h n g.1
      obtain ⟨t1, t2, e, h2⟩ := h.tail
      subst e
      exact Slots.cons (fp := []) (.d r) (args_none hs s h2 g.2 fun a m => n a (List.mem_append_right _ m))
theorem args_tmp (hs : Slots K av H σ env own) : ∀ {l : List Arg} {vs : List V} {t : List Addr} {j : Nat} {o : O}, ARep K av H σ vs l t → t.Nodup → dataOk (some j) l env = true → l[j]? = some (.tmp o) →
    ∃ c : List Addr, c.Sublist t ∧ ∀ av' : Addr → Prop, (∀ a, av' a → av a) → (∀ a, a ∈ t → a ∉ c → ¬ av' a) → Slots K av' H (vs.map some) (argsOf (some j) l env) c
  | [], vs, t, j, o, h, _, _, e => by simp at e
  | a :: l, vs, t, 0, o, h, nd, g, e => by
    simp only [List.getElem?_cons_zero, Option.some.injEq] at e
    subst e
    cases h with | tmp h r =>
      rename_i v fp t2 vs2
      refine ⟨fp, List.sublist_append_left _ _, fun av' s n => ?_⟩
      have z := args_none hs s r g fun a m => n a (List.mem_append_right _ m) fun q => (List.nodup_append.mp nd).2.2 a q a m rfl
      have y := Slots.cons (h.keep (.grow (Grow.refl _) s) fun _ _ _ e => e) z
      rw [List.append_nil] at y
      exact y
  | a :: l, vs, t, j + 1, o, h, nd, g, e => by
    unfold dataOk at g
    rw [Bool.and_eq_true] at g
    simp only [List.getElem?_cons_succ] at e
    have gd := g.1
    cases h with
    | tmp h r =>
      rename_i v o1 fp1 t3 vs3
      have nd2 := List.nodup_append.mp nd
      obtain ⟨c, l1, k⟩ := args_tmp hs r nd2.2.1 g.2 e
      refine ⟨c, l1.trans (List.sublist_append_right _ _), fun av' s n => ?_⟩
      have k2 := k av' s fun a m q => n a (List.mem_append_right _ m) q
      have z := ARep.frozen (av' := av') hs s (ARep.tmp h .nil) (fun a m => n a (by
        rw [List.append_nil] at m
        exact List.mem_append_left _ m) fun q => nd2.2.2 a (by
        rw [List.append_nil] at m
        exact m) a (l1.subset q) rfl) (by rw [List.all_cons, gd]; rfl)
      cases z with | cons z _ => exact Slots.cons (fp := []) (.d z) k2
    | sl h r =>
      obtain ⟨c, l1, k⟩ := args_tmp hs r nd g.2 e
      refine ⟨c, l1, fun av' s n => ?_⟩
      have z := ARep.frozen (av' := av') hs s (ARep.sl h .nil) (fun a m => nomatch m) (by rw [List.all_cons, gd]; rfl)
      cases z with | cons z _ => exact Slots.cons (fp := []) (.d z) (k av' s n)
theorem args_sl (hs : Slots K av H σ env own) (s : ∀ a, av' a → av a) : ∀ {l : List Arg} {vs : List V} {t : List Addr} {i j : Nat}, ARep K av H σ vs l t → dataOk (some j) l env = true → l[j]? = some (.sl i) → (∀ a, a ∈ t → ¬ av' a) →
    (∃ v, vs[j]? = some v ∧ σ[i]? = some (some v)) ∧ ∀ c, SR K av' H (σ.getD i none) (env.getD i .un) c → Slots K av' H (vs.map some) (argsOf (some j) l env) c
  | [], vs, t, i, j, h, _, e, _ => by simp at e
  | a :: l, vs, t, i, 0, h, g, e, n => by
    simp only [List.getElem?_cons_zero, Option.some.injEq] at e
    subst e
    cases h with | sl h r =>
      rename_i v vs2
      refine ⟨⟨v, rfl, h⟩, fun c q => ?_⟩
      have z := args_none hs s r g n
      rw [List.getD_eq_getElem?_getD, h] at q
      have y := Slots.cons q z
      rw [List.append_nil] at y
      exact y
  | a :: l, vs, t, i, j + 1, h, g, e, n => by
    unfold dataOk at g
    rw [Bool.and_eq_true] at g
    simp only [List.getElem?_cons_succ] at e
    have gd := g.1
    cases h with
    | tmp h r =>
      rename_i v o1 fp1 t3 vs3
      obtain ⟨⟨v', e1, e2⟩, k⟩ := args_sl hs s r g.2 e fun a m => n a (List.mem_append_right _ m)
      refine ⟨⟨v', by simpa using e1, e2⟩, fun c q => ?_⟩
      have z := ARep.frozen (av' := av') hs s (ARep.tmp h .nil) (fun a m => n a (by
        rw [List.append_nil] at m
        exact List.mem_append_left _ m)) (by rw [List.all_cons, gd]; rfl)
      cases z with | cons z _ => exact Slots.cons (fp := []) (.d z) (k c q)
    | sl h r =>
      obtain ⟨⟨v', e1, e2⟩, k⟩ := args_sl hs s r g.2 e n
      refine ⟨⟨v', by simpa using e1, e2⟩, fun c q => ?_⟩
      have z := ARep.frozen (av' := av') hs s (ARep.sl h .nil) (fun a m => nomatch m) (by rw [List.all_cons, gd]; rfl)
      cases z with | cons z _ => exact Slots.cons (fp := []) (.d z) (k c q)
/-- a step of a part of what is owned is a step of all of it -/
theorem adv_frame {P R : List Addr} (w : OkW av1 H1 (P ++ (c ++ R))) (B : Adv av1 H1 c av3 H3 (fp ++ c')) (w3 : OkW av3 H3 (fp ++ c')) : Adv av1 H1 (P ++ (c ++ R)) av3 H3 (fp ++ (P ++ (c' ++ R))) ∧ OkW av3 H3 (fp ++ (P ++ (c' ++ R))) := by
  have nd := w.nodup
  simp only [List.nodup_append, List.mem_append] at nd
  obtain ⟨nP, ⟨nc, nR, ncR⟩, nPc⟩ := nd
  have inPR : ∀ a, a ∈ P ∨ a ∈ R → a ∉ c ∧ av1 a := fun a h => by
    rcases h with h | h
    · exact ⟨fun q => nPc a h a (.inl q) rfl, w.sub a (by simp [h])⟩
    · exact ⟨fun q => ncR a q a h rfl, w.sub a (by simp [h])⟩
  have new : ∀ a, a ∈ fp ++ c' → ¬ (a ∈ P ∨ a ∈ R) := fun a h q => by
    obtain ⟨q1, q2⟩ := inPR a q
    rcases B.fresh a h with z | z
    · exact q1 z
    · have := w.dom a q2
      rw [z] at this; cases this
  refine ⟨⟨fun a => ⟨fun h => ?_, fun h => ?_⟩, fun a h => ?_, fun a o h n => B.ext a o h fun q => n (by simp [q]), B.there⟩, ⟨?_, fun a h => ?_, w3.dom⟩⟩
  · rcases (B.av_ a).mp h with ⟨h1, h2⟩ | h
    · by_cases q : a ∈ P ∨ a ∈ R
      · exact .inr (by rcases q with q | q <;> simp [q])
      · refine .inl ⟨h1, fun z => ?_⟩
        simp only [List.mem_append] at z
        rcases z with z | z | z
        · exact q (.inl z)
        · exact h2 z
        · exact q (.inr z)
    · rcases List.mem_append.mp h with h | h <;> exact .inr (by simp [h])
  · rcases h with h | h
    · exact (B.av_ a).mpr (.inl ⟨h.1, fun q => h.2 (by simp [q])⟩)
    · simp only [List.mem_append] at h
      rcases h with h | h | h | h
      · exact (B.av_ a).mpr (.inr (by simp [h]))
      · exact (B.av_ a).mpr (.inl ⟨(inPR a (.inl h)).2, (inPR a (.inl h)).1⟩)
      · exact (B.av_ a).mpr (.inr (by simp [h]))
      · exact (B.av_ a).mpr (.inl ⟨(inPR a (.inr h)).2, (inPR a (.inr h)).1⟩)
  · simp only [List.mem_append] at h
    rcases h with h | h | h | h
    · rcases B.fresh a (by simp [h]) with z | z
      · exact .inl (by simp [z])
      · exact .inr z
    · exact .inl (by simp [h])
    · rcases B.fresh a (by simp [h]) with z | z
      · exact .inl (by simp [z])
      · exact .inr z
    · exact .inl (by simp [h])
  · have n3 := w3.nodup
    simp only [List.nodup_append] at n3 ⊢
    obtain ⟨n31, n32, n33⟩ := n3
    refine ⟨n31, ⟨nP, ⟨n32, nR, fun a ha b hb e => new a (by simp [ha]) (.inr (by rw [e]; exact hb))⟩, fun a ha b hb e => ?_⟩, fun a ha b hb e => ?_⟩
    · rcases List.mem_append.mp hb with hb | hb
      · exact new b (by simp [hb]) (.inl (by rw [← e]; exact ha))
      · exact nPc a ha b (.inr hb) e
    · simp only [List.mem_append] at hb
      rcases hb with hb | hb | hb
      · exact new a (by simp [ha]) (.inl (by rw [e]; exact hb))
      · exact n33 a ha b hb e
      · exact new a (by simp [ha]) (.inr (by rw [e]; exact hb))
  · simp only [List.mem_append] at h
    rcases h with h | h | h | h
    · exact w3.sub a (by simp [h])
    · exact (B.av_ a).mpr (.inl ⟨(inPR a (.inl h)).2, (inPR a (.inl h)).1⟩)
    · exact w3.sub a (by simp [h])
    · exact (B.av_ a).mpr (.inl ⟨(inPR a (.inr h)).2, (inPR a (.inr h)).1⟩)
theorem spF_of {n : Nat} {F : Fe} {vs : List V} {args : Ev} {Q : VK} {E : XK} (hn : vs.length = n) (s : Slots K av H (vs.map some) args own) (w : OkW av H own) (h : EPost K mg (fun cls d _ H' => E cls d H') av H own (vs.map some) Q (F args)) : spF K mg n F vs H Q E :=
  ⟨hn, args, av, own, s, w, h⟩
/-- temporaries alone are handed on (or nothing): all of it is given up behind the call -/
theorem call_tmp {n : Nat} {F : Fe} {vs : List V} {args : Ev} {Q : VK} (w : OkW av H own) (A : Adv av H own av1 H1 (t ++ own1)) (w1 : OkW av1 H1 (t ++ own1)) (hs1 : Slots K av1 H1 σ env own1) (hn : vs.length = n)
    (hc : c.Sublist t) (ha : Slots K (drp av own (c ++ own1)) H1 (vs.map some) args c) (h : EPost K mg W av H own σ Q (match F args with
      | .ok p => .ok (p.1, env)
      | .ex x y _ => .ex x y env
      | .st => .st)) : spF K mg n F vs H1 Q fun cls d H' => W cls d σ H' := by
  have l : (c ++ own1).Sublist (t ++ own1) := hc.append (List.Sublist.refl own1)
  obtain ⟨A2, w2, sb⟩ := adv_sub (fp := []) A w1 l
  have A2 : Adv av H own (drp av own (c ++ own1)) H1 (c ++ own1) := A2
  have w2 : OkW (drp av own (c ++ own1)) H1 (c ++ own1) := w2
  have s2 := hs1.grow (σ := σ) (env := env) (Grow.refl _) sb
  have wc : OkW (drp av own (c ++ own1)) H1 c := ⟨(List.nodup_append.mp w2.nodup).1, fun a m => w2.sub a (List.mem_append_left _ m), w2.dom⟩
  refine spF_of hn ha wc ?_
  have back : ∀ {av3 : Addr → Prop} {H3 : Hp} {fp c' : List Addr}, Adv (drp av own (c ++ own1)) H1 c av3 H3 (fp ++ c') → OkW av3 H3 (fp ++ c') → ∃ av4, Adv av H own av4 H3 (fp ++ own1) ∧ OkW av4 H3 (fp ++ own1) ∧ (∀ a, av4 a → av3 a) ∧ Slots K av4 H3 σ env own1 := fun {av3 H3 fp c'} B w3 => by
    obtain ⟨B2, w4⟩ := adv_frame (P := []) (R := own1) w2 B w3
    have AA := Adv.trans (t := []) (u := fp) w w2 A2 B2
    obtain ⟨A5, w5, sb5⟩ := adv_sub (fp := fp) (own2 := own1) AA w4 (List.sublist_append_right c' own1)
    refine ⟨_, A5, w5, sb5, ?_⟩
    exact (Slots.keep (σ := σ) (env := env) (B.keep wc) s2 fun a u m e => B.ext a u e fun q => w2.apart a q m).grow (σ := σ) (env := env) (Grow.refl _) sb5
  cases q : F args with
  | st => rw [q] at h; exact h
  | ok p =>
    rw [q] at h
    intro v H3 av3 fp c' B w3 r s3
    obtain ⟨av4, A5, w5, sb5, s5⟩ := back B w3
    exact h v H3 av4 fp own1 A5 w5 (r.keep (.grow (Grow.refl _) sb5) fun _ _ _ e => e) s5
  | ex x y outs =>
    rw [q] at h
    intro cls dd v H3 av3 c' hcl B w3 hd r s3
    obtain ⟨av4, A5, w5, sb5, s5⟩ := back (fp := []) B w3
    exact h cls dd v H3 av4 own1 hcl A5 w5 hd (r.keep (.grow (Grow.refl _) sb5)) s5
/-- the list of slot i is handed on -/
theorem call_sl {n : Nat} {F : Fe} {vs : List V} {args : Ev} {Q : VK} {i j : Nat} {v : V} (w : OkW av H own) (A : Adv av H own av1 H1 (t ++ own1)) (w1 : OkW av1 H1 (t ++ own1)) (hs1 : Slots K av1 H1 σ env own1) (hn : vs.length = n)
    (hv : vs[j]? = some v) (hi : σ[i]? = some (some v)) (ha : ∀ c, SR K (drp av own own1) H1 (σ.getD i none) (env.getD i .un) c → Slots K (drp av own own1) H1 (vs.map some) args c) (h : EPost K mg W av H own σ Q (match F args with
      | .ok p => .ok (p.1, env.set i (p.2.getD j .un))
      | .ex x y outs => .ex x y (env.set i (outs.getD j .un))
      | .st => .st)) : spF K mg n F vs H1 Q fun cls d H' => W cls d σ H' := by
  have A2 := Adv.drop A
  have w2 := OkW.drop A w1
  have s2 := hs1.grow (σ := σ) (env := env) (Grow.refl _) (drp_sub A)
  have hl : i < env.length := by
    rw [← s2.length]
    exact (List.getElem?_eq_some_iff.mp hi).1
  obtain ⟨s, P, c, R, eo, e1, e2, g⟩ := s2.focus hl
  rw [hi] at e1
  cases e1
  have hc := ha c (by rw [List.getD_eq_getElem?_getD, hi]; exact e2)
  have wc : OkW (drp av own own1) H1 c := by
    refine ⟨?_, fun a m => w2.sub a (by rw [eo]; simp [m]), w2.dom⟩
    have := w2.nodup
    rw [eo] at this
    exact (List.nodup_append.mp (List.nodup_append.mp this).2.1).1
  refine spF_of hn hc wc ?_
  have w2' : OkW (drp av own own1) H1 (P ++ (c ++ R)) := by
    have z := w2
    rw [eo] at z ⊢
    exact z
  have back : ∀ {av3 : Addr → Prop} {H3 : Hp} {fp c' : List Addr} {outs : Ev}, Adv (drp av own own1) H1 c av3 H3 (fp ++ c') → OkW av3 H3 (fp ++ c') → Slots K av3 H3 (vs.map some) outs c' →
      ∃ av4 own4, Adv av H own av4 H3 (fp ++ own4) ∧ OkW av4 H3 (fp ++ own4) ∧ (∀ a, av4 a → av3 a) ∧ Slots K av4 H3 σ (env.set i (outs.getD j .un)) own4 := fun {av3 H3 fp c' outs} B w3 so => by
    obtain ⟨B2, w4⟩ := adv_frame (P := P) (R := R) w2' B w3
    have hj : j < outs.length := by
      rw [← so.length, List.length_map]
      exact (List.getElem?_eq_some_iff.mp hv).1
    obtain ⟨sj, P2, cj, R2, eo2, g1, g2, _⟩ := so.focus hj
    rw [List.getElem?_map, hv] at g1
    cases g1
    have A2' : Adv av H own (drp av own own1) H1 (P ++ (c ++ R)) := by
      rw [← eo]
      exact A2
    have AA := Adv.trans (t := []) (u := fp) w w2' A2' B2
    have l : (P ++ (cj ++ R)).Sublist (P ++ (c' ++ R)) := by
      refine (List.Sublist.refl P).append (List.Sublist.append ?_ (List.Sublist.refl R))
      rw [eo2]
      exact (List.sublist_append_left cj R2).trans (List.sublist_append_right P2 _)
    obtain ⟨A5, w5, sb5⟩ := adv_sub (fp := fp) (own2 := P ++ (cj ++ R)) AA w4 l
    refine ⟨_, _, A5, w5, sb5, ?_⟩
    have z := g (s' := some v) (o' := outs.getD j .un) (fp' := cj) (B.keep wc) (fun a u m e => B.ext a u e fun q => ?_) g2
    · have eσ : σ.set i (some v) = σ := by
        refine List.ext_getElem? fun k => ?_
        by_cases hk : i = k
        · subst hk
          rw [List.getElem?_set_self (List.getElem?_eq_some_iff.mp hi).1, hi]
        · rw [List.getElem?_set_ne hk]
      rw [eσ] at z
      exact z.grow (σ := σ) (env := env.set i (outs.getD j .un)) (Grow.refl _) sb5
    · have nd := w2'.nodup
      simp only [List.nodup_append, List.mem_append] at nd m
      rcases m with m | m
      · exact nd.2.2 a m a (.inl q) rfl
      · exact nd.2.1.2.2 a q a m rfl
  cases q : F args with
  | st => rw [q] at h; exact h
  | ok p =>
    rw [q] at h
    intro v H3 av3 fp c' B w3 r s3
    obtain ⟨av4, own4, A5, w5, sb5, s5⟩ := back B w3 s3
    exact h v H3 av4 fp own4 A5 w5 (r.keep (.grow (Grow.refl _) sb5) fun _ _ _ e => e) s5
  | ex x y outs =>
    rw [q] at h
    intro cls dd v H3 av3 c' hcl B w3 hd r s3
    obtain ⟨av4, own4, A5, w5, sb5, s5⟩ := back (fp := []) B w3 s3
    exact h cls dd v H3 av4 own4 hcl A5 w5 hd (r.keep (.grow (Grow.refl _) sb5)) s5
theorem call_ok {n : Nat} {F : Fe} {m : Option Nat} {as : List Opd} {Q : VK} (hn : as.length = n) (hm : ∀ j, m = some j → j < n) (h : tOf K mg W (callE F m as) σ H Q) : tArg K mg W as σ H fun vs H1 => spF K mg n F vs H1 Q fun cls d H' => W cls d σ H' := by
  obtain ⟨env, av, own, hs, w, h⟩ := h
  refine args_ok as hs w ?_
  unfold callE at h
  cases q : evA as env with
  | st => rw [q] at h; exact h
  | ex c x e => rw [q] at h; exact h
  | ok p =>
    obtain ⟨l, env'⟩ := p
    have hl := evA_length q
    rw [q] at h
    intro vs H1 av1 t own1 A w1 ha hs1
    have h' : EPost K mg W av H own σ Q (if dataOk m l env' then callBack m l env' (F (argsOf m l env')) else .st) := h
    have hvn : vs.length = n := by rw [ha.len, hl, hn]
    have nt : t.Nodup := (List.nodup_append.mp w1.nodup).1
    have out : ∀ a, a ∈ t → ¬ drp av own own1 a := fun a m z => by
      rcases z with z | z
      · rcases A.fresh a (List.mem_append_left _ m) with q | q
        · exact z.2 q
        · have := w.dom a z.1
          rw [q] at this; cases this
      · exact w1.apart a m z
    cases hg : dataOk m l env' with
    | false => rw [hg, if_neg Bool.false_ne_true] at h'; exact h'.elim
    | true =>
      rw [hg, if_pos rfl] at h'
      cases m with
      | none =>
        refine call_tmp (c := []) w A w1 hs1 hvn (List.nil_sublist t) (args_none (av' := drp av own ([] ++ own1)) hs1 (drp_sub A) ha hg out) ?_
        cases q2 : F (argsOf none l env') with
        | st => rw [q2] at h'; exact h'
        | ok p => rw [q2] at h'; exact h'
        | ex x y outs => rw [q2] at h'; exact h'
      | some j =>
        have hj : j < l.length := by rw [hl, hn]; exact hm j rfl
        cases ej : l[j]? with
        | none => exact absurd (List.getElem?_eq_none_iff.mp ej) (by omega)
        | some aj =>
          cases aj with
          | tmp o =>
            obtain ⟨c, lc, k⟩ := args_tmp hs1 ha nt hg ej
            have l2 : (c ++ own1).Sublist (t ++ own1) := lc.append (List.Sublist.refl own1)
            refine call_tmp (c := c) w A w1 hs1 hvn lc (k _ (adv_sub (fp := []) A w1 l2).2.2 fun a m n z => ?_) ?_
            · rcases z with z | z
              · exact out a m (.inl z)
              · rcases List.mem_append.mp z with z | z
                · exact n z
                · exact w1.apart a m z
            · have eb : ∀ outs, backOf (some j) l env' outs = env' := fun outs => by
                show (match l[j]? with
                  | some (.sl i) => env'.set i (outs.getD j .un)
                  | _ => env') = env'
                rw [ej]
              cases q2 : F (argsOf (some j) l env') with
              | st => rw [q2] at h'; exact h'
              | ok p => rw [q2, callBack_ok, eb] at h'; exact h'
              | ex x y outs => rw [q2, callBack_ex, eb] at h'; exact h'
          | sl i =>
            obtain ⟨⟨v, e1, e2⟩, k⟩ := args_sl (av' := drp av own own1) hs1 (drp_sub A) ha hg ej out
            refine call_sl w A w1 hs1 hvn e1 e2 k ?_
            have eb : ∀ outs, backOf (some j) l env' outs = env'.set i (outs.getD j .un) := fun outs => by
              show (match l[j]? with
                | some (.sl i) => env'.set i (outs.getD j .un)
                | _ => env') = _
              rw [ej]
            cases q2 : F (argsOf (some j) l env') with
            | st => rw [q2] at h'; exact h'
            | ok p => rw [q2, callBack_ok, eb] at h'; exact h'
            | ex x y outs => rw [q2, callBack_ex, eb] at h'; exact h'
end
section
variable {X : Cx} {W : WX} {pos p : Pos} {e : Expr} {es : List Expr} {os : List Opd} {x : Str}
/-- f(e, ..) -/
theorem v_call {k : Nat} {f : Addr} {fd : FuncData} {ps : List Str} {F : Fe} (m : Option Nat) (hF : FnV X.prog X.w X.K X.mg X.base k f fd ps F) (hr : Room k X.A) (hg : Gl X x) (hm : X.mg x = some (.ref f)) (hk : PySem.W.keepIn X.K (.ref f) = true) (hb : Binds X.K fd ps []) (tk : Takes X W)
    (ha : VA X W (e :: es) os) (hn : os.length = ps.length := by rfl) (hmn : ∀ j, m = some j → j < ps.length := by first | (intro _ h; cases h; decide) | (intro _ h; cases h)) (hdb : (x == ("__debug__" : Str)) = false := by decide)
    (he : starEach (e :: es) X.env = (false, eval e X.env) :: starEach es X.env := by rfl) (hpl : (backTo pos (starEach es X.env)).any (·.1) = false := by rfl) : VE X W (.Call (.Name x p) (e :: es) [] pos) (callE F m os) := by
  refine pe_imp (pe_callSD (E := fun σ cls d H' => W cls d σ H') hF hr hg hm hk hb .nil (fun σ => passAt tk σ) ha hdb he hpl) fun σ H Q h => tArg_mono (fun vs H1 h => ?_) (call_ok hn hmn h)
  rw [List.append_nil]
  exact h
theorem v_call0 {k : Nat} {f : Addr} {fd : FuncData} {F : Fe} (hF : FnV X.prog X.w X.K X.mg X.base k f fd [] F) (hr : Room k X.A) (hg : Gl X x) (hm : X.mg x = some (.ref f)) (hk : PySem.W.keepIn X.K (.ref f) = true) (hb : Binds X.K fd [] []) (tk : Takes X W)
    (hdb : (x == ("__debug__" : Str)) = false := by decide) : True := trivial
end
end VL

set_option Elab.async false
set_option linter.all false
set_option maxRecDepth 100000
namespace VL
open PySem PySem.Spec PyProof.Rows L2

section
variable {K : PySem.W.Frag} {mg : Str → Option Value} {W : WX} {av av1 : Addr → Prop} {H H1 : Hp} {own own1 t : List Addr} {σ : L2.St}
/-- slot i is given another content while t waits -/
theorem Slots.putT {env : Ev} {i : Nat} {v : Option V} {o : O} {fp : List Addr} (A : Adv av H own av1 H1 (t ++ (fp ++ own1))) (w1 : OkW av1 H1 (t ++ (fp ++ own1))) (hs : Slots K av1 H1 σ env own1) (hi : i < env.length) (hr : SR K av1 H1 v o fp) :
    ∃ (av2 : Addr → Prop) (own2 : List Addr), Adv av H own av2 H1 (t ++ own2) ∧ OkW av2 H1 (t ++ own2) ∧ (∀ a, av2 a → av1 a) ∧ Slots K av2 H1 (σ.set i v) (env.set i o) own2 := by
  obtain ⟨s, P, fpi, B, rfl, e1, e2, g⟩ := hs.focus hi
  have mem : ∀ a, a ∈ t ++ (P ++ (fp ++ B)) → a ∈ t ++ (fp ++ (P ++ (fpi ++ B))) := fun a h => by
    simp only [List.mem_append] at h ⊢
    rcases h with h | h | h | h <;> simp [h]
  have sub : ∀ a, drp av own (t ++ (P ++ (fp ++ B))) a → av1 a := fun a h => by
    rcases h with h | h
    · exact (A.av_ a).mpr (.inl h)
    · exact w1.sub a (mem a h)
  have nd : (t ++ (P ++ (fp ++ B))).Nodup := by
    have := w1.nodup
    simp only [List.nodup_append, List.mem_append] at this ⊢
    obtain ⟨n0, ⟨n1, ⟨n2, ⟨n3, n4, n5⟩, n6⟩, n7⟩, n8⟩ := this
    refine ⟨n0, ⟨n2, ⟨n1, n4, fun a ha b hb => n7 a ha b (.inr (.inr hb))⟩, fun a ha b hb => ?_⟩, fun a ha b hb => ?_⟩
    · rcases hb with hb | hb
      · exact fun e => n7 b hb a (.inl ha) e.symm
      · exact n6 a ha b (.inr hb)
    · rcases hb with hb | hb | hb
      · exact n8 a ha b (.inr (.inl hb))
      · exact n8 a ha b (.inl hb)
      · exact n8 a ha b (.inr (.inr (.inr hb)))
  exact ⟨drp av own (t ++ (P ++ (fp ++ B))), P ++ (fp ++ B), ⟨fun _ => Iff.rfl, fun a h => A.fresh a (mem a h), A.ext, A.there⟩, ⟨nd, fun a h => .inr h, fun a h => w1.dom a (sub a h)⟩, sub,
    g (.grow (Grow.refl _) sub) (fun _ _ _ e => e) (hr.keep (.grow (Grow.refl _) sub) fun _ _ _ e => e)⟩
/-- a temporary is made data -/
theorem thaw {v : V} {o : O} {fp R : List Addr} (w : OkW av H own) (A : Adv av H own av1 H1 (fp ++ R)) (w1 : OkW av1 H1 (fp ++ R)) (hr : SR K av1 H1 (some v) o fp) (hu : o.isUn = false) :
    Adv av H own (drp av own R) H1 R ∧ OkW (drp av own R) H1 R ∧ (∀ a, drp av own R a → av1 a) ∧ SR K (drp av own R) H1 (some v) (.d o.toD) [] :=
  ⟨Adv.drop A, OkW.drop A w1, drp_sub A, .d (hr.frozen hu (drp_sub A) fun a m z => by
    rcases z with z | z
    · rcases A.fresh a (List.mem_append_left _ m) with q | q
      · exact z.2 q
      · have := w.dom a z.1
        rw [q] at this; cases this
    · exact w1.apart a m z)⟩
end
/-- kept as it is, or as data -/
def zO (z : Bool) (o : O) : O := if z then .d o.toD else o
/-- x, y = a, b -/
def parS (i j : Nat) (zi zj : Bool) (fa fb : Fe) : Fs := fun env => (fa env).then fun p => (fb p.2).then fun q =>
  if p.1.isUn || q.1.isUn || !decide (i < q.2.length) || !decide (j < q.2.length) then .st else .nx ((q.2.set i (zO zi p.1)).set j (zO zj q.1))
section
variable {X : Cx} {W : WX} {pn : List Nat} {pos : Pos}
theorem s_par {i j : Nat} {zi zj : Bool} {x y : Str} {a b : Expr} {fa fb : Fe} {px py pt : Pos} {kt k2 : Nat} {pt2 : Pos} (hc : X.calm = true) (hN : X.N.Nodup) (hi : X.N[i]? = some x) (hj : X.N[j]? = some y) (hij : i ≠ j)
    (hx : X.env.scope.names.lookup x = some .local) (hy : X.env.scope.names.lookup y = some .local) (hpi : pn.contains i = false) (hpj : pn.contains j = false) (ha : VE X W a fa) (hb : VE X W b fb)
    (hw : swappedStores [.Tuple [.Name x px, .Name y py] kt pt] (.Tuple [a, b] k2 pt2) X.env = pure (some [x, y]))
    (hs : swapsWithSole [.Tuple [.Name x px, .Name y py] kt pt] (.Tuple [a, b] k2 pt2) pos.line X.env = pure false := by rfl)
    (h1 : starEach [a, b] X.env = (false, eval a X.env) :: starEach [b] X.env := by rfl) (h2 : starEach [b] X.env = (false, eval b X.env) :: starEach [] X.env := by rfl) :
    VS X W pn (.Assign [.Tuple [.Name x px, .Name y py] kt pt] (.Tuple [a, b] k2 pt2) pos) (parS i j zi zj fa fb) := by
  refine ps_imp (ps_par hc hN hi hj hij hx hy (pa_cons ha (pa_cons hb pa_nil h2) h1) hw hs) fun G σ H h => ?_
  obtain ⟨env, av, own, hs, w, h⟩ := h
  show tOf X.K X.mg W fa σ H fun v1 H1 => tOf X.K X.mg W fb σ H1 fun v2 H2 => ∃ v w, [v1, v2] = [v, w] ∧ G.nx ((σ.set i (some v)).set j (some w)) H2
  refine ⟨env, av, own, hs, w, ?_⟩
  unfold parS at h
  cases q : fa env with
  | st => rw [q] at h; exact h
  | ex c x e => rw [q] at h; exact SPost.exc h
  | ok p =>
    obtain ⟨o1, env1⟩ := p
    rw [q] at h
    intro v1 H1 av1 fp1 own1 A1 w1 r1 s1
    refine ⟨env1, av1, own1, s1, w1.tail, ?_⟩
    have h : SPost X.K X.mg W pn av H own σ G ((fb env1).then fun q => if o1.isUn || q.1.isUn || !decide (i < q.2.length) || !decide (j < q.2.length) then .st else .nx ((q.2.set i (zO zi o1)).set j (zO zj q.1))) := h
    cases q2 : fb env1 with
    | st => rw [q2] at h; exact h
    | ex c x e =>
      rw [q2] at h
      have z : XPost X.K X.mg W av H own σ c x e := SPost.exc h
      exact XPost.step w w1 A1 z
    | ok p2 =>
      obtain ⟨o2, env2⟩ := p2
      rw [q2] at h
      intro v2 H2 av2 fp2 own2 A2 w2 r2 s2
      refine ⟨v1, v2, rfl, ?_⟩
      have h : SPost X.K X.mg W pn av H own σ G (if o1.isUn || o2.isUn || !decide (i < env2.length) || !decide (j < env2.length) then .st else .nx ((env2.set i (zO zi o1)).set j (zO zj o2))) := h
      cases hc : (o1.isUn || o2.isUn || !decide (i < env2.length) || !decide (j < env2.length)) with
      | true => rw [hc, if_pos rfl] at h; exact h.elim
      | false =>
        rw [hc, if_neg Bool.false_ne_true] at h
        simp only [Bool.or_eq_false_iff, Bool.not_eq_false', decide_eq_true_eq] at hc
        obtain ⟨⟨⟨u1, u2⟩, li⟩, lj⟩ := hc
        have AA := Adv.trans w w1 A1 A2
        have ww := OkW.trans w1 A2 w2
        have r1' := r1.over w1 A2
        rw [List.append_assoc] at AA ww
        -- the second one first
        have step2 : ∃ (av3 : Addr → Prop) (R : List Addr), Adv av H own av3 H2 (fp1 ++ (R ++ own2)) ∧ OkW av3 H2 (fp1 ++ (R ++ own2)) ∧ (∀ a, av3 a → av2 a) ∧ SR X.K av3 H2 (some v2) (zO zj o2) R := by
          cases zj with
          | false => exact ⟨av2, fp2, AA, ww, fun _ h => h, r2⟩
          | true =>
            have mm : ∀ a, a ∈ fp1 ++ own2 → a ∈ fp1 ++ (fp2 ++ own2) := fun a m => by
              rcases List.mem_append.mp m with m | m <;> simp [m]
            have sb : ∀ a, drp av own (fp1 ++ own2) a → av2 a := fun a z => (AA.av_ a).mpr (z.elim .inl fun z => .inr (mm a z))
            have nd := ww.nodup
            simp only [List.nodup_append, List.mem_append] at nd
            refine ⟨drp av own (fp1 ++ own2), [], ⟨fun _ => Iff.rfl, fun a m => AA.fresh a (mm a m), AA.ext, AA.there⟩, ⟨?_, fun a m => .inr m, fun a m => ww.dom a (sb a m)⟩, sb, .d (r2.frozen u2 sb fun a m z => ?_)⟩
            · show (fp1 ++ own2).Nodup
              rw [List.nodup_append]
              exact ⟨nd.1, nd.2.1.2.1, fun a ha b hb => nd.2.2 a ha b (.inr hb)⟩
            · rcases z with z | z
              · rcases AA.fresh a (by simp [m]) with q | q
                · exact z.2 q
                · have := w.dom a z.1
                  rw [q] at this; cases this
              · rcases List.mem_append.mp z with z | z
                · exact nd.2.2 a z a (.inl m) rfl
                · exact w2.apart a m z
        obtain ⟨av3, R, A3, w3, sb3, r3⟩ := step2
        have s3 := s2.grow (σ := σ) (env := env2) (Grow.refl _) sb3
        have r1'' : SR X.K av3 H2 (some v1) o1 fp1 := r1'.keep (.grow (Grow.refl _) sb3) fun _ _ _ e => e
        obtain ⟨av4, own4, A4, w4, sb4, s4⟩ := Slots.putT A3 w3 s3 lj r3
        have r1''' : SR X.K av4 H2 (some v1) o1 fp1 := r1''.keep (.grow (Grow.refl _) sb4) fun _ _ _ e => e
        have lj' : i < (env2.set j (zO zj o2)).length := by rw [List.length_set]; exact li
        have fin : ∃ (av5 : Addr → Prop) (own5 : List Addr), Adv av H own av5 H2 own5 ∧ OkW av5 H2 own5 ∧ Slots X.K av5 H2 ((σ.set j (some v2)).set i (some v1)) ((env2.set j (zO zj o2)).set i (zO zi o1)) own5 := by
          cases zi with
          | false => exact s4.put A4 w4 lj' r1'''
          | true =>
            obtain ⟨t1, t2, t3, t4⟩ := thaw w A4 w4 r1''' u1
            exact Slots.put (fp := []) t1 t2 (s4.grow (σ := σ.set j (some v2)) (env := env2.set j (zO zj o2)) (Grow.refl _) t3) lj' t4
        obtain ⟨av5, own5, A5, w5, s5⟩ := fin
        rw [List.set_comm _ _ (Ne.symm hij), List.set_comm _ _ (Ne.symm hij)] at s5
        exact h _ H2 av5 own5 ((Pn.set hpi).trans (Pn.set hpj)) A5 w5 s5
theorem asgZ_ok {K : PySem.W.Frag} {mg : Str → Option Value} {i : Nat} {fe : Fe} {G : Ends} {σ : L2.St} {H : Hp} (hp : pn.contains i = false) (h : tS K mg W pn (asgZ i fe) G σ H) : tOf K mg W fe σ H fun x H1 => G.nx (σ.set i (some x)) H1 := by
  obtain ⟨env, av, own, hs, w, h⟩ := h
  refine ⟨env, av, own, hs, w, ?_⟩
  unfold asgZ at h
  cases q : fe env with
  | st => rw [q] at h; exact h
  | ex c x e => rw [q] at h; exact SPost.exc h
  | ok p =>
    obtain ⟨o, env1⟩ := p
    rw [q] at h
    intro v H1 av1 fp own1 A w1 hr hs1
    have h' : SPost K mg W pn av H own σ G (if o.isUn then .st else if i < env1.length then .nx (env1.set i (.d o.toD)) else .st) := h
    cases hu : o.isUn with
    | true => rw [hu, if_pos rfl] at h'; exact h'.elim
    | false =>
      rw [hu, if_neg Bool.false_ne_true] at h'
      by_cases hl : i < env1.length
      · rw [if_pos hl] at h'
        obtain ⟨t1, t2, t3, t4⟩ := thaw w A w1 hr hu
        obtain ⟨av2, own2, A2, w2, s2⟩ := Slots.put (fp := []) t1 t2 (hs1.grow (σ := σ) (env := env1) (Grow.refl _) t3) hl t4
        exact h' _ H1 av2 own2 (Pn.set hp) A2 w2 s2
      · rw [if_neg hl] at h'
        exact h'.elim
theorem s_setLcZ {i : Nat} {y : Str} {py : Pos} {elt tg iter : Expr} {ifs : List Expr} {scope : Scope} {own : List (Str × Nat)} {spos : Pos} {pn pm vs : List Nat} {src : Fi} {tgt : Fg} {test : Ft} {fe : Fe} (hc : X.calm = true) (hN : X.N.Nodup) (hy : X.N[i]? = some y) (hyl : X.env.scope.names.lookup y = some .local) (hp : pm.contains i = false)
    (hsw : swapsWith (.ListComp elt [⟨tg, iter, ifs, 0⟩] scope pos) (some (.Name y py)) spos.line X.env = pure true) (hi : VI X W tg iter src) (ok : BlkOk X.N X.env.scope scope own)
    (hg : ∀ (s : Shared) (H : Hp) (C : Addr) (cl : List (Str × Addr)) (fp : List Addr), VG (X.blk s H scope (compEnvC scope cl C X.env) fp) pn tg tgt) (ht : ∀ (s : Shared) (H : Hp) (C : Addr) (cl : List (Str × Addr)) (fp : List Addr), VTs (X.blk s H scope (compEnvC scope cl C X.env) fp) ifs test)
    (he : ∀ (s : Shared) (H : Hp) (C : Addr) (cl : List (Str × Addr)) (fp : List Addr), VE (X.blk s H scope (compEnvC scope cl C X.env) fp) W0 elt fe) (hv : own.map (·.2) = vs) (nd : vs.Nodup) (hpn : (List.range X.N.length).all (fun i => vs.contains i || pn.contains i) = true) (hs : ∀ x, foldedSetIterable iter X.env x = pure x := by intro _; rfl) :
    VS X W pm (.Assign [.Name y py] (.ListComp elt [⟨tg, iter, ifs, 0⟩] scope pos) spos) (asgZ i (lcE vs src tgt test fe)) := by
  subst hv
  have base := ps_setLc (wi := tI X.K X.mg W src) (g := tG X.K pn tgt) (tt := tTs X.K X.mg W0 test) (te := tOf X.K X.mg W0 fe) hc hN hy hyl hsw hi ok hg ht he hs
  refine ⟨fun pins s σ H G I h => base.run pins s σ H G I ?_⟩
  show tLc (tI X.K X.mg W src) (tG X.K pn tgt) (tTs X.K X.mg W0 test) (tOf X.K X.mg W0 fe) (own.map (·.2)) σ H fun x H1 => G.nx (σ.set i (some x)) H1
  refine lc_ok nd I.len (fun i hi => ?_) (asgZ_ok hp h)
  have := List.all_eq_true.mp hpn i (List.mem_range.mpr hi)
  rw [Bool.or_eq_true, List.contains_iff_mem, List.contains_iff_mem] at this
  exact this
end

/-- a def of the text, as it stands behind the top -/
structure Fnt (K : PySem.W.Frag) (mg : Str → Option Value) (x : Str) (st : Stmt) (ps : List Str) where
  f : Addr
  fd : FuncData
  F : Fun K x x st f fd
  b : Binds K fd ps []
  g : mg x = some (.ref f)
theorem fn_st {P : Program} {w : World} {K : PySem.W.Frag} {mg : Str → Option Value} {base : Heap} {k : Nat} {f : Addr} {fd : FuncData} {ps : List Str} : FnV P w K mg base k f fd ps fun _ => .st :=
  ⟨fun vs H Q E h => h.1, fun A outer s H args us vs Q E hr e0 hb hv h => by
    obtain ⟨_, _, _, _, _, _, h⟩ := h
    exact h.elim⟩
theorem Room.units65 {k : Nat} {A : Around} (r : Room k A) : A.units + 65 < cLine := by have := r.un; omega
theorem law_sp {K : PySem.W.Frag} {mg : Str → Option Value} {F : Fe} {n : Nat} (hF : ∀ ns : List Int, ns.length ≤ n → ∃ outs, F [.d (.scr (ns.map D.int))] = .ok (.d (.bl true), outs)) {H : Hp} {a : Addr} {ns : List Int} (hl : ns.length ≤ n) (hS : SqL K H a (ns.map V.int)) :
    spF K mg 1 F [.ref a] H (fun v _ => v = .bl true) fun _ _ _ => False := by
  obtain ⟨outs, e⟩ := hF ns hl
  refine ⟨rfl, [.d (.scr (ns.map D.int))], fun _ => False, [], ?_, ⟨List.nodup_nil, fun _ h => (nomatch h), fun _ h => h.elim⟩, ?_⟩
  · refine Slots.cons (fp := []) (.d ?_) .nil
    rcases hS with h | h
    · exact .scr (fun z => z) h (RDs.ofInts ns)
    · exact .kscr h (RDs.ofInts ns)
  · rw [e]
    intro v H' av' fp own' A w r s
    cases r with | d r =>
      cases r
      rfl
end VL

set_option Elab.async false
set_option linter.all false
set_option maxRecDepth 100000
namespace VL
open PySem PySem.Spec PyProof.Rows L2

def noE : Fe := fun _ => .st
def noT : Ft := fun _ => .st
def noS : Fs := fun _ => .st
section
variable {X : Cx} {W : WX} {pn : List Nat}
theorem v_dead {e : Expr} : VE X W e noE := ⟨fun pins s σ H Q I h => by
  obtain ⟨_, _, _, _, _, h⟩ := h
  exact h.elim⟩
theorem t_dead {e : Expr} : VT X W e noT := ⟨fun pins s σ H Q I h => by
  obtain ⟨_, _, _, _, _, h⟩ := h
  exact h.elim⟩
theorem s_dead {s : Stmt} : VS X W pn s noS := ⟨fun pins s σ H Q I h => by
  obtain ⟨_, _, _, _, _, h⟩ := h
  exact h.elim⟩
theorem b_dead {s : List Stmt} : VB X W pn s noS := ⟨fun pins s σ H Q I h => by
  obtain ⟨_, _, _, _, _, h⟩ := h
  exact h.elim⟩
end

def isBD (x y : D) : Option O := match x, y with
  | .bl a, .bl b => some (.d (.bl (decide (a = b))))
  | _, _ => none
def notBD (x y : D) : Option O := match x, y with
  | .bl a, .bl b => some (.d (.bl (!decide (a = b))))
  | _, _ => none
section
variable {X : Cx}
theorem op_isBD : OpR X (compareOp .Is) (RB X.K isBD) := by
  refine opR_sane op_isBl fun x y H Q sn h => ?_
  obtain ⟨av, dx, dy, dm, h1, h2, f⟩ := h
  unfold isBD at f
  split at f
  · rw [h1.bl, h2.bl]
    exact ⟨_, _, rfl, rfl, f.bl⟩
  · exact f.elim
theorem op_notBD : OpR X (compareOp .IsNot) (RB X.K notBD) := by
  refine opR_sane op_notBl fun x y H Q sn h => ?_
  obtain ⟨av, dx, dy, dm, h1, h2, f⟩ := h
  unfold notBD at f
  split at f
  · rw [h1.bl, h2.bl]
    exact ⟨_, _, rfl, rfl, f.bl⟩
  · exact f.elim
end

def enumL : Nat → List D → List D
  | _, [] => []
  | i, d :: ds => .tup [.int (i : Nat), d] :: enumL (i + 1) ds
theorem enumL_length : ∀ (ds : List D) (i : Nat), (enumL i ds).length = ds.length
  | [], _ => rfl
  | d :: ds, i => by
    unfold enumL
    rw [List.length_cons, List.length_cons, enumL_length ds]
theorem enumL_get : ∀ (ds : List D) (i j : Nat) (d : D), (enumL i ds)[j]? = some d → ∃ e, ds[j]? = some e ∧ d = .tup [.int ((i + j : Nat) : Int), e]
  | [], _, _, _, h => by
    unfold enumL at h
    simp at h
  | e :: ds, i, 0, d, h => by
    unfold enumL at h
    simp only [List.getElem?_cons_zero, Option.some.injEq] at h
    exact ⟨e, rfl, h.symm⟩
  | e :: ds, i, j + 1, d, h => by
    unfold enumL at h
    simp only [List.getElem?_cons_succ] at h ⊢
    obtain ⟨e2, h1, h2⟩ := enumL_get ds (i + 1) j d h
    exact ⟨e2, h1, by rw [h2, show i + 1 + j = i + (j + 1) by omega]⟩
def zipLD : List D → List D → List D
  | x :: xs, y :: ys => .tup [x, y] :: zipLD xs ys
  | _, _ => []
theorem zipLD_length : ∀ (xs ys : List D), (zipLD xs ys).length = min xs.length ys.length
  | [], ys => by simp [zipLD]
  | x :: xs, [] => by simp [zipLD]
  | x :: xs, y :: ys => by simp [zipLD, zipLD_length xs ys]
theorem zipLD_get : ∀ (xs ys : List D) (j : Nat) (d : D), (zipLD xs ys)[j]? = some d → ∃ x y, xs[j]? = some x ∧ ys[j]? = some y ∧ d = .tup [x, y]
  | [], ys, j, d, h => by simp [zipLD] at h
  | x :: xs, [], j, d, h => by simp [zipLD] at h
  | x :: xs, y :: ys, 0, d, h => by
    simp [zipLD] at h
    exact ⟨x, y, rfl, rfl, h.symm⟩
  | x :: xs, y :: ys, j + 1, d, h => by
    simp [zipLD] at h
    obtain ⟨a, b, h1, h2, h3⟩ := zipLD_get xs ys j d h
    exact ⟨a, b, by simpa using h1, by simpa using h2, h3⟩
def enumD : List D → Option (List D)
  | [d] => d.seqL.map (enumL 0)
  | _ => none
def zipD : List D → Option (List D)
  | [d, e] => match d.seqL, e.seqL with
    | some xs, some ys => some (zipLD xs ys)
    | _, _ => none
  | _ => none
def anyLD : List D → Option (List D)
  | [.str x] => some (x.cps.toList.map fun c => D.str ⟨#[c]⟩)
  | [d] => d.seq
  | _ => none
section
variable {K : PySem.W.Frag} {mg : Str → Option Value} {W : WX} {av av1 : Addr → Prop} {H H1 : Hp} {own own1 t : List Addr} {σ : L2.St}
/-- a list or the script stands as it is -/
theorem seqL_stable {v : V} {d : D} {ds : List D} (h : RD K av H v d) (e : d.seqL = some ds) : ∃ a vs, v = .ref a ∧ RDs K av H vs ds ∧ SqL K H a vs ∧ ∀ av' H', Keep av av' H H' → SqL K H' a vs := by
  cases d <;> simp only [D.seqL, Option.some.injEq, reduceCtorEq] at e <;> subst e
  · cases h with | lst n e r => exact ⟨_, _, rfl, r, SqL.of e, fun av' H' k => SqL.of (k.at_ _ _ n e)⟩
  · cases h with
    | scr n e r => exact ⟨_, _, rfl, r, .inl e, fun av' H' k => .inl (k.rd n e).2⟩
    | kscr e r => exact ⟨_, _, rfl, r, .inr e, fun av' H' k => .inr e⟩
theorem tup_new {av : Addr → Prop} {H : Hp} {T : Addr} {vs : List V} {ds : List D} (dm : Dom av H) (hn : H T = none) (r : RDs K av H vs ds) : Grow H (upd H T (.tup vs)) ∧ RD K av (upd H T (.tup vs)) (.ref T) (.tup ds) := by
  have g : Grow H (upd H T (.tup vs)) := Grow.new hn
  refine ⟨g, .tup (fun q => ?_) upd_same (r.keep (.grow g fun _ z => z))⟩
  have := dm T q
  rw [hn] at this
  cases this
theorem yields_enum {v : V} {d : D} {ds : List D} (h : RD K av H v d) (e : d.seqL = some ds) : ∃ a, v = .ref a ∧ (∃ vs, SqL K H a vs) ∧ Yields K av H (Ite K a) (enumL 0 ds) := by
  obtain ⟨a, vs, rfl, r, h0, st⟩ := seqL_stable h e
  refine ⟨a, rfl, ⟨vs, h0⟩, fun av' H' k i hi => ?_, fun av' H' k dm i x H'' d hd y => ?_, fun av' H' k => ?_⟩
  · rw [enumL_length] at hi
    obtain ⟨v, e, _⟩ := r.getD (List.getElem?_eq_getElem hi)
    exact ⟨vs, v, st av' H' k, e⟩
  · obtain ⟨T, x1, rfl, hn, rfl, y⟩ := y
    obtain ⟨d1, e1, rfl⟩ := enumL_get ds 0 i d hd
    obtain ⟨v, e, q⟩ := r.getD e1
    have e2 := y vs (st av' _ k)
    rw [e] at e2
    cases e2
    rw [Nat.zero_add]
    exact tup_new dm hn (.cons (.int _) (.cons (q.keep k) .nil))
  · exact ⟨vs, st av' H' k, by rw [enumL_length, r.length]; exact Nat.le_refl _⟩
theorem yields_zip {v v2 : V} {d d2 : D} {ds ds2 : List D} (h : RD K av H v d) (e : d.seqL = some ds) (h2 : RD K av H v2 d2) (e2 : d2.seqL = some ds2) :
    ∃ a b, v = .ref a ∧ v2 = .ref b ∧ (∃ vs, SqL K H a vs) ∧ (∃ vs, SqL K H b vs) ∧ Yields K av H (Itz K a b) (zipLD ds ds2) := by
  obtain ⟨a, vs, rfl, r, h0, st⟩ := seqL_stable h e
  obtain ⟨b, ws, rfl, r2, h02, st2⟩ := seqL_stable h2 e2
  refine ⟨a, b, rfl, rfl, ⟨vs, h0⟩, ⟨ws, h02⟩, fun av' H' k i hi => ?_, fun av' H' k dm i x H'' d hd y => ?_, fun av' H' k => ?_⟩
  · rw [zipLD_length] at hi
    obtain ⟨v, e, _⟩ := r.getD (List.getElem?_eq_getElem (show i < ds.length by omega))
    obtain ⟨v2, e2, _⟩ := r2.getD (List.getElem?_eq_getElem (show i < ds2.length by omega))
    exact ⟨vs, ws, v, v2, st av' H' k, st2 av' H' k, e, e2⟩
  · obtain ⟨T, x1, x2, rfl, hn, rfl, y, y2⟩ := y
    obtain ⟨d1, d2, e1, e2, rfl⟩ := zipLD_get ds ds2 i d hd
    obtain ⟨v, f1, q1⟩ := r.getD e1
    obtain ⟨v2, f2, q2⟩ := r2.getD e2
    have g1 := y vs (st av' _ k)
    have g2 := y2 ws (st2 av' _ k)
    rw [f1] at g1
    rw [f2] at g2
    cases g1
    cases g2
    exact tup_new dm hn (.cons (q1.keep k) (.cons (q2.keep k) .nil))
  · refine ⟨vs, ws, st av' H' k, st2 av' H' k, ?_⟩
    rw [zipLD_length, r.length, r2.length]
    omega
theorem yields_str {x : Str} : Yields K av H (Its x) (x.cps.toList.map fun c => D.str ⟨#[c]⟩) where
  go := fun av' H' k i hi => by
    rw [List.length_map, Array.length_toList] at hi
    exact hi
  yld := fun av' H' k dm i v H'' d hd y => by
    obtain ⟨rfl, c, hc, rfl⟩ := y
    refine ⟨Grow.refl _, ?_⟩
    rw [List.getElem?_map] at hd
    rw [Array.getElem?_toList] at hd
    rw [hc] at hd
    cases hd
    exact .str _
  stop := fun av' H' k => by
    show _ ≤ _
    rw [List.length_map]
    simp
end
section
variable {X : Cx} {W : WX} {pos : Pos} {e e2 tg : Expr} {o o2 : Opd}
theorem i_enum {p tpos : Pos} {elts : List Expr} {kk : Nat} {os : List Opd} (hg : Gl X "enumerate") (hm : X.mg "enumerate" = none) (h : VA X W [e] os) (hs : starEach [e] X.env = [(false, eval e X.env)] := by rfl) :
    VI X W (.Tuple elts kk tpos) (.Call (.Name "enumerate" p) [e] [] pos) (srcC enumD os) := by
  refine pi_imp (pi_enum hg hm h hs) fun σ H R h => tArg_mono (fun vs H1 h => ?_) (srcC_ok h)
  obtain ⟨av1, l, ds, dm, r, hg, k⟩ := h
  unfold enumD at hg
  split at hg
  · cases r with | cons r rr =>
      cases rr
      rename_i d v
      cases q : d.seqL with
      | none => rw [q] at hg; cases hg
      | some xs =>
        rw [q] at hg
        cases hg
        obtain ⟨a, rfl, ⟨vs, h1⟩, Y⟩ := yields_enum r q
        exact ⟨a, vs, rfl, h1, k _ Y⟩
  · cases hg
theorem i_zip {p tpos : Pos} {elts : List Expr} {kk : Nat} {os : List Opd} (hg : Gl X "zip") (hm : X.mg "zip" = none) (h : VA X W [e, e2] os) (hs : starEach [e, e2] X.env = (false, eval e X.env) :: starEach [e2] X.env := by rfl) (hpl : (backTo pos (starEach [e2] X.env)).any (·.1) = false := by rfl) :
    VI X W (.Tuple elts kk tpos) (.Call (.Name "zip" p) [e, e2] [] pos) (srcC zipD os) := by
  refine pi_imp (pi_zip hg hm h hs hpl) fun σ H R h => tArg_mono (fun vs H1 h => ?_) (srcC_ok h)
  obtain ⟨av1, l, ds, dm, r, hg, k⟩ := h
  unfold zipD at hg
  split at hg
  · cases r with | cons r rr =>
      cases rr with | cons r2 rr =>
        cases rr
        split at hg
        · rename_i q1 q2
          cases hg
          obtain ⟨a, b, rfl, rfl, ⟨vs, h1⟩, ⟨ws, h2⟩, Y⟩ := yields_zip r q1 r2 q2
          exact ⟨a, b, vs, ws, rfl, h1, h2, k _ Y⟩
        · cases hg
  · cases hg
/-- over a list, a tuple or a text, whichever it is -/
def iAny (K : PySem.W.Frag) (tl : TE) : TI := fun σ H R => tl σ H fun x H1 => (∃ a, x = .ref a ∧ (∃ xs, SqL K H1 a xs) ∧ R (Itl K a) H1) ∨ (∃ a, x = .ref a ∧ (∃ xs, SqT K H1 a xs) ∧ R (Itt K a) H1) ∨ ∃ y, x = .str y ∧ R (Its y) H1
theorem pi_any {l : Expr} {tl : TE} (hl : PE X l tl) : PI X tg l (iAny X.K tl) := by
  refine ⟨fun pins s σ H R I h => ?_⟩
  refine thn (hl.run pins s σ H _ I h) fun v s1 ⟨x, H1, I1, r1, q1⟩ => ?_
  rcases q1 with ⟨a, e, ⟨xs, hq⟩, q⟩ | ⟨a, e, ⟨xs, hq⟩, q⟩ | ⟨y, e, q⟩
  · subst e
    cases r1
    obtain ⟨its, rv, p, hz⟩ := I1.list hq
    refine wpAny_pyIter_list p.isList ?_
    refine ⟨s1.heap.objs.size, [s1.heap.objs.size], _, _, H1, rfl, I1.kept (t' := s1.toks) fun b o e => Heap.get?_push_of_some _ e, turn_list a _, ⟨_, Heap.get?_push_size _ rfl, rfl, rfl⟩, fun b hb => ?_, q⟩
    have e : b = s1.heap.objs.size := by simpa using hb
    subst e
    exact I1.fpOk (Nat.le_refl _) (I1.hok.fresh (Nat.le_refl _))
  · subst e
    cases r1
    obtain ⟨its, rv, p, hz⟩ := I1.tuple hq
    refine wpAny_pyIter_tuple (show s1.heap.IsTuple a its.toArray from p) ?_
    refine ⟨s1.heap.objs.size, [s1.heap.objs.size], _, _, H1, rfl, I1.kept (t' := s1.toks) fun b o e => Heap.get?_push_of_some _ e, turn_tuple a _, ⟨_, Heap.get?_push_size _ rfl, rfl, rfl⟩, fun b hb => ?_, q⟩
    have e : b = s1.heap.objs.size := by simpa using hb
    subst e
    exact I1.fpOk (Nat.le_refl _) (I1.hok.fresh (Nat.le_refl _))
  · subst e
    obtain ⟨t, rfl⟩ := r1
    cases ha : y.cps.all (· < 128)
    · exact wpAny_pyIter_wide ha (pi_one (tk := s1.toks) I1 _ (turn_str _ y t "str_iterator" (.inr rfl)) ⟨_, Heap.get?_push_size _ rfl, rfl, rfl⟩ q)
    · exact wpAny_pyIter_ascii ha (pi_one (tk := s1.toks) I1 _ (turn_str _ y t "str_ascii_iterator" (.inl rfl)) ⟨_, Heap.get?_push_size _ rfl, rfl, rfl⟩ q)
theorem i_any (h : VO X W e o) : VI X W tg e (srcC anyLD [o]) := by
  refine pi_imp (pi_any h) fun σ H R h => tOpd_mono (fun x H1 h => ?_) (srcC_ok h)
  obtain ⟨av1, l, ds, dm, r, hg, k⟩ := h
  cases r with | cons r rr =>
    cases rr
    rename_i d
    have lst : ∀ {xs : List D}, d.seqL = some xs → xs = ds → (∃ a, x = .ref a ∧ (∃ xs, SqL X.K H1 a xs) ∧ R (Itl X.K a) H1) ∨ (∃ a, x = .ref a ∧ (∃ xs, SqT X.K H1 a xs) ∧ R (Itt X.K a) H1) ∨ ∃ y, x = .str y ∧ R (Its y) H1 := fun q e => by
      subst e
      obtain ⟨a, rfl, h1, Y⟩ := yields_seqL r q
      exact .inl ⟨a, rfl, h1, k _ Y⟩
    cases d <;> first | (exact lst rfl (Option.some.inj hg)) | skip
    case str =>
      cases hg
      cases r
      exact .inr (.inr ⟨_, rfl, k _ yields_str⟩)
    case tup =>
      cases hg
      obtain ⟨a, rfl, h1, Y⟩ := yields_tup r
      exact .inr (.inl ⟨a, rfl, h1, k _ Y⟩)
    all_goals cases hg
end

def selA (sel : List Nat) (l : Ev) : Ev := sel.map fun i => l.getD i .un
def callKE (F : Fe) (sel : List Nat) (as : List Opd) : Fe := fun env => (evA as env).bind fun p => if dataOk none p.1 p.2 then
  (match F (selA sel (argsOf none p.1 p.2)) with
    | .ok q => .ok (q.1, p.2)
    | .ex c x _ => .ex c x p.2
    | .st => .st) else .st
def selV {α : Type} (n m : Nat) (sel : List Nat) (d : α) (vs zs : List α) : List α := if vs.length = n ∧ zs.length = m then sel.map fun i => (vs ++ zs).getD i d else []
section
variable {K : PySem.W.Frag} {mg : Str → Option Value} {W : WX} {av av' av1 av2 av3 : Addr → Prop} {H H' H1 H2 H3 : Hp} {own own' own1 own2 fp t c c' : List Addr} {σ : L2.St} {env : Ev}
theorem sel_slots {vs : List V} {args : Ev} (h : Slots K av H (vs.map some) args []) : ∀ (sel : List Nat), (∀ i ∈ sel, i < vs.length) → Slots K av H ((sel.map fun i => vs.getD i .non).map some) (selA sel args) []
  | [], _ => .nil
  | i :: sel, hs => by
    have hi : i < vs.length := hs i List.mem_cons_self
    have hl : vs.length = args.length := by
      have := h.length
      rw [List.length_map] at this
      exact this
    obtain ⟨s, fp, e1, e2, e3⟩ := h.get (i := i) (o := args.getD i .un) (by
      rw [List.getD_eq_getElem?_getD, List.getElem?_eq_getElem (show i < args.length by omega)]
      rfl)
    have e4 : fp = [] := by
      cases fp with
      | nil => rfl
      | cons a r => cases e3 a List.mem_cons_self
    subst e4
    rw [List.getElem?_map, List.getElem?_eq_getElem hi] at e1
    cases e1
    have e5 : vs.getD i .non = vs[i] := by
      rw [List.getD_eq_getElem?_getD, List.getElem?_eq_getElem hi]
      rfl
    have z := sel_slots h sel fun j hj => hs j (List.mem_cons_of_mem _ hj)
    have e2' : SR K av H (some (vs.getD i .non)) (args.getD i .un) [] := by
      rw [e5]
      exact e2
    exact Slots.cons (fp := []) e2' z
theorem tArg_append : ∀ (os ps : List Opd) {H : Hp} {Q : List V → Hp → Prop}, tArg K mg W (os ++ ps) σ H Q → tArg K mg W os σ H fun vs H1 => tArg K mg W ps σ H1 fun zs H2 => Q (vs ++ zs) H2
  | [], ps, H, Q, h => h
  | o :: os, ps, H, Q, h => tOpd_mono (o := o) (fun x H1 h => tArg_append os ps h) h
theorem tArg_len : ∀ (os : List Opd) {H : Hp} {Q : List V → Hp → Prop}, tArg K mg W os σ H Q → tArg K mg W os σ H fun vs H1 => vs.length = os.length ∧ Q vs H1
  | [], H, Q, h => ⟨rfl, h⟩
  | o :: os, H, Q, h => tOpd_mono (o := o) (fun x H1 h => tArg_mono (fun xs H2 h => ⟨congrArg Nat.succ h.1, h.2⟩) (tArg_len os h)) h
theorem callK_ok {n : Nat} {F : Fe} {sel : List Nat} {as : List Opd} {Q : VK} (hn : sel.length = n) (hm : ∀ i ∈ sel, i < as.length) (h : tOf K mg W (callKE F sel as) σ H Q) :
    tArg K mg W as σ H fun vs H1 => vs.length = as.length ∧ spF K mg n F (sel.map fun i => vs.getD i .non) H1 Q fun cls d H' => W cls d σ H' := by
  obtain ⟨env, av, own, hs, w, h⟩ := h
  refine args_ok as hs w ?_
  unfold callKE at h
  cases q : evA as env with
  | st => rw [q] at h; exact h
  | ex c x e => rw [q] at h; exact h
  | ok p =>
    obtain ⟨l, env'⟩ := p
    have hl := evA_length q
    rw [q] at h
    intro vs H1 av1 t own1 A w1 ha hs1
    have hvn : vs.length = as.length := by rw [ha.len, hl]
    refine ⟨hvn, ?_⟩
    have h' : EPost K mg W av H own σ Q (if dataOk none l env' then (match F (selA sel (argsOf none l env')) with
      | .ok q => .ok (q.1, env')
      | .ex c x _ => .ex c x env'
      | .st => .st) else .st) := h
    cases hg : dataOk none l env' with
    | false => rw [hg, if_neg Bool.false_ne_true] at h'; exact h'.elim
    | true =>
      rw [hg, if_pos rfl] at h'
      have out : ∀ a, a ∈ t → ¬ drp av own own1 a := fun a m z => by
        rcases z with z | z
        · rcases A.fresh a (List.mem_append_left _ m) with q | q
          · exact z.2 q
          · have := w.dom a z.1
            rw [q] at this; cases this
        · exact w1.apart a m z
      exact call_tmp (c := []) w A w1 hs1 (by rw [List.length_map, hn]) (List.nil_sublist t) (sel_slots (args_none (av' := drp av own ([] ++ own1)) hs1 (drp_sub A) ha hg out) sel fun i hi => by rw [hvn]; exact hm i hi) h'
end
theorem vals_getD {vs : List V} {us : List Value} (h : Vals vs us) (i : Nat) : RelV (vs.getD i .non) (us.getD i .none) := by
  rw [List.getD_eq_getElem?_getD, List.getD_eq_getElem?_getD]
  cases e : vs[i]? with
  | none =>
    have : us[i]? = none := by
      rw [List.getElem?_eq_none_iff] at e ⊢
      rw [← h.length]
      exact e
    rw [this]
    rfl
  | some v =>
    obtain ⟨u, e2, r⟩ := h.get e
    rw [e2]
    exact r
theorem vals_sel {vs : List V} {us : List Value} (h : Vals vs us) : ∀ sel : List Nat, Vals (sel.map fun i => vs.getD i .non) (sel.map fun i => us.getD i .none)
  | [] => .nil
  | i :: sel => .cons (vals_getD h i) (vals_sel h sel)
theorem Fun.kbinds {K : PySem.W.Frag} {x qual : Str} {st : Stmt} {f : Addr} {fd : FuncData} {ps ks : List Str} (n : Nat) (sel : List Nat) (F : Fun K x qual st f fd) (hp : ps ≠ [])
    (h : ∀ (kV doc pm : Value) (an : Option Addr) (cdv ct : Value) (us ws : List Value), us.length = n → ws.length = ks.length →
      bindArgs (PySem.W.fnOf x qual (defArgs st) (defBody st) (defScope st) .none kV doc pm an cdv ct) ⟨us, ks.zip ws⟩ = pure (ps.zip (sel.map fun i => (us ++ ws).getD i .none))) :
    KBinds K fd ps ks (selV n ks.length sel .none) (selV n ks.length sel .non) := by
  obtain ⟨oc, od, kV, doc, pm, an, cdv, ct, osl, rfl, lk, hcd⟩ := F.ex
  refine ⟨fun s us ws _ hl => ?_, fun {vs us zs ws} r1 r2 => ?_⟩
  · unfold selV at hl ⊢
    by_cases q : us.length = n ∧ ws.length = ks.length
    · rw [if_pos q]
      exact .of_eq (h kV doc pm an cdv ct us ws q.1 q.2)
    · rw [if_neg q] at hl
      cases ps with
      | nil => exact absurd rfl hp
      | cons _ _ => cases hl
  · unfold selV
    rw [r1.length, r2.length]
    split
    · exact vals_sel (r1.append r2) sel
    · exact .nil
section
variable {X : Cx} {W : WX} {pos p : Pos} {e : Expr} {es : List Expr} {os ok : List Opd} {x : Str} {kws : List Keyword} {ks : List Str}
abbrev VK' (X : Cx) (W : WX) (kws : List Keyword) (os : List Opd) : Prop := PK X kws (tArg X.K X.mg W os)
theorem vk_nil : VK' X W [] [] := pk_nil
theorem vk_cons {o : Opd} {nm : Option Str} {kpos : Pos} (ha : VO X W e o) (hr : VK' X W kws os) : VK' X W (⟨nm, e, kpos⟩ :: kws) (o :: os) := pk_cons ha hr
theorem run_fnkS {CX : CXT} {k : Nat} {f : Addr} {fd : FuncData} {ps : List Str} {sp : Sp} {E : L2.St → XK} {g : List Value → List Value → List Value} {gV : List V → List V → List V} {pins : List (Addr × Obj)} {σ : L2.St} {H : Hp} {s : Shared} {Q : VK} {us ws : List Value} {vs zs : List V}
    (F : FnOk X.prog X.w X.K X.mg X.base CX k f fd ps sp) (hr : Room k X.A) (hb : KBinds X.K fd ps ks g gV) (hx : PassesAt CX X σ (E σ))
    (I : Inv X pins σ H s) (r : Vals vs us) (rz : Vals zs ws) (h : sp (gV vs zs) H Q (E σ)) : wpAny (model X.prog X.w) X.A (call (.ref f) us (ks.zip ws)) (EP X pins σ Q) X.xe s := by
  have r2 := hb.rel r rz
  have hl : (g us ws).length = ps.length := by rw [← r2.length]; exact F.len _ _ _ _ h
  refine wpAny_call (codeAny_mono (F.run X.A X.stack s H ⟨us, ks.zip ws⟩ (g us ws) (gV vs zs) Q (E σ) hr I.env0 (hb.to s us ws I.kIn hl) r2 h) fun r s' hq => ?_)
  cases r with
  | error e => exact hx pins H s e s' I hq
  | ok fl =>
    cases fl with
    | ret u => exact I.after hq
    | next => exact False.elim hq
    | brk => exact False.elim hq
    | cont => exact False.elim hq
/-- f(e, .., k = v, ..) -/
theorem v_callK {k : Nat} {f : Addr} {fd : FuncData} {ps : List Str} {F : Fe} (sel : List Nat) (hF : FnV X.prog X.w X.K X.mg X.base k f fd ps F) (hr : Room k X.A) (hg : Gl X x) (hm : X.mg x = some (.ref f)) (hk : PySem.W.keepIn X.K (.ref f) = true)
    (hb : KBinds X.K fd ps ks (selV os.length ks.length sel .none) (selV os.length ks.length sel .non)) (tk : Takes X W) (ha : VA X W (e :: es) os) (hkw : VK' X W kws ok) (hn : sel.length = ps.length := by rfl) (hsel : ∀ i ∈ sel, i < (os ++ ok).length := by decide) (hok : ok.length = ks.length := by rfl)
    (hall : (backToKw pos (keywordEach kws X.env)).all (·.1.isSome) = true := by rfl) (hks : (backToKw pos (keywordEach kws X.env)).filterMap (·.1) = ks := by rfl)
    (hdb : (x == ("__debug__" : Str)) = false := by decide) (he : starEach (e :: es) X.env = (false, eval e X.env) :: starEach es X.env := by rfl)
    (hpl : ((backTo pos (starEach (e :: es) X.env)).any (·.1) || (backToKw pos (keywordEach kws X.env)).any (·.1.isNone)) = false := by rfl) :
    VE X W (.Call (.Name x p) (e :: es) kws pos) (callKE F sel (os ++ ok)) := by
  refine ⟨fun pins s σ H Q I h => ?_⟩
  have h2 := tArg_len os (tArg_mono (fun vs H1 h => tArg_len ok h) (tArg_append os ok (callK_ok hn hsel h)))
  refine wpAny_Call_Name_kw (ld_glob I hg hm ?_ hdb)
  refine PySem.W.callWith_KW (h₀ := X.base) I.ok.mod.kin hk hall (thn (ha.run pos pins s σ H _ I h2) fun us s1 ⟨vs, H1, I1, r, l1, q⟩ => ?_) hpl he
  refine thn (hkw.run pos pins s1 σ H1 _ I1 q) fun ws s2 ⟨zs, H2, I2, rz, l2, q2⟩ => ⟨I2.kIn, ?_⟩
  rw [hks]
  refine run_fnkS (E := fun σ cls d H' => W cls d σ H') hF hr hb (passAt tk σ) I2 r rz ?_
  unfold selV
  rw [if_pos ⟨l1, l2.trans hok⟩]
  exact q2.2
/-- f(k = v, ..) -/
theorem v_callK0 {k : Nat} {f : Addr} {fd : FuncData} {ps : List Str} {F : Fe} (sel : List Nat) (hF : FnV X.prog X.w X.K X.mg X.base k f fd ps F) (hr : Room k X.A) (hg : Gl X x) (hm : X.mg x = some (.ref f)) (hk : PySem.W.keepIn X.K (.ref f) = true)
    (hb : KBinds X.K fd ps ks (selV 0 ks.length sel .none) (selV 0 ks.length sel .non)) (tk : Takes X W) (hkw : VK' X W kws ok) (hn : sel.length = ps.length := by rfl) (hsel : ∀ i ∈ sel, i < ok.length := by decide) (hok : ok.length = ks.length := by rfl)
    (hall : (backToKw pos (keywordEach kws X.env)).all (·.1.isSome) = true := by rfl) (hks : (backToKw pos (keywordEach kws X.env)).filterMap (·.1) = ks := by rfl)
    (hdb : (x == ("__debug__" : Str)) = false := by decide)
    (hpl : ((backTo pos (starEach [] X.env)).any (·.1) || (backToKw pos (keywordEach kws X.env)).any (·.1.isNone)) = false := by rfl) :
    VE X W (.Call (.Name x p) [] kws pos) (callKE F sel ok) := by
  refine ⟨fun pins s σ H Q I h => ?_⟩
  have h2 := tArg_len ok (callK_ok hn hsel h)
  refine wpAny_Call_Name_kw (ld_glob I hg hm ?_ hdb)
  refine PySem.W.callWith_KW0 (h₀ := X.base) I.ok.mod.kin hk hall (thn (hkw.run pos pins s σ H _ I h2) fun ws s2 ⟨zs, H2, I2, rz, l2, q2⟩ => ⟨I2.kIn, ?_⟩) hpl
  rw [hks]
  refine run_fnkS (E := fun σ cls d H' => W cls d σ H') hF hr hb (passAt tk σ) I2 .nil rz ?_
  unfold selV
  rw [if_pos ⟨rfl, l2.trans hok⟩]
  exact q2.2
/-- f() -/
theorem v_callN {k : Nat} {f : Addr} {fd : FuncData} {F : Fe} (hF : FnV X.prog X.w X.K X.mg X.base k f fd [] F) (hr : Room k X.A) (hg : Gl X x) (hm : X.mg x = some (.ref f)) (hk : PySem.W.keepIn X.K (.ref f) = true) (hb : Binds X.K fd [] []) (tk : Takes X W)
    (hdb : (x == ("__debug__" : Str)) = false := by decide) : VE X W (.Call (.Name x p) [] [] pos) (callE F none []) := by
  refine ⟨fun pins s σ H Q I h => ?_⟩
  have h2 := call_ok (n := 0) (m := none) (as := []) rfl (fun _ h => by cases h) h
  refine wpAny_Call_Name_kw (ld_glob I hg hm ?_ hdb)
  exact PySem.W.callWith_K0 I.kIn hk (run_fnSD (us := []) (dvs := []) hF hr hb .nil (passAt tk σ) I .nil h2)
end

def int1 {α : Type} (o : O) (k : Int → ER α) : ER α := match o with
  | .d (.int i) => k i
  | _ => .st
@[simp] theorem int1_int {α : Type} (i : Int) (k : Int → ER α) : int1 (.d (.int i)) k = k i := rfl
theorem int1_no {α : Type} {o : O} {k : Int → ER α} (h : o.isInt = false) : int1 o k = .st := by
  unfold int1
  split
  · cases h
  · rfl
def chE (p p' : Int → Int → Bool) (fa fb fc : Fe) : Fe := fun env => (fa env).bind fun a => (fb a.2).bind fun b => int1 a.1 fun i => int1 b.1 fun j =>
  if p i j then ((fc b.2).bind fun c => int1 c.1 fun k => .ok (.d (.bl (p' j k)), c.2)) else .ok (.d (.bl false), b.2)
section
variable {X : Cx} {W : WX} {pos : Pos} {a b c : Expr} {fa fb fc : Fe}
theorem ch_ok {K : PySem.W.Frag} {mg : Str → Option Value} {p p' : Int → Int → Bool} {σ : L2.St} {H : Hp} {Q : VK} (h : tOf K mg W (chE p p' fa fb fc) σ H Q) :
    tChain (rI0 fun i j => .bl (p i j)) (rI0 fun i j => .bl (p' i j)) (tOf K mg W fa) (tOf K mg W fb) (tOf K mg W fc) σ H Q := by
  obtain ⟨env, av, own, hs, w, h⟩ := h
  refine ⟨env, av, own, hs, w, ?_⟩
  unfold chE at h
  cases q : fa env with
  | st => rw [q] at h; exact h
  | ex c x e => rw [q] at h; exact h
  | ok p1 =>
    obtain ⟨o1, env1⟩ := p1
    rw [q] at h
    intro v1 H1 av1 fp1 own1 A1 w1 r1 s1
    refine ⟨env1, av1, own1, s1, w1.tail, ?_⟩
    have h : EPost K mg W av H own σ Q ((fb env1).bind fun b => int1 o1 fun i => int1 b.1 fun j =>
      if p i j then ((fc b.2).bind fun c => int1 c.1 fun k => .ok (.d (.bl (p' j k)), c.2)) else .ok (.d (.bl false), b.2)) := h
    cases q2 : fb env1 with
    | st => rw [q2] at h; exact h
    | ex c x e =>
      rw [q2] at h
      exact XPost.step w w1 A1 h
    | ok p2 =>
      obtain ⟨o2, env2⟩ := p2
      rw [q2, ER.bind_ok] at h
      intro v2 H2 av2 fp2 own2 A2 w2 r2 s2
      cases i1 : o1.isInt with
      | false => rw [int1_no i1] at h; exact h.elim
      | true =>
        obtain ⟨i, rfl⟩ := O.isInt_eq i1
        rw [int1_int] at h
        cases i2 : o2.isInt with
        | false => rw [int1_no i2] at h; exact h.elim
        | true =>
          obtain ⟨j, rfl⟩ := O.isInt_eq i2
          rw [int1_int] at h
          cases r1 with | d r1 =>
            cases r1
            cases r2 with | d r2 =>
              cases r2
              have AA : Adv av H own av2 H2 own2 := Adv.trans (t := []) (u := []) w w1 A1 A2
              have w2 : OkW av2 H2 own2 := w2
              refine ⟨i, j, rfl, rfl, p i j, rfl, ?_⟩
              cases hp : p i j with
              | false =>
                rw [hp, if_neg Bool.false_ne_true] at h
                rw [if_neg Bool.false_ne_true]
                exact h _ H2 av2 [] own2 AA w2 (.d (.bl false)) s2
              | true =>
                rw [hp, if_pos rfl] at h
                rw [if_pos rfl]
                refine ⟨env2, av2, own2, s2, w2, ?_⟩
                cases q3 : fc env2 with
                | st => rw [q3] at h; exact h
                | ex c x e =>
                  rw [q3] at h
                  exact XPost.step (t := []) w w2 AA h
                | ok p3 =>
                  obtain ⟨o3, env3⟩ := p3
                  rw [q3, ER.bind_ok] at h
                  intro v3 H3 av3 fp3 own3 A3 w3 r3 s3
                  cases i3 : o3.isInt with
                  | false => rw [int1_no i3] at h; exact h.elim
                  | true =>
                    obtain ⟨k, rfl⟩ := O.isInt_eq i3
                    rw [int1_int] at h
                    cases r3 with | d r3 =>
                      cases r3
                      exact ⟨j, k, rfl, rfl, h _ H3 av3 [] own3 (Adv.trans (t := []) (u := []) w w2 AA A3) w3 (.d (.bl _)) s3⟩
theorem v_chain {op op' : CmpOp} {p p' : Int → Int → Bool} (ho : OpR X (compareOp op) (rI0 fun i j => .bl (p i j))) (ho' : OpR X (compareOp op') (rI0 fun i j => .bl (p' i j))) (ha : VE X W a fa) (hb : VE X W b fb) (hc : VE X W c fc)
    (hm : lastMarks [op, op'] [b, c] = false := by with_unfolding_all rfl) : VE X W (.Compare a [op, op'] [b, c] pos) (chE p p' fa fb fc) :=
  pe_imp (pe_chain ho ho' ha hb hc hm) fun _ _ _ h => ch_ok h
theorem t_chain {op op' : CmpOp} {p p' : Int → Int → Bool} (ho : OpR X (compareOp op) (rI0 fun i j => .bl (p i j))) (ho' : OpR X (compareOp op') (rI0 fun i j => .bl (p' i j))) (ha : VE X W a fa) (hb : VE X W b fb) (hc : VE X W c fc)
    (hm : lastMarks [op, op'] [b, c] = false := by with_unfolding_all rfl) : VT X W (.Compare a [op, op'] [b, c] pos) (tstE (chE p p' fa fb fc)) :=
  pt_imp (pt_chain ho ho' ha hb hc hm) fun _ _ _ h => tOf_mono (fun _ _ q => q) (ch_ok (tst_ok h))
end

/-- what the law promises -/
def spT (K : PySem.W.Frag) : Sp := fun vs H Q _ => ∃ (a : Addr) (ns : List Int), vs = [.ref a] ∧ ns.length ≤ 63 ∧ SqL K H a (ns.map V.int) ∧ ∀ H', Q (.bl true) H'
theorem law_fn {P : Program} {w : World} {K : PySem.W.Frag} {mg : Str → Option Value} {base : Heap} {k : Nat} {f : Addr} {fd : FuncData} {F : Fe} (h : FnV P w K mg base k f fd ["script"] F) (hF : ∀ ns : List Int, ns.length ≤ 63 → ∃ outs, F [.d (.scr (ns.map D.int))] = .ok (.d (.bl true), outs)) :
    FnOk P w K mg base (L2.CX P w) k f fd ["script"] (spT K) := h.imp fun vs H Q E ⟨a, ns, e, hl, hS, q⟩ => by
  subst e
  obtain ⟨outs, e⟩ := hF ns hl
  refine ⟨rfl, [.d (.scr (ns.map D.int))], fun _ => False, [], ?_, ⟨List.nodup_nil, fun _ h => (nomatch h), fun _ h => h.elim⟩, ?_⟩
  · refine Slots.cons (fp := []) (.d ?_) .nil
    rcases hS with h | h
    · exact .scr (fun z => z) h (RDs.ofInts ns)
    · exact .kscr h (RDs.ofInts ns)
  · rw [e]
    intro v H' av' fp own' A w r s
    cases r with | d r =>
      cases r
      exact q H'
end VL

set_option Elab.async false
set_option linter.all false
set_option maxRecDepth 100000
namespace VL
open PySem PySem.Spec PyProof.Rows L2

def SRes.seq (r : SRes) (g : Fs) : SRes := match r with
  | .nx e => g e
  | r => r
@[simp] theorem seq_nx (e : Ev) (g : Fs) : (SRes.nx e).seq g = g e := (rfl)
@[simp] theorem seq_rt (o : O) (e : Ev) (g : Fs) : (SRes.rt o e).seq g = .rt o e := (rfl)
@[simp] theorem seq_bk (e : Ev) (g : Fs) : (SRes.bk e).seq g = .bk e := (rfl)
@[simp] theorem seq_ct (e : Ev) (g : Fs) : (SRes.ct e).seq g = .ct e := (rfl)
@[simp] theorem seq_ex (c : Str) (x : D) (e : Ev) (g : Fs) : (SRes.ex c x e).seq g = .ex c x e := (rfl)
@[simp] theorem seqS_ap (f g : Fs) (env : Ev) : seqS f g env = (f env).seq g := by
  unfold seqS
  cases f env <;> rfl
@[simp] theorem nilS_ap (env : Ev) : nilS env = .nx env := (rfl)
@[simp] theorem bkS_ap (env : Ev) : bkS env = .bk env := (rfl)
@[simp] theorem ctS_ap (env : Ev) : ctS env = .ct env := (rfl)
@[simp] theorem noS_ap (env : Ev) : noS env = .st := (rfl)
@[simp] theorem retN_ap (env : Ev) : retN env = .rt (.d .non) env := (rfl)
@[simp] theorem retS_ap (e : Fe) (env : Ev) : retS e env = (e env).then fun p => .rt p.1 p.2 := (rfl)
@[simp] theorem dropS_ap (e : Fe) (env : Ev) : dropS e env = (e env).then fun p => .nx p.2 := (rfl)
@[simp] theorem asgS_ap (i : Nat) (e : Fe) (env : Ev) : asgS i e env = (e env).then fun p => putS i p.1 p.2 := (rfl)
def putZ (i : Nat) (o : O) (env : Ev) : SRes := if o.isUn then .st else putS i (.d o.toD) env
@[simp] theorem asgZ_ap (i : Nat) (e : Fe) (env : Ev) : asgZ i e env = (e env).then fun p => putZ i p.1 p.2 := (rfl)
@[simp] theorem putZ_d (i : Nat) (x : D) (env : Ev) : putZ i (.d x) env = putS i (.d x) env := (rfl)
@[simp] theorem putZ_fl (i : Nat) (xs : List D) (env : Ev) : putZ i (.fl xs) env = putS i (.d (.lst xs)) env := (rfl)
@[simp] theorem putS_nil (i : Nat) (o : O) : putS i o [] = .st := (rfl)
@[simp] theorem putS_0 (o a : O) (env : Ev) : putS 0 o (a :: env) = .nx (o :: env) := by simp [putS]
def consR (a : O) : SRes → SRes
  | .nx e => .nx (a :: e)
  | r => r
theorem putS_S (i : Nat) (o a : O) (env : Ev) : putS (i + 1) o (a :: env) = consR a (putS i o env) := by
  unfold putS
  by_cases h : i < env.length
  · simp [h, consR]
  · simp [h, consR]
@[simp] theorem putS_1 (o a b : O) (env : Ev) : putS 1 o (a :: b :: env) = .nx (a :: o :: env) := by simp [putS]
@[simp] theorem putS_2 (o a b c : O) (env : Ev) : putS 2 o (a :: b :: c :: env) = .nx (a :: b :: o :: env) := by simp [putS]
@[simp] theorem putS_3 (o a b c d : O) (env : Ev) : putS 3 o (a :: b :: c :: d :: env) = .nx (a :: b :: c :: o :: env) := by simp [putS]
@[simp] theorem putS_4 (o a b c d e : O) (env : Ev) : putS 4 o (a :: b :: c :: d :: e :: env) = .nx (a :: b :: c :: d :: o :: env) := by simp [putS]
@[simp] theorem putS_5 (o a b c d e f : O) (env : Ev) : putS 5 o (a :: b :: c :: d :: e :: f :: env) = .nx (a :: b :: c :: d :: e :: o :: env) := by simp [putS]
@[simp] theorem putS_6 (o a b c d e f g : O) (env : Ev) : putS 6 o (a :: b :: c :: d :: e :: f :: g :: env) = .nx (a :: b :: c :: d :: e :: f :: o :: env) := by simp [putS]
@[simp] theorem putS_7 (o a b c d e f g h : O) (env : Ev) : putS 7 o (a :: b :: c :: d :: e :: f :: g :: h :: env) = .nx (a :: b :: c :: d :: e :: f :: g :: o :: env) := by simp [putS]
@[simp] theorem putS_8 (o a b c d e f g h i : O) (env : Ev) : putS 8 o (a :: b :: c :: d :: e :: f :: g :: h :: i :: env) = .nx (a :: b :: c :: d :: e :: f :: g :: h :: o :: env) := by simp [putS]
@[simp] theorem putS_9 (o a b c d e f g h i j : O) (env : Ev) : putS 9 o (a :: b :: c :: d :: e :: f :: g :: h :: i :: j :: env) = .nx (a :: b :: c :: d :: e :: f :: g :: h :: i :: o :: env) := by simp [putS]
@[simp] theorem putS_10 (o a b c d e f g h i j k : O) (env : Ev) : putS 10 o (a :: b :: c :: d :: e :: f :: g :: h :: i :: j :: k :: env) = .nx (a :: b :: c :: d :: e :: f :: g :: h :: i :: j :: o :: env) := by simp [putS]
@[simp] theorem putS_11 (o a b c d e f g h i j k l : O) (env : Ev) : putS 11 o (a :: b :: c :: d :: e :: f :: g :: h :: i :: j :: k :: l :: env) = .nx (a :: b :: c :: d :: e :: f :: g :: h :: i :: j :: k :: o :: env) := by simp [putS]
@[simp] theorem putS_12 (o a b c d e f g h i j k l m : O) (env : Ev) : putS 12 o (a :: b :: c :: d :: e :: f :: g :: h :: i :: j :: k :: l :: m :: env) = .nx (a :: b :: c :: d :: e :: f :: g :: h :: i :: j :: k :: l :: o :: env) := by simp [putS]
@[simp] theorem retO_ap (i : Nat) (env : Ev) : retO i env = if (env.getD i .un).isUn then .st else .rt (env.getD i .un) (env.set i .un) := (rfl)
@[simp] theorem ifS_ap (c : Ft) (a b : Fs) (env : Ev) : ifS c a b env = (c env).then fun p => if p.1 then a p.2 else b p.2 := (rfl)
@[simp] theorem unS_ap (is : List Nat) (e : Fe) (env : Ev) : unS is e env = (e env).then fun p => unR is p.1 p.2 := (rfl)
@[simp] theorem unR_d (is : List Nat) (x : D) (env : Ev) : unR is (.d x) env = nxO (tupG is x env) := (rfl)
@[simp] theorem unR_tp (is : List Nat) (os : List O) (env : Ev) : unR is (.tp os) env = if O.anyUn os then .st else nxO (tupG is (.tup (O.toDs os)) env) := (rfl)
@[simp] theorem nxO_some (e : Ev) : nxO (some e) = .nx e := (rfl)
@[simp] theorem tupG_tup (is : List Nat) (ds : List D) (env : Ev) : tupG is (.tup ds) env = setsG is ds env := (rfl)
@[simp] theorem setsG_nil (env : Ev) : setsG [] [] env = some env := (rfl)
@[simp] theorem setsG_cons (i : Nat) (is : List Nat) (d : D) (ds : List D) (env : Ev) : setsG (i :: is) (d :: ds) env = if i < env.length then setsG is ds (env.set i (.d d)) else none := (rfl)
@[simp] theorem nameG_ap (i : Nat) (d : D) (env : Ev) : nameG i d env = if i < env.length then some (env.set i (.d d)) else none := (rfl)
def parR (i j : Nat) (zi zj : Bool) (o q : O) (env : Ev) : SRes :=
  if o.isUn || q.isUn || !decide (i < env.length) || !decide (j < env.length) then .st else .nx ((env.set i (zO zi o)).set j (zO zj q))
@[simp] theorem parS_ap (i j : Nat) (zi zj : Bool) (fa fb : Fe) (env : Ev) : parS i j zi zj fa fb env = (fa env).then fun p => (fb p.2).then fun q => parR i j zi zj p.1 q.1 q.2 := (rfl)
@[simp] theorem setI_ap (i : Nat) (ev ek : Fe) (env : Ev) : setI i ev ek env = (ev env).then fun p => if p.1.isUn then .st else if (p.2.getD i .un).flO.isSome then
    (ek p.2).then fun q => setI.setR (q.2.getD i .un).flO q.1 p.1.toD i q.2 else .st := (rfl)
@[simp] theorem setR_ap (ds : List D) (j : Int) (d : D) (i : Nat) (env : Ev) : setI.setR (some ds) (.d (.int j)) d i env = nxO ((ixN ds.length j).map fun n => env.set i (.fl (ds.set n d))) := (rfl)
@[simp] theorem forS_ap (src : Fi) (tgt : Fg) (body : Fs) (env : Ev) : forS src tgt body env = (src env).then fun p => forL tgt body p.1 p.2 := (rfl)
def lcF (r : Option Ev) (k : Ev → SRes) : SRes := match r with
  | none => .st
  | some e => k e
@[simp] theorem lcF_some (e : Ev) (k : Ev → SRes) : lcF (some e) k = k e := (rfl)
theorem forL_cons (tgt : Fg) (body : Fs) (d : D) (ds : List D) (env : Ev) : forL tgt body (d :: ds) env = lcF (tgt d env) fun e => forNext (body e) (forL tgt body ds) := by
  show (match tgt d env with
    | none => SRes.st
    | some env1 => forNext (body env1) (forL tgt body ds)) = _
  cases tgt d env <;> rfl
@[simp] theorem forL_nil (tgt : Fg) (body : Fs) (env : Ev) : forL tgt body [] env = .nx env := (rfl)
def varO : O → Ev → ER (O × Ev)
  | .d x, env => .ok (.d x, env)
  | _, _ => .st
@[simp] theorem varO_d (x : D) (env : Ev) : varO (.d x) env = .ok (.d x, env) := (rfl)
@[simp] theorem varE_ap (i : Nat) (env : Ev) : varE i env = varO (env.getD i .un) env := by
  unfold varE varO
  cases env.getD i .un <;> rfl
@[simp] theorem cE_ap (x : D) (env : Ev) : cE x env = .ok (.d x, env) := (rfl)
@[simp] theorem noE_ap (env : Ev) : noE env = .st := (rfl)
def opNR (g : List D → Option O) (p : List Arg × Ev) : ER (O × Ev) := if p.1.all (Arg.good p.2) then res (g (p.1.map (Arg.look p.2))) p.2 else .st
def opCR (g : List D → Option O) (p : List Arg × Ev) : ER (O × Ev) := if p.1.all (Arg.data p.2) then res (g (p.1.map (Arg.look p.2))) p.2 else .st
@[simp] theorem opN_ap (g : List D → Option O) (as : List Opd) (env : Ev) : opN g as env = (evA as env).bind (opNR g) := (rfl)
@[simp] theorem opC_ap (g : List D → Option O) (as : List Opd) (env : Ev) : opC g as env = (evA as env).bind (opCR g) := (rfl)
@[simp] theorem op1_ap (g : D → Option O) (a : Opd) (env : Ev) : op1 g a env = (evA [a] env).bind (opNR fun
  | [x] => g x
  | _ => none) := (rfl)
@[simp] theorem op2_ap (g : D → D → Option O) (a b : Opd) (env : Ev) : op2 g a b env = (evA [a, b] env).bind (opNR fun
  | [x, y] => g x y
  | _ => none) := (rfl)
@[simp] theorem opNR_ap (g : List D → Option O) (l : List Arg) (env : Ev) : opNR g (l, env) = if l.all (Arg.good env) then res (g (l.map (Arg.look env))) env else .st := (rfl)
@[simp] theorem opCR_ap (g : List D → Option O) (l : List Arg) (env : Ev) : opCR g (l, env) = if l.all (Arg.data env) then res (g (l.map (Arg.look env))) env else .st := (rfl)
@[simp] theorem evA_nil (env : Ev) : evA [] env = .ok ([], env) := (rfl)
def pushA (o : O) (q : List Arg × Ev) : ER (List Arg × Ev) := .ok (.tmp o :: q.1, q.2)
def pushS (i : Nat) (q : List Arg × Ev) : ER (List Arg × Ev) := .ok (.sl i :: q.1, q.2)
@[simp] theorem pushA_ap (o : O) (l : List Arg) (env : Ev) : pushA o (l, env) = .ok (.tmp o :: l, env) := (rfl)
@[simp] theorem pushS_ap (i : Nat) (l : List Arg) (env : Ev) : pushS i (l, env) = .ok (.sl i :: l, env) := (rfl)
@[simp] theorem evA_val (f : Fe) (as : List Opd) (env : Ev) : evA (.val f :: as) env = (f env).bind fun p => (evA as p.2).bind (pushA p.1) := (rfl)
@[simp] theorem evA_pk (i : Nat) (as : List Opd) (env : Ev) : evA (.pk i :: as) env = if (env.getD i .un).isUn then .st else (evA as env).bind (pushS i) := (rfl)
@[simp] theorem good_tmp (o : O) (env : Ev) : Arg.good env (.tmp o) = !o.isUn := (rfl)
@[simp] theorem good_sl (i : Nat) (env : Ev) : Arg.good env (.sl i) = (!(env.getD i .un).isUn && (env.getD i .un).plain) := (rfl)
@[simp] theorem plain_d (x : D) : (O.d x).plain = true := (rfl)
@[simp] theorem plain_fl (x : List D) : (O.fl x).plain = true := (rfl)
@[simp] theorem plain_un : (O.un).plain = true := (rfl)
@[simp] theorem plain_ls (x : List O) : (O.ls x).plain = false := (rfl)
@[simp] theorem plain_tp (x : List O) : (O.tp x).plain = false := (rfl)
@[simp] theorem isUn_ls (x : List O) : (O.ls x).isUn = O.anyUn x := (rfl)
@[simp] theorem isUn_tp (x : List O) : (O.tp x).isUn = O.anyUn x := (rfl)
@[simp] theorem anyUn_nil : O.anyUn [] = false := (rfl)
@[simp] theorem anyUn_cons (x : O) (xs : List O) : O.anyUn (x :: xs) = (x.isUn || O.anyUn xs) := (rfl)
@[simp] theorem toD_ls (x : List O) : (O.ls x).toD = .lst (O.toDs x) := (rfl)
@[simp] theorem toD_tp (x : List O) : (O.tp x).toD = .tup (O.toDs x) := (rfl)
@[simp] theorem toDs_nil : O.toDs [] = [] := (rfl)
@[simp] theorem toDs_cons (x : O) (xs : List O) : O.toDs (x :: xs) = x.toD :: O.toDs xs := (rfl)
@[simp] theorem look_tmp (o : O) (env : Ev) : Arg.look env (.tmp o) = o.toD := (rfl)
@[simp] theorem look_sl (i : Nat) (env : Ev) : Arg.look env (.sl i) = (env.getD i .un).toD := (rfl)
def O.isD : O → Bool
  | .d _ => true
  | _ => false
@[simp] theorem data_tmp (o : O) (env : Ev) : Arg.data env (.tmp o) = !o.isUn := (rfl)
@[simp] theorem data_sl (i : Nat) (env : Ev) : Arg.data env (.sl i) = (env.getD i .un).isD := by
  show (match env.getD i .un with
    | .d _ => true
    | _ => false) = _
  unfold O.isD
  cases env.getD i .un <;> rfl
@[simp] theorem isD_d (x : D) : (O.d x).isD = true := (rfl)
@[simp] theorem isUn_un : O.un.isUn = true := (rfl)
@[simp] theorem isUn_d (x : D) : (O.d x).isUn = false := (rfl)
@[simp] theorem isUn_fl (x : List D) : (O.fl x).isUn = false := (rfl)
@[simp] theorem toD_d (x : D) : (O.d x).toD = x := (rfl)
@[simp] theorem toD_fl (x : List D) : (O.fl x).toD = .lst x := (rfl)
@[simp] theorem flO_fl (x : List D) : (O.fl x).flO = some x := (rfl)
@[simp] theorem flO_d (x : D) : (O.d x).flO = none := (rfl)
@[simp] theorem isInt_int (i : Int) : (O.d (.int i)).isInt = true := (rfl)
@[simp] theorem zO_d (z : Bool) (x : D) : zO z (.d x) = .d x := by cases z <;> rfl
@[simp] theorem zO_t (x : List D) : zO true (.fl x) = .d (.lst x) := (rfl)
@[simp] theorem zO_f (o : O) : zO false o = o := (rfl)
@[simp] theorem res_d (z : D) (env : Ev) : res (some (.d z)) env = .ok (.d z, env) := (rfl)
@[simp] theorem res_fl (z : List D) (env : Ev) : res (some (.fl z)) env = .ok (.fl z, env) := (rfl)
@[simp] theorem res_no (env : Ev) : res none env = .st := (rfl)
@[simp] theorem ifE_ap (c : Ft) (a b : Fe) (env : Ev) : ifE c a b env = (c env).bind fun p => if p.1 then a p.2 else b p.2 := (rfl)
@[simp] theorem intE_ap (a : Fe) (env : Ev) : intE a env = (a env).bind fun p => if p.1.isInt then .ok p else .st := (rfl)
@[simp] theorem andE_ap (a b : Fe) (env : Ev) : andE a b env = (a env).bind fun p => bindB p.1 fun c => if c then b p.2 else .ok (.d (.bl false), p.2) := (rfl)
@[simp] theorem orE_ap (a b : Fe) (env : Ev) : orE a b env = (a env).bind fun p => bindB p.1 fun c => if c then .ok (.d (.bl true), p.2) else b p.2 := (rfl)
@[simp] theorem notE_ap (a : Fe) (env : Ev) : notE a env = (a env).bind fun p => bindB p.1 fun c => .ok (.d (.bl (!c)), p.2) := (rfl)
@[simp] theorem tstE_ap (a : Fe) (env : Ev) : tstE a env = (a env).bind fun p => bindB p.1 fun c => .ok (c, p.2) := (rfl)
@[simp] theorem andT_ap (a b : Ft) (env : Ev) : andT a b env = (a env).bind fun p => if p.1 then b p.2 else .ok (false, p.2) := (rfl)
@[simp] theorem orT_ap (a b : Ft) (env : Ev) : orT a b env = (a env).bind fun p => if p.1 then .ok (true, p.2) else b p.2 := (rfl)
@[simp] theorem notT_ap (a : Ft) (env : Ev) : notT a env = (a env).bind fun p => .ok (!p.1, p.2) := (rfl)
@[simp] theorem chE_ap (p p' : Int → Int → Bool) (fa fb fc : Fe) (env : Ev) : chE p p' fa fb fc env = (fa env).bind fun a => (fb a.2).bind fun b => int1 a.1 fun i => int1 b.1 fun j =>
  if p i j then ((fc b.2).bind fun c => int1 c.1 fun k => .ok (.d (.bl (p' j k)), c.2)) else .ok (.d (.bl false), b.2) := (rfl)
def mutRR (i : Nat) (g : List D → List D → Option (D × List D)) (p : List Arg × Ev) : ER (O × Ev) := if p.1.all (Arg.data p.2) then (match (p.2.getD i .un).flO with
      | some ds => mutR (g ds (p.1.map (Arg.look p.2))) p.2 i .ok
      | none => .st) else .st
theorem mutE_eq (i : Nat) (g : List D → List D → Option (D × List D)) (as : List Opd) (env : Ev) : mutE i g as env = if (env.getD i .un).flO.isSome then (evA as env).bind (mutRR i g) else .st := by
  unfold mutE mutRR mutR
  rfl
def mutO (r : Option (D × List D)) (env : Ev) (i : Nat) : ER (O × Ev) := mutR r env i .ok
@[simp] theorem mutO_some (r : D) (ds : List D) (env : Ev) (i : Nat) : mutO (some (r, ds)) env i = .ok (.d r, env.set i (.fl ds)) := (rfl)
def mutL (o : Option (List D)) (g : List D → List D → Option (D × List D)) (xs : List D) (env : Ev) (i : Nat) : ER (O × Ev) := match o with
  | some ds => mutO (g ds xs) env i
  | none => .st
@[simp] theorem mutL_some (ds : List D) (g : List D → List D → Option (D × List D)) (xs : List D) (env : Ev) (i : Nat) : mutL (some ds) g xs env i = mutO (g ds xs) env i := (rfl)
@[simp] theorem mutE_ap (i : Nat) (g : List D → List D → Option (D × List D)) (as : List Opd) (env : Ev) : mutE i g as env = if (env.getD i .un).flO.isSome then (evA as env).bind (mutRR i g) else .st := mutE_eq i g as env
@[simp] theorem mutRR_ap (i : Nat) (g : List D → List D → Option (D × List D)) (l : List Arg) (env : Ev) : mutRR i g (l, env) = if l.all (Arg.data env) then mutL (env.getD i .un).flO g (l.map (Arg.look env)) env i else .st := (rfl)
@[simp] theorem appD_ap (ds : List D) (d : D) : appD ds [d] = if ds.length < 16777216 then some (.non, ds ++ [d]) else none := (rfl)
@[simp] theorem popAt_0 (x : D) (xs : List D) : popAtD (x :: xs) [.int 0] = some (x, xs) := by
  show (if okR 0 then (match ixN (xs.length + 1) 0 with
    | some k => (match (x :: xs)[k]? with
      | some d => some (d, (x :: xs).eraseIdx k)
      | none => none)
    | none => none) else none) = _
  rw [show ixN (xs.length + 1) 0 = some 0 by unfold ixN; simp, if_pos (by decide)]
  rfl
def callR (F : Fe) (m : Option Nat) (p : List Arg × Ev) : ER (O × Ev) := if dataOk m p.1 p.2 then callBack m p.1 p.2 (F (argsOf m p.1 p.2)) else .st
@[simp] theorem callE_ap (F : Fe) (m : Option Nat) (as : List Opd) (env : Ev) : callE F m as env = (evA as env).bind (callR F m) := (rfl)
@[simp] theorem callR_ap (F : Fe) (m : Option Nat) (l : List Arg) (env : Ev) : callR F m (l, env) = if dataOk m l env then callBack m l env (F (argsOf m l env)) else .st := (rfl)
@[simp] theorem dataOk_nil (m : Option Nat) (env : Ev) : dataOk m [] env = true := by cases m <;> first | rfl | (rename_i v; cases v <;> rfl)
@[simp] theorem dataOk_0 (a : Arg) (as : List Arg) (env : Ev) : dataOk (some 0) (a :: as) env = dataOk none as env := (rfl)
@[simp] theorem dataOk_S (j : Nat) (a : Arg) (as : List Arg) (env : Ev) : dataOk (some (j + 1)) (a :: as) env = (a.data env && dataOk (some j) as env) := (rfl)
@[simp] theorem dataOk_1 (a : Arg) (as : List Arg) (env : Ev) : dataOk (some 1) (a :: as) env = (a.data env && dataOk (some 0) as env) := (rfl)
@[simp] theorem dataOk_2 (a : Arg) (as : List Arg) (env : Ev) : dataOk (some 2) (a :: as) env = (a.data env && dataOk (some 1) as env) := (rfl)
@[simp] theorem dataOk_3 (a : Arg) (as : List Arg) (env : Ev) : dataOk (some 3) (a :: as) env = (a.data env && dataOk (some 2) as env) := (rfl)
@[simp] theorem dataOk_n (a : Arg) (as : List Arg) (env : Ev) : dataOk none (a :: as) env = (a.data env && dataOk none as env) := (rfl)
@[simp] theorem argsOf_nil (m : Option Nat) (env : Ev) : argsOf m [] env = [] := by cases m <;> first | rfl | (rename_i v; cases v <;> rfl)
@[simp] theorem argsOf_0 (a : Arg) (as : List Arg) (env : Ev) : argsOf (some 0) (a :: as) env = a.own env :: argsOf none as env := (rfl)
@[simp] theorem argsOf_1 (a : Arg) (as : List Arg) (env : Ev) : argsOf (some 1) (a :: as) env = .d (a.look env) :: argsOf (some 0) as env := (rfl)
@[simp] theorem argsOf_2 (a : Arg) (as : List Arg) (env : Ev) : argsOf (some 2) (a :: as) env = .d (a.look env) :: argsOf (some 1) as env := (rfl)
@[simp] theorem argsOf_3 (a : Arg) (as : List Arg) (env : Ev) : argsOf (some 3) (a :: as) env = .d (a.look env) :: argsOf (some 2) as env := (rfl)
@[simp] theorem argsOf_n (a : Arg) (as : List Arg) (env : Ev) : argsOf none (a :: as) env = .d (a.look env) :: argsOf none as env := (rfl)
@[simp] theorem own_tmp (o : O) (env : Ev) : Arg.own env (.tmp o) = o := (rfl)
@[simp] theorem own_sl (i : Nat) (env : Ev) : Arg.own env (.sl i) = env.getD i .un := (rfl)
@[simp] theorem backOf_n (l : List Arg) (env outs : Ev) : backOf none l env outs = env := (rfl)
def backA (a : Option Arg) (env : Ev) (o : O) : Ev := match a with
  | some (.sl i) => env.set i o
  | _ => env
@[simp] theorem backA_sl (i : Nat) (env : Ev) (o : O) : backA (some (.sl i)) env o = env.set i o := (rfl)
@[simp] theorem backA_tmp (x : O) (env : Ev) (o : O) : backA (some (.tmp x)) env o = env := (rfl)
@[simp] theorem backOf_s (j : Nat) (l : List Arg) (env outs : Ev) : backOf (some j) l env outs = backA l[j]? env (outs.getD j .un) := by
  rfl
def callKR (F : Fe) (sel : List Nat) (p : List Arg × Ev) : ER (O × Ev) := if dataOk none p.1 p.2 then callBack none p.1 p.2 (F (selA sel (argsOf none p.1 p.2))) else .st
@[simp] theorem callKE_ap (F : Fe) (sel : List Nat) (as : List Opd) (env : Ev) : callKE F sel as env = (evA as env).bind (callKR F sel) := by
  unfold callKE
  congr 1
@[simp] theorem callKR_ap (F : Fe) (sel : List Nat) (l : List Arg) (env : Ev) : callKR F sel (l, env) = if dataOk none l env then callBack none l env (F (selA sel (argsOf none l env))) else .st := (rfl)
@[simp] theorem selA_ap (sel : List Nat) (l : Ev) : selA sel l = sel.map fun i => l.getD i .un := (rfl)
theorem bodyF_ap (mu : List Nat) (m : Nat) (f : Fs) (args : Ev) : bodyF mu m f args = if okArgs mu 0 args then endOf mu args (f (args ++ List.replicate m .un)) else .st := (rfl)
@[simp] theorem okArgs_nil (mu : List Nat) (j : Nat) : okArgs mu j [] = true := (rfl)
@[simp] theorem okArgs_cons (mu : List Nat) (j : Nat) (a : O) (args : Ev) : okArgs mu j (a :: args) = ((mu.contains j || a.free) && okArgs mu (j + 1) args) := (rfl)
@[simp] theorem outsOf_nil (mu : List Nat) (j : Nat) (env : Ev) : outsOf mu j [] env = [] := (rfl)
@[simp] theorem outsOf_cons (mu : List Nat) (j : Nat) (a : O) (args env : Ev) : outsOf mu j (a :: args) env = (if mu.contains j then env.headD .un else a) :: outsOf mu (j + 1) args env.tail := (rfl)
@[simp] theorem free_d (x : D) : (O.d x).free = true := (rfl)
@[simp] theorem free_un : O.un.free = true := (rfl)
def srcR (g : List D → Option (List D)) (p : List Arg × Ev) : ER (List D × Ev) := if p.1.all (Arg.good p.2) then (match g (p.1.map (Arg.look p.2)) with
    | some ds => .ok (ds, p.2)
    | none => .st) else .st
def srcCR (g : List D → Option (List D)) (p : List Arg × Ev) : ER (List D × Ev) := if p.1.all (Arg.data p.2) then (match g (p.1.map (Arg.look p.2)) with
    | some ds => .ok (ds, p.2)
    | none => .st) else .st
def resL (r : Option (List D)) (env : Ev) : ER (List D × Ev) := match r with
  | some ds => .ok (ds, env)
  | none => .st
@[simp] theorem resL_some (ds : List D) (env : Ev) : resL (some ds) env = .ok (ds, env) := (rfl)
@[simp] theorem srcN_ap (g : List D → Option (List D)) (as : List Opd) (env : Ev) : srcN g as env = (evA as env).bind (srcR g) := (rfl)
@[simp] theorem srcC_ap (g : List D → Option (List D)) (as : List Opd) (env : Ev) : srcC g as env = (evA as env).bind (srcCR g) := (rfl)
@[simp] theorem srcR_ap (g : List D → Option (List D)) (l : List Arg) (env : Ev) : srcR g (l, env) = if l.all (Arg.good env) then resL (g (l.map (Arg.look env))) env else .st := by
  unfold srcR resL
  rfl
@[simp] theorem srcCR_ap (g : List D → Option (List D)) (l : List Arg) (env : Ev) : srcCR g (l, env) = if l.all (Arg.data env) then resL (g (l.map (Arg.look env))) env else .st := by
  unfold srcCR resL
  rfl
def lcFin (vs : List Nat) (env1 : Ev) (q : List D × Ev) : ER (O × Ev) := .ok (.fl q.1, backE q.2 env1 vs)
@[simp] theorem lcFin_ap (vs : List Nat) (env1 : Ev) (l : List D) (env : Ev) : lcFin vs env1 (l, env) = .ok (.fl l, backE env env1 vs) := (rfl)
@[simp] theorem lcE_ap (vs : List Nat) (src : Fi) (tgt : Fg) (test : Ft) (elt : Fe) (env : Ev) : lcE vs src tgt test elt env = (src env).bind fun p =>
  if frees vs p.2 then (lcL vs tgt test elt p.1 (wipeE p.2 vs) []).bind (lcFin vs p.2) else .st := (rfl)
def lcT {α : Type} (r : Option Ev) (k : Ev → ER α) : ER α := match r with
  | none => .st
  | some e => k e
@[simp] theorem lcT_some {α : Type} (e : Ev) (k : Ev → ER α) : lcT (some e) k = k e := (rfl)
def lcQ (vs : List Nat) (acc : List D) (elt : Fe) (k : Ev → List D → ER (List D × Ev)) (q : Bool × Ev) : ER (List D × Ev) :=
  if q.1 then (elt q.2).calm (lcOn vs acc k) else if frees vs q.2 then k (wipeE q.2 vs) acc else .st
@[simp] theorem lcQ_t (vs : List Nat) (acc : List D) (elt : Fe) (k : Ev → List D → ER (List D × Ev)) (env : Ev) : lcQ vs acc elt k (true, env) = (elt env).calm (lcOn vs acc k) := (rfl)
@[simp] theorem lcQ_f (vs : List Nat) (acc : List D) (elt : Fe) (k : Ev → List D → ER (List D × Ev)) (env : Ev) : lcQ vs acc elt k (false, env) = if frees vs env then k (wipeE env vs) acc else .st := (rfl)
@[simp] theorem lcOn_ap (vs : List Nat) (acc : List D) (k : Ev → List D → ER (List D × Ev)) (o : O) (env : Ev) : lcOn vs acc k (o, env) = if o.isUn || !decide (acc.length < 16777216) || !frees vs env then .st else k (wipeE env vs) (acc ++ [o.toD]) := (rfl)
theorem lcL_cons (vs : List Nat) (tgt : Fg) (test : Ft) (elt : Fe) (d : D) (ds : List D) (env : Ev) (acc : List D) : lcL vs tgt test elt (d :: ds) env acc = lcT (tgt d env) fun e => (test e).calm (lcQ vs acc elt (lcL vs tgt test elt ds)) := by
  show (match tgt d env with
    | none => ER.st
    | some env2 => (test env2).calm fun q =>
      if q.1 then (elt q.2).calm (lcOn vs acc (lcL vs tgt test elt ds)) else if frees vs q.2 then lcL vs tgt test elt ds (wipeE q.2 vs) acc else .st) = _
  cases tgt d env <;> rfl
@[simp] theorem lcL_nil (vs : List Nat) (tgt : Fg) (test : Ft) (elt : Fe) (env : Ev) (acc : List D) : lcL vs tgt test elt [] env acc = .ok (acc, env) := (rfl)
@[simp] theorem yesT_ap (env : Ev) : yesT env = .ok (true, env) := (rfl)
@[simp] theorem wipeE_nil (env : Ev) : wipeE env [] = env := (rfl)
@[simp] theorem wipeE_cons (env : Ev) (v : Nat) (vs : List Nat) : wipeE env (v :: vs) = (wipeE env vs).set v .un := (rfl)
@[simp] theorem backE_nil (env env1 : Ev) : backE env env1 [] = env := (rfl)
@[simp] theorem backE_cons (env env1 : Ev) (v : Nat) (vs : List Nat) : backE env env1 (v :: vs) = (backE env env1 vs).set v (env1.getD v .un) := (rfl)
@[simp] theorem frees_ap (vs : List Nat) (env : Ev) : frees vs env = vs.all fun v => (env.getD v .un).free && decide (v < env.length) := (rfl)
@[simp] theorem addD_int (i j : Int) : addD (.int i) (.int j) = some (.d (.int (i + j))) := (rfl)
@[simp] theorem addD_lst (x y : List D) : addD (.lst x) (.lst y) = if x.length + y.length ≤ 16777216 then some (.fl (x ++ y)) else none := (rfl)
@[simp] theorem addD_tup (x y : List D) : addD (.tup x) (.tup y) = if x.length + y.length ≤ 16777216 then some (.d (.tup (x ++ y))) else none := (rfl)
@[simp] theorem subD_int (i j : Int) : subD (.int i) (.int j) = some (.d (.int (i - j))) := (rfl)
@[simp] theorem mulD_int (i j : Int) : mulD (.int i) (.int j) = if mulOk i j then some (.d (.int (i * j))) else none := (rfl)
/-- small enough a divisor -/
def fOk (j : Int) : Bool := decide (j.natAbs.log2 < 9000)
theorem fOk_of {j : Int} {n : Nat} (h : j.natAbs < 2 ^ n) (h0 : 0 < n) (hn : n ≤ 9000) : fOk j = true := decide_eq_true (Nat.lt_of_lt_of_le (log2_lt h h0) hn)
@[simp] theorem fOk_two : fOk 2 = true := (rfl)
@[simp] theorem fdivD_int (i j : Int) : fdivD (.int i) (.int j) = if 0 < j ∧ fOk j = true then some (.d (.int (i / j))) else none := by
  show (if 0 < j ∧ j.natAbs.log2 < 9000 then _ else _) = _
  unfold fOk
  simp only [decide_eq_true_eq]
@[simp] theorem modD_int (i j : Int) : modD (.int i) (.int j) = if 0 < j then some (.d (.int (i % j))) else none := (rfl)
/-- small enough a base -/
def pOk (i : Int) : Bool := decide (i.natAbs < 2 ^ 1000)
theorem pOk_of {i : Int} {n : Nat} (h : i.natAbs < 2 ^ n) (hn : n ≤ 1000) : pOk i = true := decide_eq_true (Nat.lt_of_lt_of_le h (Nat.pow_le_pow_right (by decide) hn))
@[simp] theorem pOk_ten : pOk 10 = true := pOk_of (n := 4) (by decide) (by decide)
@[simp] theorem pOk_two : pOk 2 = true := pOk_of (n := 4) (by decide) (by decide)
@[simp] theorem powD_int (i j : Int) : powD (.int i) (.int j) = if 0 ≤ j ∧ j ≤ 1000 ∧ pOk i = true then some (.d (.int (i ^ j.toNat))) else none := by
  show (if 0 ≤ j ∧ j ≤ 1000 ∧ i.natAbs < 2 ^ 1000 then _ else _) = _
  unfold pOk
  simp only [decide_eq_true_eq]
@[simp] theorem negD_int (i : Int) : negD (.int i) = some (.d (.int (-i))) := (rfl)
@[simp] theorem cmpI_int (p : Int → Int → Bool) (i j : Int) : cmpI p (.int i) (.int j) = some (.d (.bl (p i j))) := (rfl)
@[simp] theorem ltD_int (i j : Int) : ltD (.int i) (.int j) = some (.d (.bl (decide (i < j)))) := (rfl)
@[simp] theorem isNonD_ap (x : D) : isNonD x .non = some (.d (.bl x.isNon)) := (rfl)
@[simp] theorem notNonD_ap (x : D) : notNonD x .non = some (.d (.bl (!x.isNon))) := (rfl)
@[simp] theorem isNon_non : D.non.isNon = true := (rfl)
@[simp] theorem isNon_int (i : Int) : (D.int i).isNon = false := (rfl)
@[simp] theorem isNon_bl (i : Bool) : (D.bl i).isNon = false := (rfl)
@[simp] theorem isNon_str (i : Str) : (D.str i).isNon = false := (rfl)
@[simp] theorem isNon_tup (i : List D) : (D.tup i).isNon = false := (rfl)
@[simp] theorem isNon_lst (i : List D) : (D.lst i).isNon = false := (rfl)
@[simp] theorem isNon_scr (i : List D) : (D.scr i).isNon = false := (rfl)
@[simp] theorem isNon_dk (i : List (Key × D)) : (D.dk i).isNon = false := (rfl)
@[simp] theorem isNon_dt (i : List (List Key × D)) : (D.dt i).isNon = false := (rfl)
@[simp] theorem isBD_ap (a b : Bool) : isBD (.bl a) (.bl b) = some (.d (.bl (decide (a = b)))) := (rfl)
@[simp] theorem eqD_int (i j : Int) : eqD (.int i) (.int j) = some (.d (.bl (i == j))) := (rfl)
@[simp] theorem eqD_bl (i j : Bool) : eqD (.bl i) (.bl j) = some (.d (.bl (i == j))) := by cases i <;> cases j <;> rfl
@[simp] theorem neD_bl (i j : Bool) : neD (.bl i) (.bl j) = some (.d (.bl (!(i == j)))) := by cases i <;> cases j <;> rfl
@[simp] theorem neD_int (i j : Int) : neD (.int i) (.int j) = some (.d (.bl (!(i == j)))) := (rfl)
@[simp] theorem tupC_ap (ds : List D) : tupC ds = if ds.length ≤ 1000 then some (.d (.tup ds)) else none := (rfl)
@[simp] theorem lstC_ap (ds : List D) : lstC ds = if ds.length ≤ 1000 then some (.fl ds) else none := (rfl)
@[simp] theorem lenD_lst (xs : List D) : lenD [.lst xs] = some (.d (.int xs.length)) := (rfl)
@[simp] theorem lenD_scr (xs : List D) : lenD [.scr xs] = some (.d (.int xs.length)) := (rfl)
@[simp] theorem lenD_tup (xs : List D) : lenD [.tup xs] = some (.d (.int xs.length)) := (rfl)
def ixL (xs : List D) (i : Int) : Option O := match atI xs i with
  | some y => some (.d y)
  | none => none
@[simp] theorem ixD_lst (xs : List D) (i : Int) : ixD (.lst xs) (.int i) = ixL xs i := (rfl)
@[simp] theorem ixD_scr (xs : List D) (i : Int) : ixD (.scr xs) (.int i) = ixL xs i := (rfl)
@[simp] theorem ixD_tup (xs : List D) (i : Int) : ixD (.tup xs) (.int i) = ixL xs i := (rfl)
theorem ixL_nat {xs : List D} {i : Nat} {y : D} (h : xs[i]? = some y) : ixL xs (i : Nat) = some (.d y) := by
  unfold ixL
  rw [atI_nat h]
@[simp] theorem ixL_0 (x : D) (xs : List D) : ixL (x :: xs) 0 = some (.d x) := ixL_nat (i := 0) rfl
@[simp] theorem ixL_1 (a x : D) (xs : List D) : ixL (a :: x :: xs) 1 = some (.d x) := ixL_nat (i := 1) rfl
@[simp] theorem ixL_2 (a b x : D) (xs : List D) : ixL (a :: b :: x :: xs) 2 = some (.d x) := ixL_nat (i := 2) rfl
@[simp] theorem ixL_3 (a b c x : D) (xs : List D) : ixL (a :: b :: c :: x :: xs) 3 = some (.d x) := ixL_nat (i := 3) rfl
@[simp] theorem ixL_4 (a b c d x : D) (xs : List D) : ixL (a :: b :: c :: d :: x :: xs) 4 = some (.d x) := ixL_nat (i := 4) rfl
@[simp] theorem ixN_0 (n : Nat) : ixN (n + 1) 0 = some 0 := by
  unfold ixN
  simp
@[simp] theorem ixN_1 (n : Nat) : ixN (n + 2) 1 = some 1 := by
  unfold ixN
  simp
  omega
@[simp] theorem ixN_2 (n : Nat) : ixN (n + 3) 2 = some 2 := by
  unfold ixN
  simp
  omega
@[simp] theorem ixN_3 (n : Nat) : ixN (n + 4) 3 = some 3 := by
  unfold ixN
  simp
  omega
@[simp] theorem ixN_4 (n : Nat) : ixN (n + 5) 4 = some 4 := by
  unfold ixN
  simp
  omega
theorem ixN_nat {n i : Nat} (h : i < n) : ixN n (i : Nat) = some i := by
  unfold ixN
  simp [h]
@[simp] theorem intD_int (i : Int) : intD [.int i] = some (.d (.int i)) := (rfl)
@[simp] theorem intD_bl (b : Bool) : intD [.bl b] = some (.d (.int (if b then 1 else 0))) := (rfl)
@[simp] theorem absD_int (i : Int) : absD [.int i] = some (.d (.int (if i < 0 then -i else i))) := (rfl)
@[simp] theorem maxD_int (i j : Int) : maxD [.int i, .int j] = some (.d (.int (if j > i then j else i))) := (rfl)
@[simp] theorem minD_int (i j : Int) : minD [.int i, .int j] = some (.d (.int (if j < i then j else i))) := (rfl)
@[simp] theorem sumD_lst (ns : List Int) : sumD [.lst (ns.map D.int)] = some (.d (.int ns.sum)) := by
  show (match intsOf (ns.map D.int) with
    | some ns => some (O.d (D.int ns.sum))
    | none => none) = _
  rw [intsOf_map]
@[simp] theorem listD_tup (xs : List D) : listD [.tup xs] = some (.fl xs) := (rfl)
@[simp] theorem listD_lst (xs : List D) : listD [.lst xs] = some (.fl xs) := (rfl)
/-- a is a kind that isinstance tells -/
def isOne (a t : String) : Option O := if kinds.contains t then some (.d (.bl (subTy a t))) else none
def isTwo (a t u : String) : Option O := if kinds.contains t && kinds.contains u then some (.d (.bl (subTy a t || subTy a u))) else none
@[simp] theorem isi_non (t : String) : isiD [.non, .ty t] = isOne "NoneType" t := (rfl)
@[simp] theorem isi_bl (b : Bool) (t : String) : isiD [.bl b, .ty t] = isOne "bool" t := (rfl)
@[simp] theorem isi_int (b : Int) (t : String) : isiD [.int b, .ty t] = isOne "int" t := (rfl)
@[simp] theorem isi_str (b : Str) (t : String) : isiD [.str b, .ty t] = isOne "str" t := (rfl)
@[simp] theorem isi_lst (b : List D) (t : String) : isiD [.lst b, .ty t] = isOne "list" t := (rfl)
@[simp] theorem isi_tup (b : List D) (t : String) : isiD [.tup b, .ty t] = isOne "tuple" t := (rfl)
@[simp] theorem isi_scr (b : List D) (t : String) : isiD [.scr b, .ty t] = isOne "list" t := (rfl)
@[simp] theorem isi_dk (b : List (Key × D)) (t : String) : isiD [.dk b, .ty t] = isOne "dict" t := (rfl)
@[simp] theorem isi_dt (b : List (List Key × D)) (t : String) : isiD [.dt b, .ty t] = isOne "dict" t := (rfl)
@[simp] theorem isi2_scr (b : List D) (t u : String) : isiD [.scr b, .tup [.ty t, .ty u]] = isTwo "list" t u := (rfl)
@[simp] theorem isi2_non (t u : String) : isiD [.non, .tup [.ty t, .ty u]] = isTwo "NoneType" t u := (rfl)
@[simp] theorem isi2_bl (b : Bool) (t u : String) : isiD [.bl b, .tup [.ty t, .ty u]] = isTwo "bool" t u := (rfl)
@[simp] theorem isi2_int (b : Int) (t u : String) : isiD [.int b, .tup [.ty t, .ty u]] = isTwo "int" t u := (rfl)
@[simp] theorem isi2_str (b : Str) (t u : String) : isiD [.str b, .tup [.ty t, .ty u]] = isTwo "str" t u := (rfl)
@[simp] theorem isi2_lst (b : List D) (t u : String) : isiD [.lst b, .tup [.ty t, .ty u]] = isTwo "list" t u := (rfl)
@[simp] theorem isi2_tup (b : List D) (t u : String) : isiD [.tup b, .tup [.ty t, .ty u]] = isTwo "tuple" t u := (rfl)
@[simp] theorem k_int (a : String) : isOne a "int" = some (.d (.bl (subTy a "int"))) := (rfl)
@[simp] theorem k_bool (a : String) : isOne a "bool" = some (.d (.bl (subTy a "bool"))) := (rfl)
@[simp] theorem k_str (a : String) : isOne a "str" = some (.d (.bl (subTy a "str"))) := (rfl)
@[simp] theorem k_list (a : String) : isOne a "list" = some (.d (.bl (subTy a "list"))) := (rfl)
@[simp] theorem k_tuple (a : String) : isOne a "tuple" = some (.d (.bl (subTy a "tuple"))) := (rfl)
@[simp] theorem k_dict (a : String) : isOne a "dict" = some (.d (.bl (subTy a "dict"))) := (rfl)
@[simp] theorem k_tl (a : String) : isTwo a "tuple" "list" = some (.d (.bl (subTy a "tuple" || subTy a "list"))) := (rfl)
@[simp] theorem k_lt (a : String) : isTwo a "list" "tuple" = some (.d (.bl (subTy a "list" || subTy a "tuple"))) := (rfl)
@[simp] theorem subTy_eq (a b : String) : subTy a b = (a == b || (a == "bool" && b == "int")) := (rfl)
@[simp] theorem rangeD1_ap (j : Int) : rangeD1 [.int j] = if okR j then some (rangeL 0 j.toNat) else none := (rfl)
@[simp] theorem rangeD2_ap (i j : Int) : rangeD2 [.int i, .int j] = if okR i && okR j then some (rangeL i (j - i).toNat) else none := (rfl)
@[simp] theorem enumD_lst (xs : List D) : enumD [.lst xs] = some (enumL 0 xs) := (rfl)
@[simp] theorem anyLD_lst (xs : List D) : anyLD [.lst xs] = some xs := (rfl)
@[simp] theorem anyLD_tup (xs : List D) : anyLD [.tup xs] = some xs := (rfl)
@[simp] theorem anyLD_scr (xs : List D) : anyLD [.scr xs] = some xs := (rfl)
end VL

set_option Elab.async false
set_option linter.all false
set_option maxRecDepth 100000
namespace VL
open PySem PySem.Spec PyProof.Rows L2

structure D.Ok (n : Nat) (d : D) : Prop where
  can : d.py.canLay0 = true
  dep : d.py.depth ≤ n
theorem D.Ok.mono {n m : Nat} {d : D} (h : D.Ok n d) (hm : n ≤ m) : D.Ok m d := ⟨h.can, Nat.le_trans h.dep hm⟩
theorem ok_non {n : Nat} : D.Ok n .non := ⟨rfl, Nat.zero_le _⟩
theorem ok_int {n : Nat} (i : Int) : D.Ok n (.int i) := ⟨rfl, Nat.zero_le _⟩
theorem ok_bl {n : Nat} (i : Bool) : D.Ok n (.bl i) := ⟨rfl, Nat.zero_le _⟩
theorem oks {n : Nat} : ∀ {xs : List D}, (∀ x ∈ xs, D.Ok n x) → PyData.canLayAll0 (D.pys xs) = true ∧ PyData.depthAll (D.pys xs) ≤ n
  | [], _ => ⟨rfl, Nat.zero_le _⟩
  | x :: xs, h => by
    obtain ⟨h1, h2⟩ := oks (xs := xs) fun y m => h y (List.mem_cons_of_mem _ m)
    have hx := h x List.mem_cons_self
    refine ⟨?_, ?_⟩
    · rw [D.pys, PyData.canLayAll0, hx.can, h1]
      rfl
    · rw [D.pys, PyData.depthAll]
      exact Nat.max_le.mpr ⟨hx.dep, h2⟩
theorem ok_lst {n : Nat} {xs : List D} (h : ∀ x ∈ xs, D.Ok n x) : D.Ok (n + 1) (.lst xs) := by
  obtain ⟨h1, h2⟩ := oks h
  refine ⟨?_, ?_⟩
  · rw [D.py, PyData.canLay0]
    exact h1
  · rw [D.py, PyData.depth]
    exact Nat.succ_le_succ h2
theorem ok_tup {n : Nat} {xs : List D} (h : ∀ x ∈ xs, D.Ok n x) : D.Ok (n + 1) (.tup xs) := by
  obtain ⟨h1, h2⟩ := oks h
  refine ⟨?_, ?_⟩
  · rw [D.py, PyData.canLay0]
    exact h1
  · rw [D.py, PyData.depth]
    exact Nat.succ_le_succ h2
theorem ok_scr {n : Nat} {xs : List D} (h : ∀ x ∈ xs, D.Ok n x) : D.Ok (n + 1) (.scr xs) := by
  obtain ⟨h1, h2⟩ := oks h
  refine ⟨?_, ?_⟩
  · rw [D.py, PyData.canLay0]
    exact h1
  · rw [D.py, PyData.depth]
    exact Nat.succ_le_succ h2
theorem D.Ok.shaped {n : Nat} {d : D} (h : D.Ok n d) (hn : n ≤ 64) : SeqAt.shaped d.py = true := by
  unfold SeqAt.shaped
  rw [h.can, decide_eq_true (Nat.le_trans h.dep hn)]
  rfl
theorem eqD_ok {n m : Nat} {x y : D} (hx : D.Ok n x) (hy : D.Ok m y) (hn : n ≤ 64 := by decide) (hm : m ≤ 64 := by decide) : eqD x y = some (.d (.bl (PyData.eqv x.py y.py))) := by
  unfold eqD
  rw [hx.shaped hn, hy.shaped hm]
  rfl
theorem neD_ok {n m : Nat} {x y : D} (hx : D.Ok n x) (hy : D.Ok m y) (hn : n ≤ 64 := by decide) (hm : m ≤ 64 := by decide) : neD x y = some (.d (.bl (!PyData.eqv x.py y.py))) := by
  unfold neD
  rw [hx.shaped hn, hy.shaped hm]
  rfl
theorem eqv_nil (xs : List D) : PyData.eqv (D.lst xs).py (D.lst []).py = xs.isEmpty := by
  cases xs with
  | nil => rfl
  | cons x xs =>
    rw [D.py, D.pys, D.py, PyData.eqv]
    rfl
@[simp] theorem eqD_nil2 : eqD (.lst []) (.lst []) = some (.d (.bl true)) := (rfl)
theorem mulOk_l {i j : Int} (h : i.natAbs < 18446744073709551616) : mulOk i j = true := by
  unfold mulOk
  rw [decide_eq_true (show i.natAbs < 2 ^ 64 from h)]
  rfl
theorem mulOk_r {i j : Int} (h : j.natAbs < 18446744073709551616) : mulOk i j = true := by
  unfold mulOk
  rw [decide_eq_true (show j.natAbs < 2 ^ 64 from h), Bool.or_true]
  rfl
theorem okR_nat {n : Nat} (h : n < 4611686018427387904) : okR (n : Int) = true := by
  unfold okR
  rw [Bool.and_eq_true, decide_eq_true_iff, decide_eq_true_iff]
  omega
theorem cut_to {α : Type} (xs : List α) (m : Nat) : cutL xs none (some (m : Int)) = xs.take m := by
  unfold cutL
  rw [HT.sIx_none, HT.sIx_nat]
  simp only [List.drop_zero, Nat.sub_zero]
  rw [List.take_eq_take_iff]
  omega
theorem cut_from {α : Type} (xs : List α) (m : Nat) : cutL xs (some (m : Int)) none = xs.drop m := by
  unfold cutL
  rw [HT.sIx_none, HT.sIx_nat, List.take_of_length_le (by rw [List.length_drop]; omega)]
  by_cases h : m ≤ xs.length
  · rw [Nat.min_eq_left h]
  · rw [Nat.min_eq_right (by omega), List.drop_of_length_le (Nat.le_refl _), List.drop_of_length_le (by omega)]
@[simp] theorem slD_to (xs : List D) (j : Int) : slD false true [.lst xs, .int j] = some (.fl (cutL xs none (some j))) := (rfl)
@[simp] theorem slD_from (xs : List D) (j : Int) : slD true false [.lst xs, .int j] = some (.fl (cutL xs (some j) none)) := (rfl)
@[simp] theorem slD_toS (xs : List D) (j : Int) : slD false true [.scr xs, .int j] = some (.fl (cutL xs none (some j))) := (rfl)
@[simp] theorem slD_fromS (xs : List D) (j : Int) : slD true false [.scr xs, .int j] = some (.fl (cutL xs (some j) none)) := (rfl)
@[simp] theorem slD_toT (xs : List D) (j : Int) : slD false true [.tup xs, .int j] = some (.d (.tup (cutL xs none (some j)))) := (rfl)
@[simp] theorem slD_fromT (xs : List D) (j : Int) : slD true false [.tup xs, .int j] = some (.d (.tup (cutL xs (some j) none))) := (rfl)
theorem forL_inv {tgt : Fg} {body : Fs} : ∀ {ds : List D} (I : Nat → Ev → Prop) {env : Ev} (j : Nat), (∀ k d env, ds[k]? = some d → I (j + k) env → ∃ e1 e2, tgt d env = some e1 ∧ body e1 = .nx e2 ∧ I (j + k + 1) e2) → I j env →
    ∃ e, forL tgt body ds env = .nx e ∧ I (j + ds.length) e
  | [], I, env, j, _, h => ⟨env, rfl, h⟩
  | d :: ds, I, env, j, hs, h => by
    obtain ⟨e1, e2, h1, h2, h3⟩ := hs 0 d env rfl h
    obtain ⟨e, h4, h5⟩ := forL_inv (ds := ds) I (env := e2) (j + 1) (fun k d env hk hI => by
      obtain ⟨e1, e2, h1, h2, h3⟩ := hs (k + 1) d env (by simpa using hk) (by rw [← Nat.add_assoc, Nat.add_right_comm]; exact hI)
      refine ⟨e1, e2, h1, h2, ?_⟩
      rw [show j + (k + 1) + 1 = j + 1 + k + 1 by omega] at h3
      exact h3) h3
    refine ⟨e, ?_, ?_⟩
    · rw [forL_cons, h1, lcF_some, h2, forNext_nx, h4]
    · rw [List.length_cons, show j + (ds.length + 1) = j + 1 + ds.length by omega]
      exact h5
theorem forL_ev {tgt : Fg} {body : Fs} {ds : List D} (I : Nat → Ev → Prop) {env : Ev} (hs : ∀ k d env, ds[k]? = some d → I k env → ∃ e1 e2, tgt d env = some e1 ∧ body e1 = .nx e2 ∧ I (k + 1) e2) (h : I 0 env) :
    ∃ e, forL tgt body ds env = .nx e ∧ I ds.length e := by
  obtain ⟨e, h1, h2⟩ := forL_inv I (env := env) 0 (fun k d env hk hI => by
    rw [Nat.zero_add] at hI ⊢
    exact hs k d env hk hI) h
  rw [Nat.zero_add] at h2
  exact ⟨e, h1, h2⟩
/-- a comprehension whose turns leave the slots as they are -/
theorem lcL_pure {vs : List Nat} {tgt : Fg} {test : Ft} {elt : Fe} {env : Ev} (g : D → Option D) : ∀ (ds : List D) (acc : List D), (∀ d ∈ ds, ∃ e, tgt d env = some e ∧ frees vs e = true ∧ wipeE e vs = env ∧
      ((test e = .ok (false, e) ∧ g d = none) ∨ ∃ o, test e = .ok (true, e) ∧ elt e = .ok (o, e) ∧ o.isUn = false ∧ g d = some o.toD)) → acc.length + ds.length < 16777216 →
    lcL vs tgt test elt ds env acc = .ok (acc ++ ds.filterMap g, env)
  | [], acc, _, _ => by rw [lcL_nil, List.filterMap_nil, List.append_nil]
  | d :: ds, acc, h, hl => by
    obtain ⟨e, h1, h2, h3, h4⟩ := h d List.mem_cons_self
    rw [List.length_cons] at hl
    rw [lcL_cons, h1, lcT_some]
    rcases h4 with ⟨h4, h5⟩ | ⟨o, h4, h5, h6, h7⟩
    · rw [h4, ER.calm_ok, lcQ_f, if_pos h2, h3, lcL_pure g ds acc (fun x m => h x (List.mem_cons_of_mem _ m)) (by omega), List.filterMap_cons_none h5]
    · rw [h4, ER.calm_ok, lcQ_t, h5, ER.calm_ok, lcOn_ap, h6, h2, decide_eq_true (show acc.length < 16777216 by omega), if_neg (by decide), h3,
        lcL_pure g ds (acc ++ [o.toD]) (fun x m => h x (List.mem_cons_of_mem _ m)) (by rw [List.length_append, List.length_singleton]; omega), List.filterMap_cons_some h7, List.append_assoc]
      rfl
/-- a comprehension whose turns change the slots: each item has P -/
theorem lcL_inv {vs : List Nat} {tgt : Fg} {test : Ft} {elt : Fe} (P : D → Prop) (I : Nat → Ev → Prop) : ∀ (ds : List D) (acc : List D) (j : Nat) (env : Ev), (∀ k d env, ds[k]? = some d → I (j + k) env → ∃ e o e2, tgt d env = some e ∧ test e = .ok (true, e) ∧ elt e = .ok (o, e2) ∧ o.isUn = false ∧ P o.toD ∧
      frees vs e2 = true ∧ I (j + k + 1) (wipeE e2 vs)) → acc.length + ds.length < 16777216 → I j env →
    ∃ zs e, lcL vs tgt test elt ds env acc = .ok (acc ++ zs, e) ∧ zs.length = ds.length ∧ (∀ z ∈ zs, P z) ∧ I (j + ds.length) e
  | [], acc, j, env, _, _, hI => ⟨[], env, by rw [lcL_nil, List.append_nil], rfl, fun _ m => (nomatch m), hI⟩
  | d :: ds, acc, j, env, h, hl, hI => by
    obtain ⟨e, o, e2, h1, h2, h3, h4, h5, h6, h7⟩ := h 0 d env rfl hI
    rw [List.length_cons] at hl
    obtain ⟨zs, e3, g1, g2, g3, g4⟩ := lcL_inv P I ds (acc ++ [o.toD]) (j + 1) (wipeE e2 vs) (fun k d env hk hI => by
      obtain ⟨e, o, e2, h1, h2, h3, h4, h5, h6, h7⟩ := h (k + 1) d env (by simpa using hk) (by rw [← Nat.add_assoc, Nat.add_right_comm]; exact hI)
      refine ⟨e, o, e2, h1, h2, h3, h4, h5, h6, ?_⟩
      rw [show j + (k + 1) + 1 = j + 1 + k + 1 by omega] at h7
      exact h7) (by rw [List.length_append, List.length_singleton]; omega) h7
    refine ⟨o.toD :: zs, e3, ?_, by rw [List.length_cons, List.length_cons, g2], fun z m => ?_, ?_⟩
    · rw [lcL_cons, h1, lcT_some, h2, ER.calm_ok, lcQ_t, h3, ER.calm_ok, lcOn_ap, h4, h6, decide_eq_true (show acc.length < 16777216 by omega), if_neg (by decide), g1, List.append_assoc]
      rfl
    · rcases List.mem_cons.mp m with rfl | m
      · exact h5
      · exact g3 z m
    · rw [List.length_cons, show j + (ds.length + 1) = j + 1 + ds.length by omega]
      exact g4
theorem rangeL_get {n k : Nat} {d : D} (h : (rangeL 0 n)[k]? = some d) : k < n ∧ d = .int (k : Nat) := by
  unfold rangeL at h
  rw [List.getElem?_map] at h
  cases q : (List.range n)[k]? with
  | none => rw [q] at h; cases h
  | some j =>
    rw [q] at h
    obtain ⟨h1, h2⟩ := List.getElem?_eq_some_iff.mp q
    rw [List.getElem_range] at h2
    rw [List.length_range] at h1
    subst h2
    cases h
    exact ⟨h1, by simp⟩
theorem rangeL_mem {n : Nat} {d : D} (h : d ∈ rangeL 0 n) : ∃ k : Nat, k < n ∧ d = .int (k : Nat) := by
  obtain ⟨k, h1⟩ := List.getElem?_of_mem h
  obtain ⟨h2, h3⟩ := rangeL_get h1
  exact ⟨k, h2, h3⟩
end VL

set_option Elab.async false
set_option linter.all false
set_option maxRecDepth 100000
namespace VL
open PySem PySem.Spec PyProof.Rows L2

/-- the slot's content is given away -/
def mvE (i : Nat) : Fe := fun env => if (env.getD i .un).isUn then .st else .ok (env.getD i .un, env.set i .un)
/-- the slot's content is data from here on -/
def frzE (i : Nat) : Fe := fun env => if (env.getD i .un).isUn then .st else .ok (.d (env.getD i .un).toD, env.set i (.d (env.getD i .un).toD))
section
variable {X : Cx} {W : WX} {pos : Pos}
theorem set_same {σ : L2.St} {i : Nat} {v : Option V} (h : σ[i]? = some v) : σ.set i v = σ := by
  refine List.ext_getElem? fun j => ?_
  by_cases hj : i = j
  · subst hj
    rw [List.getElem?_set_self (List.getElem?_eq_some_iff.mp h).1, h]
  · rw [List.getElem?_set_ne hj]
theorem v_mv {i : Nat} {x : Str} (hx : PE X (.Name x pos) (tVar i)) : VE X W (.Name x pos) (mvE i) := by
  refine pe_imp hx fun σ H Q h => ?_
  obtain ⟨env, av, own, hs, w, h⟩ := h
  unfold mvE at h
  cases hu : (env.getD i .un).isUn with
  | true => rw [hu, if_pos rfl] at h; exact h.elim
  | false =>
    rw [hu, if_neg Bool.false_ne_true] at h
    obtain ⟨v, fp0, e1, e2, _⟩ := slot_some hs hu
    have hl : i < env.length := by
      rw [← hs.length]
      exact (List.getElem?_eq_some_iff.mp e1).1
    obtain ⟨s, P, fp, B, rfl, e3, e4, g⟩ := hs.focus hl
    rw [e1] at e3
    cases e3
    have z := g (av' := av) (H' := H) (s' := some v) (o' := .un) (fp' := []) (.grow (Grow.refl _) fun _ h => h) (fun _ _ _ e => e) .un
    rw [set_same e1] at z
    have nd : (fp ++ (P ++ ([] ++ B))).Nodup := by
      have := w.nodup
      simp only [List.nil_append, List.nodup_append, List.mem_append] at this ⊢
      obtain ⟨n1, ⟨n2, n3, n4⟩, n5⟩ := this
      exact ⟨n2, ⟨n1, n3, fun a ha b hb => n5 a ha b (.inr hb)⟩, fun a ha b hb => hb.elim (fun hb e => n5 b hb a (.inl ha) e.symm) fun hb => n4 a ha b hb⟩
    have mm : ∀ a, a ∈ fp ++ (P ++ ([] ++ B)) ↔ a ∈ P ++ (fp ++ B) := fun a => by
      simp only [List.nil_append, List.mem_append]
      constructor
      · rintro (h | h | h) <;> simp [h]
      · rintro (h | h | h) <;> simp [h]
    refine ⟨v, e1, h v H av fp (P ++ ([] ++ B)) ⟨fun a => ⟨fun q => ?_, fun q => ?_⟩, fun a m => .inl ((mm a).mp m), fun _ _ e _ => e, fun _ e => e⟩ ⟨nd, fun a m => w.sub a ((mm a).mp m), w.dom⟩ e4 z⟩
    · by_cases k : a ∈ P ++ (fp ++ B)
      · exact .inr ((mm a).mpr k)
      · exact .inl ⟨q, k⟩
    · rcases q with q | q
      · exact q.1
      · exact w.sub a ((mm a).mp q)
theorem v_frz {i : Nat} {x : Str} (hx : PE X (.Name x pos) (tVar i)) : VE X W (.Name x pos) (frzE i) := by
  refine pe_imp hx fun σ H Q h => ?_
  obtain ⟨env, av, own, hs, w, h⟩ := h
  unfold frzE at h
  cases hu : (env.getD i .un).isUn with
  | true => rw [hu, if_pos rfl] at h; exact h.elim
  | false =>
    rw [hu, if_neg Bool.false_ne_true] at h
    obtain ⟨v, fp0, e1, e2, _⟩ := slot_some hs hu
    have hl : i < env.length := by
      rw [← hs.length]
      exact (List.getElem?_eq_some_iff.mp e1).1
    obtain ⟨s, P, fp, B, rfl, e3, e4, g⟩ := hs.focus hl
    rw [e1] at e3
    cases e3
    have sub : ∀ a, drp av (P ++ (fp ++ B)) (P ++ ([] ++ B)) a → av a := fun a h => by
      rcases h with h | h
      · exact h.1
      · refine w.sub a ?_
        simp only [List.nil_append, List.mem_append] at h ⊢
        rcases h with h | h <;> simp [h]
    have nd : (P ++ ([] ++ B)).Nodup := by
      have := w.nodup
      simp only [List.nil_append, List.nodup_append, List.mem_append] at this ⊢
      obtain ⟨n1, ⟨n2, n3, n4⟩, n5⟩ := this
      exact ⟨n1, n3, fun a ha b hb => n5 a ha b (.inr hb)⟩
    have out : ∀ a, a ∈ fp → ¬ drp av (P ++ (fp ++ B)) (P ++ ([] ++ B)) a := fun a m z => by
      rcases z with z | z
      · exact z.2 (by simp [m])
      · have := w.nodup
        simp only [List.nodup_append, List.mem_append] at this
        simp only [List.nil_append, List.mem_append] at z
        rcases z with z | z
        · exact this.2.2 a z a (.inl m) rfl
        · exact this.2.1.2.2 a m a z rfl
    have rd : RD X.K (drp av (P ++ (fp ++ B)) (P ++ ([] ++ B))) H v (env.getD i .un).toD := e4.frozen hu sub out
    have z := g (av' := drp av (P ++ (fp ++ B)) (P ++ ([] ++ B))) (H' := H) (s' := some v) (o' := .d (env.getD i .un).toD) (fp' := []) (.grow (Grow.refl _) sub) (fun _ _ _ e => e) (.d rd)
    rw [set_same e1] at z
    refine ⟨v, e1, h v H (drp av (P ++ (fp ++ B)) (P ++ ([] ++ B))) [] (P ++ ([] ++ B)) ⟨fun _ => Iff.rfl, fun a m => .inl ?_, fun _ _ e _ => e, fun _ e => e⟩ ⟨nd, fun a m => .inr m, fun a m => w.dom a (sub a m)⟩ (.d rd) z⟩
    simp only [List.nil_append, List.mem_append] at m ⊢
    rcases m with m | m <;> simp [m]
end
def Arg.toO (env : Ev) : Arg → O
  | .tmp o => o
  | .sl i => env.getD i .un
def Arg.kept (env : Ev) : Arg → Bool
  | .tmp _ => true
  | .sl i => match env.getD i .un with
    | .d _ => true
    | _ => false
def tupO (as : List Opd) : Fe := fun env => (evA as env).bind fun p => if p.1.all (Arg.kept p.2) && decide (p.1.length ≤ 1000) then .ok (.tp (p.1.map (Arg.toO p.2)), p.2) else .st
def lstO (as : List Opd) : Fe := fun env => (evA as env).bind fun p => if p.1.all (Arg.kept p.2) && decide (p.1.length ≤ 1000) then .ok (.ls (p.1.map (Arg.toO p.2)), p.2) else .st
section
variable {K : PySem.W.Frag} {mg : Str → Option Value} {W : WX} {av av1 : Addr → Prop} {H H1 : Hp} {own own1 t : List Addr} {σ : L2.St}
theorem ARep.srs {env : Ev} (hs : Slots K av H σ env own) : ∀ {vs : List V} {l : List Arg} {t : List Addr}, ARep K av H σ vs l t → l.all (Arg.kept env) = true → SRs K av H vs (l.map (Arg.toO env)) t
  | _, _, _, .nil, _ => .nil
  | _, _, _, .tmp h r, g => by
    rw [List.all_cons, Bool.and_eq_true] at g
    exact .cons h (ARep.srs hs r g.2)
  | _, _, _, .sl (i := i) h r, g => by
    rw [List.all_cons, Bool.and_eq_true] at g
    have g1 : (match env.getD i .un with
      | .d _ => true
      | _ => false) = true := g.1
    cases q : env.getD i .un with
    | d x =>
      obtain ⟨v, fp, e1, e2, _⟩ := slot_some (i := i) hs (by rw [q]; rfl)
      rw [h] at e1
      cases e1
      rw [q] at e2
      cases e2 with | d r2 =>
        have z := SRs.cons (fp := []) (SR.d r2) (ARep.srs hs r g.2)
        show SRs K av H _ (env.getD i .un :: _) _
        rw [q]
        exact z
    | un => rw [q] at g1; cases g1
    | fl _ => rw [q] at g1; cases g1
    | ob _ _ => rw [q] at g1; cases g1
    | ls _ => rw [q] at g1; cases g1
    | tp _ => rw [q] at g1; cases g1
theorem SRs.len : ∀ {vs : List V} {os : List O} {fp : List Addr}, SRs K av H vs os fp → vs.length = os.length
  | _, _, _, .nil => rfl
  | _, _, _, .cons _ r => by rw [List.length_cons, List.length_cons, SRs.len r]
theorem tupO_ok {as : List Opd} {Q : VK} (h : tOf K mg W (tupO as) σ H Q) : tArg K mg W as σ H fun xs H1 => xs.length ≤ sizeLine ∧ ∀ p, H1 p = none → Q (.ref p) (upd H1 p (.tup xs)) := by
  obtain ⟨env, av, own, hs, w, h⟩ := h
  refine args_ok as hs w ?_
  unfold tupO at h
  cases q : evA as env with
  | st => rw [q] at h; exact h
  | ex c x e => rw [q] at h; exact h
  | ok p =>
    obtain ⟨l, env'⟩ := p
    rw [q, ER.bind_ok] at h
    intro vs H1 av1 t own1 A w1 ha hs1
    cases hg : (l.all (Arg.kept env') && decide (l.length ≤ 1000)) with
    | false => rw [hg, if_neg Bool.false_ne_true] at h; exact h.elim
    | true =>
      rw [hg, if_pos rfl] at h
      rw [Bool.and_eq_true, decide_eq_true_eq] at hg
      have sr := ha.srs hs1 hg.1
      refine ⟨by rw [ha.len]; exact small_line hg.2, fun p hp => ?_⟩
      have gr : Grow H1 (upd H1 p (.tup vs)) := Grow.new hp
      have A2 := A.grow gr
      have w2 := w1.grow gr
      have np : ¬ av1 p := fun z => by
        have := w1.dom p z
        rw [hp] at this; cases this
      refine h (.ref p) _ av1 t own1 A2 w2 (.tp np upd_same (SRs.keepA (.grow gr fun _ z => z) sr fun a u _ e => gr a u e)) (hs1.grow (σ := σ) (env := env') gr fun _ z => z)
theorem lstO_ok {as : List Opd} {Q : VK} (h : tOf K mg W (lstO as) σ H Q) : tArg K mg W as σ H fun xs H1 => xs.length ≤ sizeLine ∧ ∀ p, H1 p = none → Q (.ref p) (upd H1 p (.lst xs)) := by
  obtain ⟨env, av, own, hs, w, h⟩ := h
  refine args_ok as hs w ?_
  unfold lstO at h
  cases q : evA as env with
  | st => rw [q] at h; exact h
  | ex c x e => rw [q] at h; exact h
  | ok p =>
    obtain ⟨l, env'⟩ := p
    rw [q, ER.bind_ok] at h
    intro vs H1 av1 t own1 A w1 ha hs1
    cases hg : (l.all (Arg.kept env') && decide (l.length ≤ 1000)) with
    | false => rw [hg, if_neg Bool.false_ne_true] at h; exact h.elim
    | true =>
      rw [hg, if_pos rfl] at h
      rw [Bool.and_eq_true, decide_eq_true_eq] at hg
      have sr := ha.srs hs1 hg.1
      refine ⟨by rw [ha.len]; exact small_line hg.2, fun p hp => ?_⟩
      have gr : Grow H1 (upd H1 p (.lst vs)) := Grow.new hp
      have A3 := A.new (o := .lst vs) hp
      have w3 := w1.new (o := .lst vs) A hp
      have kn := keep_new (o := .lst vs) A hp
      refine h (.ref p) (upd H1 p (.lst vs)) _ (p :: t) own1 A3 w3 (.ls upd_same (SRs.keepA kn sr fun a u _ e => gr a u e)) (Slots.keep (σ := σ) (env := env') kn hs1 fun a u _ e => gr a u e)
end
section
variable {X : Cx} {W : WX} {pos : Pos} {es : List Expr} {os : List Opd}
theorem v_tupO {k : Nat} (ha : VA X W es os) : VE X W (.Tuple es k pos) (tupO os) := pe_imp (pe_tup ha) fun _ _ _ h => tupO_ok h
theorem v_lstO (ha : VA X W es os) : VE X W (.List es pos) (lstO os) := pe_imp (pe_lst ha) fun _ _ _ h => lstO_ok h
end
def O.flatO : O → Bool
  | .d x => x.flat
  | _ => false
def Arg.whole (env : Ev) : Arg → Bool
  | .tmp o => !o.isUn
  | .sl i => !(env.getD i .un).isUn
def lendR (env : Ev) : ER (O × Ev) → ER (O × Ev)
  | .ok p => if p.1.flatO then .ok (p.1, env) else .st
  | .ex c x _ => if x.flat then .ex c x env else .st
  | .st => .st
def callL (F : Fe) (as : List Opd) : Fe := fun env => (evA as env).bind fun p => if p.1.all (Arg.whole p.2) then lendR p.2 (F (argsOf none p.1 p.2)) else .st
section
variable {K : PySem.W.Frag} {mg : Str → Option Value} {W : WX} {av av1 av' : Addr → Prop} {H H1 : Hp} {own own1 t : List Addr} {σ : L2.St}
theorem ARep.frozenAll {env : Ev} (hs : Slots K av H σ env own) (s : ∀ a, av' a → av a) (no : ∀ a, a ∈ own → ¬ av' a) : ∀ {vs : List V} {l : List Arg} {t : List Addr}, ARep K av H σ vs l t → (∀ a, a ∈ t → ¬ av' a) → l.all (Arg.whole env) = true → Slots K av' H (vs.map some) (argsOf none l env) []
  | _, _, _, .nil, _, _ => .nil
  | _, _, _, .tmp (o := o) h r, n, g => by
    rw [List.all_cons, Bool.and_eq_true] at g
    have g1 : (!o.isUn) = true := g.1
    exact Slots.cons (fp := []) (.d (h.frozen (by simpa using g1) s fun a m => n a (List.mem_append_left _ m))) (ARep.frozenAll hs s no r (fun a m => n a (List.mem_append_right _ m)) g.2)
  | _, _, _, .sl (i := i) h r, n, g => by
    rw [List.all_cons, Bool.and_eq_true] at g
    have g1 : (!(env.getD i .un).isUn) = true := g.1
    have g2 : (env.getD i .un).isUn = false := by simpa using g1
    obtain ⟨v, fp, e1, e2, m⟩ := slot_some hs g2
    rw [h] at e1
    cases e1
    exact Slots.cons (fp := []) (.d (e2.frozen g2 s fun a z => no a (m a z))) (ARep.frozenAll hs s no r n g.2)
theorem RD.flat_any {v : V} {x : D} {av2 : Addr → Prop} {H2 : Hp} (h : RD K av H v x) (f : x.flat = true) : RD K av2 H2 v x := by
  cases h <;> first | (cases f; done) | constructor
theorem callL_ok {n : Nat} {F : Fe} {as : List Opd} {Q : VK} (hn : as.length = n) (h : tOf K mg W (callL F as) σ H Q) : tArg K mg W as σ H fun vs H1 => spF K mg n F vs H1 Q fun cls d H' => W cls d σ H' := by
  obtain ⟨env, av, own, hs, w, h⟩ := h
  refine args_ok as hs w ?_
  unfold callL at h
  cases q : evA as env with
  | st => rw [q] at h; exact h
  | ex c x e => rw [q] at h; exact h
  | ok p =>
    obtain ⟨l, env'⟩ := p
    have hl := evA_length q
    rw [q, ER.bind_ok] at h
    intro vs H1 av1 t own1 A w1 ha hs1
    have hvn : vs.length = n := by rw [ha.len, hl, hn]
    cases hg : l.all (Arg.whole env') with
    | false => rw [hg, if_neg Bool.false_ne_true] at h; exact h.elim
    | true =>
      rw [hg, if_pos rfl] at h
      -- nothing of ours is owned meanwhile
      have sb : ∀ a, drp av own [] a → av1 a := fun a z => (A.av_ a).mpr (z.elim .inl fun z => nomatch z)
      have out : ∀ a, a ∈ t ++ own1 → ¬ drp av own [] a := fun a m z => by
        rcases z with z | z
        · rcases A.fresh a m with q | q
          · exact z.2 q
          · have := w.dom a z.1
            rw [q] at this; cases this
        · cases z
      have sl := ARep.frozenAll hs1 sb (fun a m => out a (List.mem_append_right _ m)) ha (fun a m => out a (List.mem_append_left _ m)) hg
      refine spF_of hvn sl ⟨List.nodup_nil, fun _ m => (nomatch m), fun a z => w1.dom a (sb a z)⟩ ?_
      have A2 := Adv.drop A
      have w2 := OkW.drop A w1
      have s2 := drp_sub A
      cases qf : F (argsOf none l env') with
      | st => rw [qf] at h; exact h
      | ok p =>
        rw [qf] at h
        have h : EPost K mg W av H own σ Q (if p.1.flatO then .ok (p.1, env') else .st) := h
        cases hf : p.1.flatO with
        | false => rw [hf, if_neg Bool.false_ne_true] at h; exact h.elim
        | true =>
          rw [hf, if_pos rfl] at h
          intro v H3 av3 fp c' B w3 r s3
          have gr : Grow H1 H3 := fun a o e => B.ext a o e (fun m => nomatch m)
          have r' : SR K (drp av own own1) H3 (some v) p.1 [] := by
            cases qo : p.1 with
            | d x =>
              rw [qo] at r hf
              cases r with | d r => exact .d (r.flat_any hf)
            | un => rw [qo] at hf; cases hf
            | fl _ => rw [qo] at hf; cases hf
            | ob _ _ => rw [qo] at hf; cases hf
            | ls _ => rw [qo] at hf; cases hf
            | tp _ => rw [qo] at hf; cases hf
          exact h v H3 _ [] own1 (A2.grow gr) (w2.grow gr) r' (hs1.grow (σ := σ) (env := env') gr s2)
      | ex c x outs =>
        rw [qf] at h
        have h : EPost K mg W av H own σ Q (if x.flat then .ex c x env' else .st) := h
        cases hf : x.flat with
        | false => rw [hf, if_neg Bool.false_ne_true] at h; exact h.elim
        | true =>
          rw [hf, if_pos rfl] at h
          intro cls dd v H3 av3 c' hcl B w3 hd r s3
          have gr : Grow H1 H3 := fun a o e => B.ext a o e (fun m => nomatch m)
          exact h cls dd v H3 _ own1 hcl (A2.grow gr) (w2.grow gr) hd (r.flat_any hf) (hs1.grow (σ := σ) (env := env') gr s2)
end
section
variable {X : Cx} {W : WX} {pos p : Pos} {e : Expr} {es : List Expr} {os : List Opd} {x : Str}
theorem v_callL {k : Nat} {f : Addr} {fd : FuncData} {ps : List Str} {F : Fe} (hF : FnV X.prog X.w X.K X.mg X.base k f fd ps F) (hr : Room k X.A) (hg : Gl X x) (hm : X.mg x = some (.ref f)) (hk : PySem.W.keepIn X.K (.ref f) = true) (hb : Binds X.K fd ps []) (tk : Takes X W)
    (ha : VA X W (e :: es) os) (hn : os.length = ps.length := by rfl) (hdb : (x == ("__debug__" : Str)) = false := by decide)
    (he : starEach (e :: es) X.env = (false, eval e X.env) :: starEach es X.env := by rfl) (hpl : (backTo pos (starEach es X.env)).any (·.1) = false := by rfl) : VE X W (.Call (.Name x p) (e :: es) [] pos) (callL F os) := by
  refine pe_imp (pe_callSD (E := fun σ cls d H' => W cls d σ H') hF hr hg hm hk hb .nil (fun σ => passAt tk σ) ha hdb he hpl) fun σ H Q h => tArg_mono (fun vs H1 h => ?_) (callL_ok hn h)
  rw [List.append_nil]
  exact h
end
end VL

set_option Elab.async false
set_option linter.all false
set_option maxRecDepth 100000
set_option maxHeartbeats 4000000
namespace XW
open PySem PySem.W PySem.Calls PyProof.Rows PySem.HandSPX
section
variable {prog : Program} {w : World} {A : Around} {E : Value → Shared → Prop} {h : Heap} {g : Array GenState} {d : Drawn} {t : Nat} {os : OsState}
variable {nm q : Str} {C N : Addr} {bs bm : List Value} {hdct : Bool} {sn : List Str} {sub : List Value} {ab : Bool} {col : Option Bool} {dd : Option Addr} {k0 k1 k2 k3 k5 : Option Value}
theorem call_mw {u e t0 : Addr} {rest : List Value} {Q : Value → Shared → Prop}
    (hC : h.get? C = some (excClassObj nm q C N bs bm hdct sn sub ab col dd k0 k1 k2 k3 k5 "ValueError.__new__")) (he : h.get? e = some (HandSPX.excO C t0)) (hu : h.get? u = some (kxs_mw "ValueError.__init__" e)) (hz : rest.length ≤ sizeLine)
    (hq : ∀ h' t1, (∀ b o, b ≠ e → h.get? b = some o → h'.get? b = some o) → h'.get? e = some (HandSPX.excO C t1) → Q .none ⟨h', g, d, t, os⟩) :
    wpAny (model prog w) A (call (.ref u) rest) Q E ⟨h, g, d, t, os⟩ := by
  refine wpAny_call (codeAny_of_tree ?_)
  show wpAny _ A.in1 (callAny (.ref u) ⟨rest, []⟩) _ _ _
  simp only [callAny]
  refine wpAny_bind (wpAny_load hu ?_)
  simp only [kxs_mw, show (Value.type "method-wrapper" == Value.type "method" || Value.type "method-wrapper" == Value.type "builtin_function_or_method" || Value.type "method-wrapper" == Value.type "method-wrapper") = true by decide, if_true]
  refine W.KFB.if_so (by decide) ?_
  refine wpAny_bind (check_bound_init F.excBase_ValueError.toExcCallFacts hC he rfl ?_)
  refine wpAny_bind (wpAny_pure (wpAny_pure ?_))
  refine ⟨Code.quiet_builtin _ (by decide +kernel), codeAny_builtin F.excBase_ValueError.initEntry ?_⟩
  rw [Around.under_plainId F.excBase_ValueError.init.plain _]
  wp_walk
  refine hq _ h.objs.size (fun b o hb ho => ?_) ?_
  · rw [Heap.get?_update_other _ _ (Ne.symm hb)]
    exact Heap.get?_push_of_some _ ho
  · rw [Heap.get?_update_self _ (Heap.get?_push_of_some _ he) rfl]
    rfl
end
def xA : Arguments := { posonlyargs := [], args := [{ arg := "self", annotation := none, pos := ⟨4, 17, 4, 21⟩ }, { arg := "value", annotation := none, pos := ⟨4, 23, 4, 28⟩ }], vararg := none, kwonlyargs := [], kw_defaults := [], kwarg := none, defaults := [] }
def xB : List Stmt := [.Expr (.Call (.Attribute (.Call (.Name "super" ⟨5, 8, 5, 13⟩) [] [] ⟨5, 8, 5, 15⟩) "__init__" ⟨5, 8, 5, 24⟩) [.Constant (.str "listworks") 0 ⟨5, 25, 5, 36⟩] [] ⟨5, 8, 5, 37⟩) ⟨5, 8, 5, 37⟩, .Assign [.Attribute (.Name "self" ⟨6, 8, 6, 12⟩) "value" ⟨6, 8, 6, 18⟩] (.Name "value" ⟨6, 21, 6, 26⟩) ⟨6, 8, 6, 26⟩]
def xS : Scope := { kind := .function, names := [(PySem.Str.ofString "self", .local), (PySem.Str.ofString "value", .local), (PySem.Str.ofString "__class__", .free), (PySem.Str.ofString "super", .globalImplicit)], isGenerator := false, isCoroutine := false, more := [] }
/-- what the written part says of the class at C: its name x, its __init__ at fI written in the class at D -/
structure XTxt (prog : Program) (K : Frag) (mg : Str → Option Value) (x : Str) (C : Addr) : Prop where
  gC : mg x = some (.ref C)
  sup : mg "super" = none
  cls : ∃ nm q N bs bm sn sub ab col dd k0 k1 k2 k3 k5, K.lookup C = some (excClassObj nm q C N bs bm true sn sub ab col dd k0 k1 k2 k3 k5 "ValueError.__new__") ∧ HandSPX.refsVE bm = true
  sa : findIn K (.ref C) "__setattr__" = some (some (.builtin "object.__setattr__"))
  ga : findIn K (.ref C) "__getattribute__" = some (some (.builtin "BaseException.__getattribute__"))
  gg : findIn K (.ref C) "__getattr__" = some none
  noN : findIn K (.ref C) "value" = some none
  kC : keepIn K (.ref C) = true
  exC : subIn K (.ref C) (.type "BaseException") = some true
  tyC : typeIn K (.ref C) = some (.type "type")
  hdC : hasDictIn K C = true
  te : exmOne K (.ref C) (.ref C) = some true
  any : nsIn K cStatics "thirdparty.any" = some none
  top : (prog.main.scope.names.lookup ("super" : Str)).isSome = false
  fn : ∃ (fI D cc cda : Addr) (oc : Value) (od : Option Addr) (doc pm : Value) (an : Option Addr) (ct : Value) (osl : Array (Option Value)) (vs : Array Value) (file : Str) (tf : Tok) (ccl cl : Value) (cdd cld : Option Addr) (ccs csl : Array (Option Value)) (cdD : ClassData),
    findIn K (.ref C) "__init__" = some (some (.ref fI)) ∧ typeIn K (.ref fI) = some (.type "function") ∧
    K.lookup fI = some ⟨oc, od, .func (ksFn "__init__" "WindowError.__init__" xA xB xS .none .none doc pm an (.ref cda) ct cc), osl⟩ ∧ codeIn K (.ref cda) "WindowError.__init__" = true ∧
    K.lookup cda = some ⟨ccl, cdd, .fields vs, ccs⟩ ∧ vs[2]? = some (.str file tf) ∧ ((prog.main.file : Str) == file) = true ∧
    K.lookup cc = some ⟨cl, cld, .cell (some (.ref D)), csl⟩ ∧ clsIn K D = some cdD ∧ mroIn K C (.ref D) = some true ∧ ks_superIn K C D "__init__" = some (some (.builtin "ValueError.__init__")) ∧
    subIn K (.ref C) (.type "ValueError") = some true
theorem one_size (v : Value) : [v].length ≤ sizeLine := by
  rw [sizeLine_eq]
  exact (by decide : 1 ≤ 16777216)
/-- a made one -/
structure OwnMade (h h' : Heap) (e C d : Addr) (v : Value) : Prop where
  keep : ∀ b o, h.get? b = some o → h'.get? b = some o
  new : h.objs.size ≤ e
  obj : ∃ oe vs, h'.get? e = some oe ∧ oe.cls = .ref C ∧ oe.dict = some d ∧ oe.data = .fields vs ∧ vs[1]? = some .none
  dbig : h.objs.size ≤ d
  dne : d ≠ e
  ns : h'.Ns1 d (fun y => if y = "value" then some v else none)
/-- what __init__ leaves of a fresh exception at x -/
structure InitEnd (h h' : Heap) (x C dx t1 : Addr) (v : Value) : Prop where
  keep : ∀ b o, b ≠ x → h.get? b = some o → h'.get? b = some o
  obj : h'.get? x = some { cls := .ref C, dict := some dx, data := .fields #[.ref t1, .none, .none, .none, .bool false, .none] }
  dbig : h.objs.size ≤ dx
  dne : dx ≠ x
  ns : h'.Ns1 dx (fun y => if y = "value" then some v else none)
section
variable {prog : Program} {w : World} {A : Around} {E : Value → Shared → Prop} {R : Result → Shared → Prop} {s : Shared} {K : Frag} {mg : Str → Option Value} {C fI : Addr} {nm : Str}
theorem x_init (T : XTxt prog K mg nm C) (hi : findIn K (.ref C) "__init__" = some (some (.ref fI))) {x t0 : Addr} {v : Value} (X : K.In s.heap) (G : s.heap.Ns mainGlobals mg) (B : ∃ mb, s.heap.Ns builtinsNs mb ∧ mb "super" = some (.type "super"))
    (hlim : s.heap.NoLimit) (hx : s.heap.get? x = some (HandSPX.excO C t0)) (hnx : K.lookup x = none) (hroom : A.depth < recursionLimit)
    (hq : ∀ h' tk dx t1, InitEnd s.heap h' x C dx t1 v → R (.ok (.ret .none)) { s with heap := h', toks := tk }) :
    codeAny (model prog w) A (.call (.ref fI) ⟨[.ref x, v], []⟩) R s := by
  obtain ⟨fI', D, cc, cda, oc, od, doc, pm, an, ct, osl, vs, file, tf, ccl, cl, cdd, cld, ccs, csl, cdD, hi', tF, ho, hcd, hcode, hvs, hfile, hcell, hD, hsub, hsup, hve⟩ := T.fn
  obtain rfl : fI = fI' := by
    rw [hi] at hi'
    cases hi'
    rfl
  obtain ⟨nm', q, N, bs, bm, sn, sub, ab, col, dd, k0, k1, k2, k3, k5, hC, hbm⟩ := T.cls
  have hcl : clsIn K C = some { name := nm', bases := bs, mro := .ref C :: bm, ns := N, qualname := q, hasDict := true, slotNames := sn, subclasses := sub, abstract := ab, collection := col, hasDel := false } := by unfold clsIn; rw [hC] <;> rfl
  refine ks_codeAny_call_defAt (binds := [("self", .ref x), ("value", v)]) hroom (X _ _ ho) rfl hlim (codeRec_of X hcd) rfl (BindsTo.of_eq (by first | rfl | with_unfolding_all rfl)) (show ∀ y ∈ xS.names, y.2 ≠ .cell by decide) (fun y hy => ?_) (fun h₁ hn k => ?_)
  · rcases List.mem_cons.mp hy with rfl | hy
    · rfl
    · rcases List.mem_cons.mp hy with rfl | hy
      · rfl
      · cases hy
  have X₁ : K.In h₁ := X.keeps k
  have hx₁ := k _ _ hx
  refine ks_wpAt_execs_cons (ks_wpAt_Expr_any (ks_wpAt_MethodCall ?_))
  have hL : s.heap.objs.size ≠ x := Nat.ne_of_gt (Heap.lt_size hx)
  obtain ⟨oD, hD1, hD2⟩ : ∃ oD, h₁.get? D = some oD ∧ oD.data = .cls cdD := by
    unfold clsIn at hD
    split at hD
    · rename_i ho2
      cases hD
      exact ⟨_, X₁ _ _ ho2, rfl⟩
    · cases hD
  obtain ⟨mb, hB, hBs⟩ := B
  refine ks_wpAt_super_base (of := ⟨oc, od, .func (ksFn "__init__" "WindowError.__init__" xA xB xS .none .none doc pm an (.ref cda) ct cc), osl⟩) (oc := ⟨ccl, cdd, .fields vs, ccs⟩) (ar := { arg := "self", annotation := none, pos := ⟨4, 17, 4, 21⟩ }) rfl rfl rfl rfl (X₁ _ _ ho) rfl rfl rfl (X₁ _ _ hcode) rfl hvs hfile T.top ?_
  refine ks_loadName_global rfl rfl (loadGlobal_builtin (mg := mg) (mb := mb) (G.keeps k) T.sup (hB.keeps k) hBs ⟨rfl, ?_⟩)
  refine wpAny_loadName_free (v := .ref D) rfl rfl rfl ⟨_, X₁ _ _ hcell, rfl⟩ ?_
  refine wpAny_loadName_local (v := .ref x) rfl rfl hn rfl ?_
  refine ks_wpAny_isType_cls hD1 hD2 ⟨rfl, ?_⟩
  refine ks_wpAny_call_super (x := x) hD1 hD2 hx₁ rfl (fun c e => by cases e) (looks_mroIn X₁ hsub) (fun h₂ e₂ k₂ => ?_)
  have X₂ : K.In h₂ := X₁.keeps k₂
  have hx₂ := k₂ _ _ hx₁
  have hs2 : (clsIn K C).bind (fun cd => alongIn K "__init__" ((cd.mro.dropWhile (· != .ref D)).drop 1)) = some (some (.builtin "ValueError.__init__")) := hsup
  rw [hcl, Option.bind_some] at hs2
  have LI : Looks (model prog w) h₂ (isInstance (.ref x) (.type "ValueError")) true := Looks.andThen (a := .ref C) (fun A Q E s k q => wpAny_typeOf_ref (k _ _ hx₂) q) (looks_subIn X₂ hve)
  have hxC : x ≠ C := fun e => by
    rw [e, hC] at hnx
    cases hnx
  refine kxs_getMethod kxs_ValueError (C := C) e₂ (looks_opaque X₂ T.any) (l₀ := .ref C :: bm) (fun A Q E s k q => wpAny_bind ((looks_clsIn X₂ hcl) A _ E s k (wpAny_pure q))) rfl X₂ hs2 LI hxC rfl ?_
  refine kxs_callWith (i := "ValueError.__init__") (x := x) rfl (evalArgs_plain (args_cons (Constant_str (args_nil ⟨Heap.get?_push_size _ rfl, ?_⟩))))
  have k₃ : ∀ b o, h₂.get? b = some o → (h₂.push (kxs_mw "ValueError.__init__" x)).get? b = some o := fun b o e => Heap.get?_push_of_some _ e
  refine call_mw (X₂.keeps k₃ _ _ hC) (k₃ _ _ hx₂) (Heap.get?_push_size _ rfl) (one_size _) (fun h₄ t₁ k₄ hx₄ => ?_)
  -- self.value = value
  have X₄ : K.In h₄ := fun b o e => k₄ b o (fun z => by
    rw [z, hnx] at e
    cases e) (X₂.keeps k₃ _ _ e)
  have hn₄ : h₄.Ns s.heap.objs.size (fun y => [(("self" : Str), Value.ref x), ("value", v)].reverse.lookup y) := hn.at fun o e => k₄ _ o hL (k₃ _ _ (k₂ _ _ e))
  refine wpAt_of_wpAny (wpAny_execs_cons (plainObj_wpAny_Assign_Attribute ?_))
  have ld : ∀ {y : Str} {u : Value} {ps : Pos} {Q : Value → Shared → Prop} {E' : Value → Shared → Prop} {tk : Nat} {A' : Around}, [(("self" : Str), Value.ref x), ("value", v)].reverse.lookup y = some u → xS.names.lookup y = some .local → (y == ("__debug__" : Str)) = false →
      Q u ⟨h₄, s.gens, s.drawn, tk, s.os⟩ → wpAny (model prog w) A' (eval (.Name y ps) (callEnv (ksFn "__init__" "WindowError.__init__" xA xB xS .none .none doc pm an (.ref cda) ct cc) s.heap.objs.size fI)) Q E' ⟨h₄, s.gens, s.drawn, tk, s.os⟩ :=
    fun e1 e2 e3 q => wpAny_Name (wpAny_loadName_local rfl e2 hn₄ e1 q) e3
  refine ld (y := "value") rfl rfl rfl (ld (y := "self") rfl rfl rfl ?_)
  refine set_plain X₄ (ox := HandSPX.excO C t₁) (od := none) ⟨hx₄, rfl, rfl, trivial⟩ T.sa ?_
  refine exc_osa X₄ hx₄ hcl (show HandSPX.refsVE (.ref C :: bm) = true from hbm) rfl T.noN (fun h₅ tk₅ dx k₅ dn dne hx₅ hn₅ => ?_)
  show wpAny _ _ (execs _ _) _ _ _
  have old : ∀ b o, b ≠ x → s.heap.get? b = some o → h₅.get? b = some o := fun b o hb e => k₅ b o hb (k₄ b o hb (k₃ _ _ (k₂ _ _ (k b o e))))
  have big : s.heap.objs.size ≤ dx := by
    have z : s.heap.objs.size < h₄.objs.size := hn₄.lt
    exact Nat.le_of_lt (Nat.lt_of_lt_of_le z dn)
  exact wpAny_execs_nil (hq h₅ tk₅ dx t₁ ⟨old, hx₅, big, dne, hn₅⟩)
theorem x_made (T : XTxt prog K mg nm C) {v : Value} (X : K.In s.heap) (G : s.heap.Ns mainGlobals mg) (B : ∃ mb, s.heap.Ns builtinsNs mb ∧ mb "super" = some (.type "super")) (hlim : s.heap.NoLimit) (hroom : A.depth + 1 < recursionLimit)
    (hq : ∀ h' tk e d, OwnMade s.heap h' e C d v → R (.ok (.ret (.ref e))) { s with heap := h', toks := tk }) :
    codeAny (model prog w) A (.call (.ref C) ⟨[v], []⟩) R s := by
  obtain ⟨fI, D, cc, cda, oc, od, doc, pm, an, ct, osl, vs, file, tf, ccl, cl, cdd, cld, ccs, csl, cdD, hi, tF, _⟩ := T.fn
  obtain ⟨nm', q, N, bs, bm, sn, sub, ab, col, dd, k0, k1, k2, k3, k5, hC, hbm⟩ := T.cls
  obtain ⟨hp, g, dr, tk, os⟩ := s
  have k : ∀ b o, hp.get? b = some o → ((hp.push (kdv_tup [v])).push (HandSPX.excO C hp.objs.size)).get? b = some o := fun b o e => Heap.get?_push_of_some _ (Heap.get?_push_of_some _ e)
  have hget : ((hp.push (kdv_tup [v])).push (HandSPX.excO C hp.objs.size)).get? (hp.objs.size + 1) = some (HandSPX.excO C hp.objs.size) := by heap_get
  have hnx : K.lookup (hp.objs.size + 1) = none := by
    cases e : K.lookup (hp.objs.size + 1) with
    | none => rfl
    | some o => exact absurd (Nat.lt_of_succ_lt (Heap.lt_size (X _ _ e))) (Nat.lt_irrefl _)
  refine call_own F.excBase_ValueError (fun Y => refsVE_contains Y bm hbm) (X _ _ hC) (looks_findIn X hi) (fun self => bind_fn X self tF) (one_size v) ?_
  obtain ⟨mb, hB, hBs⟩ := B
  refine x_init (s := ⟨(hp.push (kdv_tup [v])).push (HandSPX.excO C hp.objs.size), g, dr, tk, os⟩) T hi (X.keeps k) (G.keeps k) ⟨mb, hB.keeps k, hBs⟩ (hlim.keeps k) hget hnx ?_ fun h' tk' dx t1 ⟨k', hx, dn, dne, hns⟩ => ?_
  · show A.depth + 1 < recursionLimit
    exact hroom
  · have old : ∀ b o, hp.get? b = some o → h'.get? b = some o := fun b o e => k' b o (Nat.ne_of_lt (Nat.lt_succ_of_lt (Heap.lt_size e))) (k b o e)
    have z : hp.objs.size + 1 + 1 ≤ dx := by
      have q := dn
      first
        | exact q
        | (simpa only [Heap.size_push] using q)
        | (rw [Heap.size_push, Heap.size_push] at q; exact q)
    exact ⟨rfl, hq h' tk' (hp.objs.size + 1) dx ⟨old, Nat.le_succ _, ⟨_, _, hx, rfl, rfl, rfl, rfl⟩, Nat.le_trans (Nat.le_trans (Nat.le_succ _) (Nat.le_succ _)) z, dne, hns⟩⟩
end
end XW
namespace VL
open PySem PySem.Spec PyProof.Rows L2
theorem relO_val {v : V} {v' : Value} (r : RelV v v') (f : Str) : RelO (List.lookup f [(("value" : Str), v)]) (if f = "value" then some v' else none) := by
  by_cases hw : f = "value"
  · subst hw
    rw [if_pos rfl, show List.lookup ("value" : Str) [(("value" : Str), v)] = some v by simp [List.lookup]]
    exact r
  · have qw : (f == ("value" : Str)) = false := by simpa using hw
    rw [if_neg hw, show List.lookup f [(("value" : Str), v)] = none by simp [List.lookup, qw]]
    trivial
section
variable {X : Cx} {C : Addr} {nm : Str}
/-- X(e) -/
def tMkX (C : Addr) (ta : TA) : L2.St → Hp → XK → Prop := fun σ H Q => ta σ H fun vs H1 => ∃ v, vs = [v] ∧ ∀ d, H1 d = none → Q (.ref C) (some d) (upd H1 d (.xd [(("value" : Str), v)]))
theorem pmk_x {a : Expr} {ta : TA} {p pos : Pos} {k : Nat} (T : XW.XTxt X.prog X.K X.mg nm C) (hr : Room k X.A) (ha : PA X [a] ta) (hg : Gl X nm) (hdb : (nm == ("__debug__" : Str)) = false := by decide)
    (he : starEach (a :: []) X.env = (false, eval a X.env) :: starEach [] X.env := by rfl) (hpl : (backTo pos (starEach [] X.env)).any (·.1) = false := by rfl) :
    PMk X (.Call (.Name nm p) [a] [] pos) (tMkX C ta) := by
  intro pins s σ H Q I h
  refine wpAny_Call_Name_kw (ld_glob I hg T.gC ?_ hdb)
  refine PySem.W.callWith_K (h₀ := X.base) I.ok.mod.kin T.kC (thn (ha.run pos pins s σ H _ I h) fun us s1 hh => ?_) he hpl
  obtain ⟨vs, H1, I1, r1, v, ev, q1⟩ := hh
  subst ev
  refine ⟨I1.kIn, ?_⟩
  cases r1 with
  | cons rv rn =>
    rename_i v' us'
    cases rn
    show wpAny _ _ (call (.ref C) [v']) _ _ _
    have hlim := I1.nolimit
    obtain ⟨mb, hb1, hb2⟩ := I1.mod.blt
    have GG := I1.mod.glob.keeps I1.bk
    have BB : ∃ mb, s1.heap.Ns builtinsNs mb ∧ mb "super" = some (.type "super") := ⟨mb, hb1.keeps I1.bk, (hb2 _ (by decide)).trans (by decide +kernel)⟩
    obtain ⟨hp, g, dr, tk, os⟩ := s1
    refine wpAny_call (XW.x_made T I1.kIn GG BB hlim (by have := hr.dp; omega) fun h' tk' e d M => ?_)
    show MkP X pins σ Q (.ref e) ⟨h', g, dr, tk', os⟩
    obtain ⟨oe, fv, hoe, hc, hd, hdat, h1⟩ := M.obj
    have hns := M.ns
    obtain ⟨G', g1, g2⟩ := restrict h' fun b => decide (b ≠ e)
    have gk : ∀ b, b ≠ e → G'.get? b = h'.get? b := fun b hb => g1 b (decide_eq_true hb)
    have ge : G'.get? e = none := g2 e (by simp)
    have old : ∀ b o, hp.get? b = some o → G'.get? b = some o := fun b o q => (gk b (Nat.ne_of_lt (Nat.lt_of_lt_of_le (Heap.lt_size q) M.new))).trans (M.keep b o q)
    have ob : ObjOk X.prog X.w (upd H1 d (.xd [(("value" : Str), v)])) G' d (.xd [(("value" : Str), v)]) := ⟨_, hns.at (fun o q => (gk d M.dne).trans q), fun f => relO_val rv f⟩
    have J : Inv X pins σ (upd H1 d (.xd [(("value" : Str), v)])) ⟨G', g, dr, tk', os⟩ := I1.laid (t' := tk') old M.dbig ob
    refine ⟨e, oe, fv, ⟨G', g, dr, tk', os⟩, _, .ref C, some d, rfl, J, fun b o q => ?_, ge, hoe, ⟨hc, hd⟩, hdat, h1, ?_, rfl, I1.bare, raises_own T.exC T.tyC, q1 d (I1.hok.fresh M.dbig)⟩
    · by_cases hb : b = e
      · have q' : G'.get? b = some o := q
        rw [hb, ge] at q'
        cases q'
      · exact (gk b hb).symm.trans q
    · rw [upd_ne (Ne.symm M.dne)]
      exact I1.hok.fresh M.new
end
end VL

set_option Elab.async false
set_option linter.all false
set_option maxRecDepth 100000
set_option maxHeartbeats 4000000
namespace VL
open PySem PySem.Spec PyProof.Rows L2

/-- the ends behind a suite whose name is taken away -/
def unset (D : Ends) (i : Nat) : Ends := { nx := fun σ' H' => D.nx (σ'.set i none) H', rt := D.rt, bk := fun σ' H' => D.bk (σ'.set i none) H', ct := fun σ' H' => D.ct (σ'.set i none) H' }
abbrev Cls := Value × Nat × (Addr → Value → Option Addr → TS)
def wAll (K : PySem.W.Frag) (Wout : WX) (D : Ends) : List Cls → WX
  | [] => Wout
  | (c, i, ts) :: r => fun cls d σ H => ∃ b, PySem.W.exmOne K cls c = some b ∧ (b = true → ∀ a, H a = none → ts a cls d (unset D i) (σ.set i (some (.ref a))) H) ∧ (b = false → wAll K Wout D r cls d σ H)
inductive ClsOk (X : Cx) : List ExceptHandler → List Cls → Prop
  | nil : ClsOk X [] []
  | cons {x n : Str} {c : Value} {i : Nat} {ts : Addr → Value → Option Addr → TS} {b₀ : Stmt} {suite : List Stmt} {np pos' : Pos} {hds : List ExceptHandler} {l : List Cls} (hc : Names X x c) (hi : X.N[i]? = some n) (hln : X.env.kindOf n = some .local)
      (hsu : ∀ (a : Addr) (oe : Obj) (cls : Value) (d : Option Addr) (pn : List (Addr × Obj)), Zc cls d oe → (∃ vs, oe.data = .fields vs) → PSs (X.suite a ((a, oe) :: pn)) (b₀ :: suite) (ts a cls d)) (r : ClsOk X hds l) :
      ClsOk X (.ExceptHandler (some (.Name x np)) (some n) (b₀ :: suite) pos' :: hds) ((c, i, ts) :: l)
section
variable {X : Cx} {body : List Stmt} {h₀ : ExceptHandler} {hds : List ExceptHandler} {l : List Cls} {pos : Pos} {tb : WX → TS} {Wout : WX}
theorem ps_try_all (hs : X.stack = X.env :: X.outer) (hf : X.env.frame = some X.env.locals) (hN : X.N.Nodup) (tk : Takes X Wout)
    (hb : ∀ (W : WX) (pn : List (Addr × Obj)) (xe : Value → Shared → Prop), Takes (X.tr pn xe) W → PassesOwn (model X.prog X.w) X.A X.env xe → PSs (X.tr pn xe) body (tb W))
    (hh : ClsOk X (h₀ :: hds) l) : PS X (.Try body (h₀ :: hds) [] [] pos) (fun D σ H => tb (wAll X.K Wout D l) D σ H) := by
  refine ⟨fun pins s σ H D I h => ?_⟩
  have okk := I.ok
  have hfr : X.A.frames = some (X.env :: X.outer) := by rw [okk.frames, hs]
  refine wpAny_Try_except (wpAny_mono ((hb (wAll X.K Wout D l) (X.pn ++ pins) (fun e s₁ => wpAny (model X.prog X.w) X.A (noteFrame e X.env) (fun _ s₂ => wpAny (model X.prog X.w) X.A (setFlight e none) (fun _ s₃ =>
    wpAny (model X.prog X.w) X.A (handleBy e X.env (h₀ :: hds)) (SP X pins D) X.xe s₃) X.xe s₂) X.xe s₁) (fun u s' xx => ?_) PassesOwn.looking).run [] s σ H D (I.toTry _) h) (fun fl s1 hsp => ?_) (fun e s1 he => he))
  · -- what the body let out
    obtain ⟨a, B, sI, pins', σ', H', cls, d, rfl, J', nb, up, sky, na, os, ag, wsh⟩ := xx
    have J : Inv X pins σ' H' sI := J'.ofTry okk
    have sky' : Sky B (X.env :: X.outer) a (Zc cls d) X.env.locals s'.heap := by rw [← hs]; exact sky
    show wpAny (model X.prog X.w) X.A (noteFrame (.ref a) X.env) _ _ _
    refine Sky.land Zc.steady hfr hf sky' fun h3 fl3 up3 => ?_
    have J3 : Inv X pins σ' H' { s' with heap := h3 } := J.landed nb fl3.1 (up.trans up3) os ag
    obtain ⟨oe3, vs3, he3, hz3, hd3⟩ := fl3.there
    have nfr : a ∉ frs (X.env :: X.outer) := fun hm => by
      obtain ⟨_, o', e', hnf⟩ := fl3.2.2.1.mem hm
      rw [he3] at e'
      cases e'
      exact hnf _ hd3
    have nL : a ≠ X.env.locals := fun z => nfr (List.mem_filterMap.mpr ⟨X.env, List.mem_cons_self, by rw [hf, z]⟩)
    have nF : a ∉ X.fs := fun hm => by
      obtain ⟨e, he, q⟩ := List.mem_filterMap.mp hm
      exact nfr (List.mem_filterMap.mpr ⟨e, List.mem_cons_of_mem _ he, q⟩)
    have S3 := J3.suite he3 hd3 na nL nF
    have go : ∀ {hds' : List ExceptHandler} {l' : List Cls}, ClsOk X hds' l' → wAll X.K Wout D l' cls d σ' H' → wpAny (model X.prog X.w) X.A (handleBy (.ref a) X.env hds') (SP X pins D) X.xe { s' with heap := h3 } := by
      intro hds' l' hk
      induction hk with
      | nil =>
        intro wsh
        refine wpAny_handleBy_nil ?_
        obtain ⟨k1, k2, k3, oe, vs, T, oT, ts', he, hz, hd, h1, hr⟩ := id fl3
        unfold PySem.passOn
        refine wpAny_bind (wpAny_field he hd h1 ?_)
        rw [if_neg (show ¬ ((Value.ref T == Value.none) = true) from by simp)]
        have fin : wpAny (model X.prog X.w) X.A (setFlight (.ref a) X.env.frame) (fun _ s4 => wpAny (model X.prog X.w) X.A (throw (.ref a) : Sem Flow) (SP X pins D) X.xe s4) X.xe { s' with heap := h3 } := by
          rw [hf]
          exact HandSPX.setFlight_upZ fl3 fun h4 hh4 up4 => wpAny_throw (tk _ _ ⟨a, B, sI, pins, σ', H', cls, d, rfl, J, nb, (up.trans up3).trans up4, .inr (.inr (by rw [hs]; exact hh4)), na, os, ag, wsh⟩)
        first
          | exact wpAny_bind (wpAny_pure (wpAny_bind fin))
          | exact wpAny_bind fin
      | @cons x n c i ts b₀ suite np pos' hds2 l2 hc hi hln hsu r ih =>
        intro wsh
        obtain ⟨b, hb1, hyes, hno⟩ := wsh
        refine wpAny_handleBy_cons (codeAny_handlers_test ?_) (by intro q; cases q)
        have LT : PySem.W.Looks (model X.prog X.w) h3 (typeOf (.ref a)) cls := fun A Q E s k q => wpAny_typeOf_ref (k _ _ he3) (by rw [hz3.1]; exact q)
        have LM := PySem.W.exm_one (M := model X.prog X.w) (J3.kIn) LT hb1
        have test : ∀ {Q : Value → Shared → Prop} {E : Value → Shared → Prop}, Q c { s' with heap := h3 } → wpAny (model X.prog X.w) (X.A.mark (some (.ref a))) (eval (.Name x np) X.env) Q E { s' with heap := h3 } := fun {Q E} q => by
          obtain ⟨hg, hdbg, hm | ⟨hm, hv, hnn⟩⟩ := hc
          · exact ld_glob (X := X.suite a ((a, oe3) :: (X.pn ++ pins))) S3 hg hm q hdbg
          · exact ld_blt (X := X.suite a ((a, oe3) :: (X.pn ++ pins))) S3 hg hm hv q hnn hdbg
        refine test (LM.here ?_)
        cases b with
        | true =>
          refine codeAny_handlers_suite_as (HandSPX.lands_againZ fl3 fun h4 fl4 up4 => ?_)
          have J4 : Inv X pins σ' H' { s' with heap := h4 } := J.landed nb fl4.1 ((up.trans up3).trans up4) os ag
          obtain ⟨oe4, vs4, he4, hz4, hd4⟩ := fl4.there
          have S4 := J4.suite he4 hd4 na nL nF
          refine store_ok (X := X.suite a ((a, oe4) :: (X.pn ++ pins))) (v := .ref a) S4 hN hi (Or.inl hln) rfl (fun s5 S5 => ?_) (.inr hln)
          refine wpAny_mono ((hsu a oe4 cls d (X.pn ++ pins) hz4 ⟨_, hd4⟩).run [] s5 _ H' _ S5 (hyes rfl a na)) (fun f s6 hsp => ?_) (fun _ _ z => False.elim z)
          have done : ∀ {σ6 : L2.St} {H6 : Hp} {Q : Shared → Prop}, Inv (X.suite a ((a, oe4) :: (X.pn ++ pins))) [] σ6 H6 s6 → (∀ s7, Inv X pins (σ6.set i none) H6 s7 → Q s7) →
              wpAny (model X.prog X.w) X.A (do bindName X.env n .none; unbindBehindTheSuite X.env n pos') (fun _ s7 => Q s7) X.xe s6 := fun {σ6 H6 Q} S6 hq => gone_ok (S6.unsuite okk) hN hi hln hq
          cases f with
          | next => exact let ⟨σ6, H6, S6, q6⟩ := hsp; done S6 fun s7 J7 => ⟨_, _, J7, q6⟩
          | brk => exact let ⟨σ6, H6, S6, q6⟩ := hsp; done S6 fun s7 J7 => ⟨_, _, J7, q6⟩
          | cont => exact let ⟨σ6, H6, S6, q6⟩ := hsp; done S6 fun s7 J7 => ⟨_, _, J7, q6⟩
          | ret u => exact let ⟨v6, σ6, H6, S6, r6, q6⟩ := hsp; done S6 fun s7 J7 => ⟨_, _, _, J7, r6, q6⟩
        | false =>
          show wpAny _ X.A (handleBy (.ref a) X.env hds2) _ _ _
          exact ih (hno rfl)
    exact go hh wsh
  · cases fl with
    | next => exact let ⟨σ', H', J', q⟩ := hsp; wpAny_execs_nil ⟨σ', H', J'.ofTry okk, q⟩
    | brk => exact let ⟨σ', H', J', q⟩ := hsp; ⟨σ', H', J'.ofTry okk, q⟩
    | cont => exact let ⟨σ', H', J', q⟩ := hsp; ⟨σ', H', J'.ofTry okk, q⟩
    | ret u => exact let ⟨v, σ', H', J', r, q⟩ := hsp; ⟨v, σ', H', J'.ofTry okk, r, q⟩
end
end VL

set_option Elab.async false
set_option linter.all false
set_option maxRecDepth 100000
namespace VL
open PySem PySem.Spec PyProof.Rows L2

/-- raise nm(e) -/
def raiseS (nm : Str) (e : Fe) : Fs := fun env => (e env).then fun p => if p.1.isUn then .st else .ex nm p.1.toD p.2
section
variable {X : Cx} {W : WX} {pn : List Nat}
theorem s_raise {C : Addr} {nm : Str} {a : Expr} {fe : Fe} {p pos pos2 : Pos} {k : Nat} (hc : X.calm = true) (T : XW.XTxt X.prog X.K X.mg nm C) (hr : Room k X.A) (tk : Takes X W) (ha : VE X W a fe) (hg : Gl X nm) (hdb : (nm == ("__debug__" : Str)) = false := by decide)
    (he : starEach (a :: []) X.env = (false, eval a X.env) :: starEach [] X.env := by rfl) (hpl : (backTo pos (starEach [] X.env)).any (·.1) = false := by rfl) :
    VS X W pn (.Raise (some (.Call (.Name nm p) [a] [] pos)) none pos2) (raiseS nm fe) := by
  refine ps_imp (ps_raise hc tk (pmk_x T hr (pa_cons ha pa_nil he) hg hdb he hpl)) fun G σ H h => ?_
  obtain ⟨env, av, own, hs, w, h⟩ := h
  show tOf X.K X.mg W fe σ H fun v H1 => ∃ v', [v] = [v'] ∧ ∀ d, H1 d = none → W (.ref C) (some d) σ (upd H1 d (.xd [(("value" : Str), v')]))
  refine ⟨env, av, own, hs, w, ?_⟩
  unfold raiseS at h
  cases q : fe env with
  | st => rw [q] at h; exact h
  | ex c x e => rw [q] at h; exact SPost.exc h
  | ok p =>
    obtain ⟨o, env1⟩ := p
    rw [q] at h
    intro v H1 av1 fp own1 A w1 hr hs1
    have h' : SPost X.K X.mg W pn av H own σ G (if o.isUn then .st else .ex nm o.toD env1) := h
    cases hu : o.isUn with
    | true => rw [hu, if_pos rfl] at h'; exact h'.elim
    | false =>
      rw [hu, if_neg Bool.false_ne_true] at h'
      refine ⟨v, rfl, fun d hd => ?_⟩
      obtain ⟨t1, t2, t3, t4⟩ := thaw w A w1 hr hu
      have gr : Grow H1 (upd H1 d (.xd [(("value" : Str), v)])) := Grow.new hd
      cases t4 with | d r =>
        exact h' σ (Pn.refl pn σ) (.ref C) d v _ _ own1 T.gC (t1.grow gr) (t2.grow gr) upd_same (r.keep (.grow gr fun _ z => z)) ((hs1.grow (σ := σ) (env := env1) (Grow.refl _) t3).grow (σ := σ) (env := env1) gr fun _ z => z)
end
/-- the caught exception at a stands in slot i, its value is x -/
def EFact (K : PySem.W.Frag) (av : Addr → Prop) (σ : L2.St) (H : Hp) (i : Nat) (a : Addr) (d : Option Addr) (x : D) : Prop :=
  σ[i]? = some (some (.ref a)) ∧ ∃ (dd : Addr) (v : V), d = some dd ∧ H dd = some (.xd [(("value" : Str), v)]) ∧ RD K av H v x
/-- a suite that knows the exception's value -/
def tSx (K : PySem.W.Frag) (mg : Str → Option Value) (pn : List Nat) (i : Nat) (C : Addr) (f : D → Fs) (a : Addr) (cls : Value) (d : Option Addr) : TS := fun G σ H => ∃ (env : Ev) (av : Addr → Prop) (own : List Addr) (x : D), Slots K av H σ env own ∧ OkW av H own ∧ cls = .ref C ∧
  EFact K av σ H i a d x ∧ SPost K mg W0 pn av H own σ G (f x env)
def unsetR (i : Nat) : SRes → SRes
  | .nx e => .nx (e.set i .un)
  | .bk e => .bk (e.set i .un)
  | .ct e => .ct (e.set i .un)
  | .rt o e => .rt o e
  | _ => .st
abbrev Cl := Str × Nat × (D → Fs)
def tryH (xs : List Str) : List Cl → Str → D → Ev → SRes
  | [], c, x, e => .ex c x e
  | (nm, i, f) :: r, c, x, e => if xs.contains c && decide (i < e.length) then (if c == nm then unsetR i (f x (e.set i .un)) else tryH xs r c x e) else .st
def tryK (xs : List Str) (cl : List Cl) : SRes → SRes
  | .ex c x e => tryH xs cl c x e
  | r => r
def tryS (xs : List Str) (fb : Fs) (cl : List Cl) : Fs := fun env => tryK xs cl (fb env)
/-- the clauses -/
inductive ClV (X : Cx) (pn : List Nat) : List ExceptHandler → List Cl → Prop
  | nil : ClV X pn [] []
  | cons {x n : Str} {C : Addr} {i : Nat} {f : D → Fs} {b₀ : Stmt} {suite : List Stmt} {np pos' : Pos} {hds : List ExceptHandler} {l : List Cl} (hg : Gl X x) (hd : (x == ("__debug__" : Str)) = false) (hm : X.mg x = some (.ref C)) (hi : X.N[i]? = some n) (hln : X.env.kindOf n = some .local) (hp : pn.contains i = false)
      (hsu : ∀ (a : Addr) (oe : Obj) (cls : Value) (d : Option Addr) (q : List (Addr × Obj)), Zc cls d oe → (∃ vs, oe.data = .fields vs) → PSs (X.suite a ((a, oe) :: q)) (b₀ :: suite) (tSx X.K X.mg pn i C f a cls d)) (r : ClV X pn hds l) :
      ClV X pn (.ExceptHandler (some (.Name x np)) (some n) (b₀ :: suite) pos' :: hds) ((x, i, f) :: l)
section
variable {X : Cx} {W : WX} {pn : List Nat}
theorem unset_post {K : PySem.W.Frag} {mg : Str → Option Value} {av av2 : Addr → Prop} {H H2 : Hp} {own own2 : List Addr} {σ σ2 : L2.St} {G : Ends} {i : Nat} {r : SRes} (hp : pn.contains i = false) (w : OkW av H own) (w2 : OkW av2 H2 own2) (A : Adv av H own av2 H2 own2) (p : Pn pn σ σ2)
    (h : SPost K mg W pn av H own σ G (unsetR i r)) : SPost K mg W0 pn av2 H2 own2 σ2 (unset G i) r := by
  have back : ∀ {σ3 : L2.St} {H3 : Hp} {av3 : Addr → Prop} {own3 : List Addr} {e : Ev}, Pn pn σ2 σ3 → Adv av2 H2 own2 av3 H3 own3 → OkW av3 H3 own3 → Slots K av3 H3 σ3 e own3 →
      ∃ (av4 : Addr → Prop) (own4 : List Addr), Pn pn σ (σ3.set i none) ∧ Adv av H own av4 H3 own4 ∧ OkW av4 H3 own4 ∧ Slots K av4 H3 (σ3.set i none) (e.set i .un) own4 := fun {σ3 H3 av3 own3 e} p3 A3 w3 s3 => by
    have AA := Adv.trans (t := []) (u := []) w w2 A A3
    by_cases hl : i < e.length
    · obtain ⟨av4, own4, A4, w4, s4⟩ := Slots.put (fp := []) (v := none) (o := .un) AA w3 s3 hl .un
      exact ⟨av4, own4, (p.trans p3).trans (Pn.set hp), A4, w4, s4⟩
    · refine ⟨av3, own3, (p.trans p3).trans (Pn.set hp), AA, w3, ?_⟩
      rw [List.set_eq_of_length_le (by rw [s3.length]; omega), List.set_eq_of_length_le (by omega)]
      exact s3
  cases r with
  | nx e => exact fun σ3 H3 av3 own3 p3 A3 w3 s3 => let ⟨_, _, p4, A4, w4, s4⟩ := back p3 A3 w3 s3; h _ _ _ _ p4 A4 w4 s4
  | bk e => exact fun σ3 H3 av3 own3 p3 A3 w3 s3 => let ⟨_, _, p4, A4, w4, s4⟩ := back p3 A3 w3 s3; h _ _ _ _ p4 A4 w4 s4
  | ct e => exact fun σ3 H3 av3 own3 p3 A3 w3 s3 => let ⟨_, _, p4, A4, w4, s4⟩ := back p3 A3 w3 s3; h _ _ _ _ p4 A4 w4 s4
  | rt o e => exact fun v σ3 H3 av3 fp own3 p3 A3 w3 r3 s3 => h v σ3 H3 av3 fp own3 (p.trans p3) (Adv.trans (t := []) (u := fp) w w2 A A3) w3 r3 s3
  | ex c x e => exact h.elim
  | st => exact h.elim
theorem s_try {xs : List Str} {body : List Stmt} {h₀ : ExceptHandler} {hds : List ExceptHandler} {cl : List Cl} {fb : Fs} {pos : Pos} (hs : X.stack = X.env :: X.outer) (hf : X.env.frame = some X.env.locals) (hN : X.N.Nodup) (tk : Takes X W)
    (hxm : ∀ c ∈ xs, ∀ v, X.mg c = some v → ∀ c' C, X.mg c' = some (.ref C) → c' ∈ cl.map (·.1) → PySem.W.exmOne X.K v (.ref C) = some (c == c'))
    (hb : ∀ (W' : WX) (q : List (Addr × Obj)) (xe : Value → Shared → Prop), Takes (X.tr q xe) W' → PassesOwn (model X.prog X.w) X.A X.env xe → VB (X.tr q xe) W' pn body fb)
    (hh : ClV X pn (h₀ :: hds) cl) : VS X W pn (.Try body (h₀ :: hds) [] [] pos) (tryS xs fb cl) := by
  have conv : ∀ {hs' : List ExceptHandler} {cl' : List Cl}, ClV X pn hs' cl' → (∀ c' ∈ cl'.map (·.1), c' ∈ cl.map (·.1)) → ∃ l : List Cls, ClsOk X hs' l ∧ ∀ (G : Ends) (c : Str) (x : D) (e : Ev) (cls : Value) (dd : Addr) (v : V) (av : Addr → Prop) (H : Hp) (own : List Addr) (σ : L2.St) (σ' : L2.St) (H' : Hp) (av' : Addr → Prop) (own' : List Addr),
      OkW av H own → SPost X.K X.mg W pn av H own σ G (tryH xs cl' c x e) → Pn pn σ σ' → X.mg c = some cls → Adv av H own av' H' own' → OkW av' H' own' → H' dd = some (.xd [(("value" : Str), v)]) → RD X.K av' H' v x → Slots X.K av' H' σ' e own' → wAll X.K W G l cls (some dd) σ' H' := by
    intro hs' cl' hk
    induction hk with
    | nil => exact fun _ => ⟨[], .nil, fun G c x e cls dd v av H own σ σ' H' av' own' w h p hm A w' hd r s => h σ' p cls dd v H' av' own' hm A w' hd r s⟩
    | @cons nmx n C i f b₀ suite np pos' hds2 l2 hg hdb hm hi hln hp hsu r ih =>
      intro hmem
      obtain ⟨l, hl1, hl2⟩ := ih fun c' m => hmem c' (List.mem_cons_of_mem _ m)
      refine ⟨(.ref C, i, tSx X.K X.mg pn i C f) :: l, .cons ⟨hg, hdb, .inl hm⟩ hi hln hsu hl1, fun G c x e cls dd v av H own σ σ' H' av' own' w h p hmc A w' hd rr s => ?_⟩
      unfold tryH at h
      cases q : (xs.contains c && decide (i < e.length)) with
      | false => rw [q, if_neg Bool.false_ne_true] at h; exact h.elim
      | true =>
        rw [q, if_pos rfl] at h
        rw [Bool.and_eq_true, List.contains_iff_mem, decide_eq_true_eq] at q
        refine ⟨c == nmx, hxm c q.1 cls hmc nmx C hm (hmem nmx List.mem_cons_self), fun hc a ha => ?_, fun hc => ?_⟩
        · rw [hc, if_pos rfl] at h
          have ec : c = nmx := by simpa using hc
          subst ec
          rw [hm] at hmc
          cases hmc
          obtain ⟨av2, own2, A2, w2, sub, s2⟩ := Slots.putT (t := []) (fp := []) (v := some (.ref a)) (o := .un) A w' s q.2 .un
          refine ⟨e.set i .un, av2, own2, x, s2, w2, rfl, ⟨?_, dd, v, rfl, hd, ?_⟩, ?_⟩
          · rw [List.getElem?_set_self]
            rw [s.length]
            exact q.2
          · exact rr.keep (.grow (Grow.refl _) sub)
          · exact unset_post hp w w2 A2 (p.trans (Pn.set hp)) h
        · rw [hc, if_neg Bool.false_ne_true] at h
          exact hl2 G c x e cls dd v av H own σ σ' H' av' own' w h p hmc A w' hd rr s
  obtain ⟨l, hl1, hl2⟩ := conv hh fun _ m => m
  refine ps_imp (ps_try_all (tb := fun W' => tS X.K X.mg W' pn fb) hs hf hN tk hb hl1) fun G σ H h => ?_
  obtain ⟨env, av, own, hsl, w, h⟩ := h
  refine ⟨env, av, own, hsl, w, ?_⟩
  unfold tryS at h
  cases q : fb env with
  | nx e => rw [q] at h; exact h
  | rt o e => rw [q] at h; exact h
  | bk e => rw [q] at h; exact h
  | ct e => rw [q] at h; exact h
  | st => rw [q] at h; exact h
  | ex c x e =>
    rw [q] at h
    exact fun σ' p cls dd v H' av' own' hm A w' hd r s => hl2 G c x e cls dd v av H own σ σ' H' av' own' w h p hm A w' hd r s
end
def tEv (K : PySem.W.Frag) (i : Nat) (C : Addr) (g : D → Option O) (a : Addr) (cls : Value) (d : Option Addr) : TE := fun σ H Q => ∃ (av : Addr → Prop) (x : D), Dom av H ∧ cls = .ref C ∧ EFact K av σ H i a d x ∧ Fin K av H (g x) Q
abbrev VEv (X : Cx) (i : Nat) (C : Addr) (e : Expr) (g : D → Option O) : Prop := ∀ (a : Addr) (oe : Obj) (cls : Value) (d : Option Addr) (q : List (Addr × Obj)), Zc cls d oe → (∃ vs, oe.data = .fields vs) → PE (X.suite a ((a, oe) :: q)) e (tEv X.K i C g a cls d)
def evX (x : D) : Option O := some (.d x)
def evP (t : Str) (x : D) : Option O := some (.d (.tup [.str t, x]))
section
variable {X : Cx} {pn : List Nat} {i : Nat} {C : Addr}
theorem ev_val {x : Str} {pos pos2 : Pos} (T : XfC X.K C) (hno : PySem.W.findIn X.K (.ref C) "value" = some none) (hx : ∀ (a : Addr) (q : List (Addr × Obj)), PE (X.suite a q) (.Name x pos) (tVar i))
    (hb : attributeBase (.Name x pos) "value" X.env (eval (.Name x pos) X.env) = eval (.Name x pos) X.env := by rfl) : VEv X i C (.Attribute (.Name x pos) "value" pos2) evX := fun a oe cls d q hz hf => by
  refine pe_imp (pe_xf T hno hz hf (hx a _) hb) fun σ H Q h => ?_
  obtain ⟨av, x, dm, hc, ⟨e1, dd, v, rfl, e2, r⟩, f⟩ := h
  exact ⟨.ref a, e1, rfl, hc, dd, _, v, rfl, e2, by simp [List.lookup], f.data r⟩
theorem ev_pair {e : Expr} {t : Str} {k j : Nat} {p1 pos : Pos} (h : VEv X i C e evX) (h1 : ∀ (a : Addr) (q : List (Addr × Obj)), starEach [.Constant (.str t) j p1, e] (X.suite a q).env = (false, eval (.Constant (.str t) j p1) (X.suite a q).env) :: starEach [e] (X.suite a q).env := by intro _ _; rfl)
    (h2 : ∀ (a : Addr) (q : List (Addr × Obj)), starEach [e] (X.suite a q).env = (false, eval e (X.suite a q).env) :: starEach [] (X.suite a q).env := by intro _ _; rfl) : VEv X i C (.Tuple [.Constant (.str t) j p1, e] k pos) (evP t) := fun a oe cls d q hz hf => by
  refine pe_imp (pe_tup (pa_cons pe_str (pa_cons (h a oe cls d q hz hf) pa_nil (h2 a _)) (h1 a _))) fun σ H Q h => ?_
  obtain ⟨av, x, dm, hc, ef, f⟩ := h
  refine ⟨av, x, dm, hc, ef, fun v H' gr r => ⟨by rw [line_eq]; show 2 ≤ _; decide, fun p hp => ?_⟩⟩
  have g2 : Grow H' (upd H' p (.tup [.str t, v])) := Grow.new hp
  have np : ¬ av p := fun z => by
    have z1 := dm p z
    cases q : H p with
    | none => rw [q] at z1; cases z1
    | some o =>
      rw [gr p o q] at hp
      cases hp
  exact f (.ref p) _ (gr.trans g2) (.tup np upd_same (.cons (.str t) (.cons (r.keep (.grow g2 fun _ z => z)) .nil)))
/-- return of it -/
def evRet (g : D → Option O) (x : D) : Fs := fun env => match g x with
  | some (.d y) => .rt (.d y) env
  | _ => .st
/-- n = it -/
def evSet (j : Nat) (g : D → Option O) (x : D) : Fs := fun env => match g x with
  | some (.d y) => putS j (.d y) env
  | _ => .st
theorem ev_fin {K : PySem.W.Frag} {mg : Str → Option Value} {av : Addr → Prop} {H : Hp} {own : List Addr} {σ : L2.St} {env : Ev} {o : Option O} {Q : VK} (w : OkW av H own) (hs : Slots K av H σ env own)
    (h : ∀ (y : D), o = some (.d y) → ∀ (v : V) (H' : Hp) (av' : Addr → Prop), Adv av H own av' H' own → OkW av' H' own → RD K av' H' v y → Slots K av' H' σ env own → Q v H') (hd : ∃ y, o = some (.d y)) : Fin K av H o Q := by
  obtain ⟨y, rfl⟩ := hd
  exact fun v H' gr r => h y rfl v H' av ((Adv.refl w).grow gr) (w.grow gr) r (hs.grow (σ := σ) (env := env) gr fun _ z => z)
theorem sx_ret {e : Expr} {g : D → Option O} {pos : Pos} (h : VEv X i C e g) (a : Addr) (oe : Obj) (cls : Value) (d : Option Addr) (q : List (Addr × Obj)) (hz : Zc cls d oe) (hf : ∃ vs, oe.data = .fields vs) :
    PSs (X.suite a ((a, oe) :: q)) [.Return (some e) pos] (tSx X.K X.mg pn i C (evRet g) a cls d) := by
  refine pss_one (ps_imp (ps_ret (h a oe cls d q hz hf)) fun G σ H hh => ?_)
  obtain ⟨env, av, own, x, hs, w, hc, ef, hh⟩ := hh
  refine ⟨av, x, w.dom, hc, ef, ev_fin (mg := X.mg) w hs (fun y e v H' av' A w' r s => ?_) ?_⟩
  · unfold evRet at hh
    rw [e] at hh
    exact hh v σ H' av' [] own (Pn.refl pn σ) A w' (.d r) s
  · unfold evRet at hh
    split at hh
    · exact ⟨_, by assumption⟩
    · exact hh.elim
theorem sx_set {e : Expr} {g : D → Option O} {pos pos' : Pos} {j : Nat} {x : Str} (hN : X.N.Nodup) (hj : X.N[j]? = some x) (hx : Loc X.env.scope x) (hp : pn.contains j = false) (h : VEv X i C e g) (hsw : swapsWith e (some (.Name x pos')) pos.line X.env = pure false := by rfl)
    (hfn : X.fn x = true ∨ X.env.scope.names.lookup x = some .local := by first | exact .inl rfl | exact .inr rfl | assumption) (a : Addr) (oe : Obj) (cls : Value) (d : Option Addr) (q : List (Addr × Obj)) (hz : Zc cls d oe) (hf : ∃ vs, oe.data = .fields vs) :
    PSs (X.suite a ((a, oe) :: q)) [.Assign [.Name x pos'] e pos] (tSx X.K X.mg pn i C (evSet j g) a cls d) := by
  refine pss_one (ps_imp (ps_set (X := X.suite a ((a, oe) :: q)) hN hj hx (h a oe cls d q hz hf) hsw hfn) fun G σ H hh => ?_)
  obtain ⟨env, av, own, y0, hs, w, hc, ef, hh⟩ := hh
  refine ⟨av, y0, w.dom, hc, ef, ev_fin (mg := X.mg) w hs (fun y e v H' av' A w' r s => ?_) ?_⟩
  · unfold evSet at hh
    rw [e] at hh
    have hh : SPost X.K X.mg W0 pn av H own σ G (if j < env.length then .nx (env.set j (.d y)) else .st) := hh
    by_cases hl : j < env.length
    · rw [if_pos hl] at hh
      obtain ⟨av2, own2, A2, w2, s2⟩ := Slots.put (fp := []) A w' s hl (.d r)
      exact hh _ H' av2 own2 (Pn.set hp) A2 w2 s2
    · rw [if_neg hl] at hh
      exact hh.elim
  · unfold evSet at hh
    split at hh
    · exact ⟨_, by assumption⟩
    · exact hh.elim
end
end VL

set_option Elab.async false
set_option linter.all false
set_option maxRecDepth 100000
namespace VL
open PySem PySem.Spec PyProof.Rows L2

/-- the defs that a name may hold: name, number of parameters, what it does -/
abbrev FTab := List (Str × Nat × Fe)
def fnAt (tb : FTab) (n : Nat) : O → Option Fe
  | .d (.fn x) => (tb.find? fun e => e.1 == x && e.2.1 == n).map (·.2.2)
  | _ => none
def callD (tb : FTab) (i : Nat) (as : List Opd) : Fe := fun env => match fnAt tb as.length (env.getD i .un) with
  | some F => callE F none as env
  | none => .st
/-- one of them -/
structure Has (P : Program) (w : World) (K : PySem.W.Frag) (mg : Str → Option Value) (base : Heap) (k : Nat) (e : Str × Nat × Fe) where
  f : Addr
  fd : FuncData
  ps : List Str
  F : FnV P w K mg base k f fd ps e.2.2
  l : ps.length = e.2.1
  n : PySem.W.nsIn K mainGlobals e.1 = some (some (.ref f))
  kp : PySem.W.keepIn K (.ref f) = true
  b : Binds K fd ps []
section
variable {X : Cx} {W : WX} {pos p : Pos} {e : Expr} {es : List Expr} {os : List Opd} {x : Str} {i : Nat}
theorem v_fnval {f : Addr} (hg : Gl X x) (hm : X.mg x = some (.ref f)) (hn : PySem.W.nsIn X.K mainGlobals x = some (some (.ref f))) (hd : (x == ("__debug__" : Str)) = false := by decide) : VE X W (.Name x pos) (cE (.fn x)) :=
  v_const (pe_glob (v := .ref f) hg hm rfl hd) fun _ _ => .fn hn
theorem v_callD {tb : FTab} {k : Nat} (A : ∀ e ∈ tb, Nonempty (Has X.prog X.w X.K X.mg X.base k e)) (hr : Room k X.A) (hN : X.N[i]? = some x) (hv : Vis X.env.scope x) (tk : Takes X W) (ha : VA X W (e :: es) os)
    (hdb : (x == ("__debug__" : Str)) = false := by decide) (hcd : (x == ("__classdict__" : Str)) = false := by decide)
    (he : starEach (e :: es) X.env = (false, eval e X.env) :: starEach es X.env := by rfl) (hpl : (backTo pos (starEach es X.env)).any (·.1) = false := by rfl) : VE X W (.Call (.Name x p) (e :: es) [] pos) (callD tb i os) := by
  refine ⟨fun pins s σ H Q I h => ?_⟩
  have h0 := h
  obtain ⟨env, av, own, hs, w, h⟩ := h
  unfold callD at h
  cases q : fnAt tb os.length (env.getD i .un) with
  | none => rw [q] at h; exact h.elim
  | some F =>
    rw [q] at h
    cases qo : env.getD i .un with
    | un => rw [qo] at q; cases q
    | fl _ => rw [qo] at q; cases q
    | ob _ _ => rw [qo] at q; cases q
    | ls _ => rw [qo] at q; cases q
    | tp _ => rw [qo] at q; cases q
    | d y =>
      rw [qo] at q
      cases y <;> first | (cases q; done) | skip
      rename_i nm
      have q : (tb.find? fun e => e.1 == nm && e.2.1 == os.length).map (·.2.2) = some F := q
      obtain ⟨en, q1, rfl⟩ := Option.map_eq_some_iff.mp q
      have q2 := List.find?_some q1
      rw [Bool.and_eq_true, beq_iff_eq, beq_iff_eq] at q2
      obtain ⟨A⟩ := A en (List.mem_of_find?_eq_some q1)
      obtain ⟨v, fp, e1, e2, _⟩ := slot_some (i := i) hs (by rw [qo]; rfl)
      rw [qo] at e2
      cases e2 with | d r =>
        cases r with | fn hn =>
          have ea := A.n
          rw [q2.1, hn] at ea
          cases ea
          have h2 : tOf X.K X.mg W (callE en.2.2 none os) σ H Q := ⟨env, av, own, hs, w, h⟩
          have h3 := call_ok (n := A.ps.length) (by rw [A.l, q2.2]) (fun _ h => by cases h) h2
          refine wpAny_Call_Name_kw (thn ((pe_var (pos := p) hN hv hdb hcd).run pins s σ H (fun v H1 => v = .ref A.f ∧ H1 = H) I ⟨.ref A.f, e1, rfl, rfl⟩) fun u s1 ⟨v, H1, I1, r1, q1⟩ => ?_)
          obtain ⟨rfl, rfl⟩ := q1
          cases r1
          refine PySem.W.callWith_K (h₀ := X.base) I.ok.mod.kin A.kp (thn (ha.run pos pins s1 σ _ _ I1 h3) fun us s2 ⟨vs, H2, I2, r, q⟩ => ⟨I2.kIn, ?_⟩) he hpl
          exact run_fnSD (dvs := []) (E := fun σ cls d H' => W cls d σ H') A.F hr A.b .nil (passAt tk σ) I2 r (by rw [List.append_nil]; exact q)
end
end VL

set_option Elab.async false
set_option linter.all false
set_option maxRecDepth 100000
namespace VL
open PySem PySem.Spec PyProof.Rows L2

/-- x += e, whole numbers -/
def augS (i : Nat) (e : Fe) : Fs := fun env => match env.getD i .un with
  | .d (.int a) => (e env).then fun p => match p.1 with
    | .d (.int b) => putS i (.d (.int (a + b))) p.2
    | _ => .st
  | _ => .st
def O.intO : O → Option Int
  | .d (.int i) => some i
  | _ => none
theorem O.intO_eq {o : O} {i : Int} (h : o.intO = some i) : o = .d (.int i) := by
  unfold O.intO at h
  split at h
  · cases h
    rfl
  · cases h
/-- the same, told by what the parts are -/
def augR (i : Nat) (a b : Option Int) (env : Ev) : SRes := match a, b with
  | some a, some b => putS i (.d (.int (a + b))) env
  | _, _ => .st
def augI (i : Nat) (e : Fe) : Fs := fun env => if (env.getD i .un).intO.isSome then (e env).then fun p => augR i (env.getD i .un).intO p.1.intO p.2 else .st
section
variable {X : Cx} {W : WX} {pn : List Nat} {pos pos' : Pos} {e : Expr} {fe : Fe} {i : Nat} {x : Str}
theorem s_aug (hN : X.N.Nodup) (hi : X.N[i]? = some x) (hx : Loc X.env.scope x) (hp : pn.contains i = false) (he : VE X W e fe) (hf : X.fn x = true ∨ X.env.scope.names.lookup x = some .local := by first | exact .inl rfl | exact .inr rfl | assumption) :
    VS X W pn (.AugAssign (.Name x pos') .Add e pos) (augI i fe) := by
  refine ps_imp (ps_aug hN hi hx he ip_add hf) fun G σ H h => ?_
  obtain ⟨env, av, own, hs, w, h⟩ := h
  unfold augI at h
  cases ha : (env.getD i .un).intO with
  | none => rw [ha] at h; exact h.elim
  | some a =>
    rw [ha] at h
    have h : SPost X.K X.mg W pn av H own σ G ((fe env).then fun p => augR i (some a) p.1.intO p.2) := h
    have ea := O.intO_eq ha
    obtain ⟨v, fp, e1, e2, _⟩ := slot_some (i := i) hs (by rw [ea]; rfl)
    rw [ea] at e2
    cases e2 with | d r =>
      cases r
      refine ⟨.int a, e1, env, av, own, hs, w, ?_⟩
      cases q : fe env with
      | st => rw [q] at h; exact h
      | ex c x e => rw [q] at h; exact SPost.exc h
      | ok p =>
        obtain ⟨o, env1⟩ := p
        rw [q] at h
        intro v1 H1 av1 fp1 own1 A1 w1 r1 s1
        have h : SPost X.K X.mg W pn av H own σ G (augR i (some a) o.intO env1) := h
        cases hb : o.intO with
        | none => rw [hb] at h; exact h.elim
        | some b =>
          rw [hb] at h
          have h : SPost X.K X.mg W pn av H own σ G (if i < env1.length then .nx (env1.set i (.d (.int (a + b)))) else .st) := h
          rw [O.intO_eq hb] at r1
          cases r1 with | d r1 =>
            cases r1
            refine ⟨a, b, rfl, rfl, ?_⟩
            by_cases hl : i < env1.length
            · rw [if_pos hl] at h
              obtain ⟨av2, own2, A2, w2, s2⟩ := Slots.put (fp := []) A1 w1 s1 hl (.d (.int (a + b)))
              exact h _ H1 av2 own2 (Pn.set hp) A2 w2 s2
            · rw [if_neg hl] at h
              exact h.elim
end
def downL (lo : Int) (n : Nat) : List D := (List.range n).map fun i => D.int (lo + (i : Nat) * (-1))
def rangeD3 : List D → Option (List D)
  | [.int i, .int j, .int k] => if k = -1 ∧ okR i = true ∧ okR j = true then some (downL i (i - j).toNat) else none
  | _ => none
theorem yields_down {K : PySem.W.Frag} {av : Addr → Prop} {H : Hp} (lo : Int) (n : Nat) : Yields K av H (Itc lo (-1) n) (downL lo n) where
  go := fun av' H' k i hi => by
    unfold downL at hi
    rw [List.length_map, List.length_range] at hi
    exact hi
  yld := fun av' H' k dm i x H'' d hd y => by
    obtain ⟨rfl, rfl⟩ := y
    refine ⟨Grow.refl _, ?_⟩
    unfold downL at hd
    rw [List.getElem?_map] at hd
    cases q : (List.range n)[i]? with
    | none => rw [q] at hd; cases hd
    | some j =>
      rw [q] at hd
      obtain ⟨h1, h2⟩ := List.getElem?_eq_some_iff.mp q
      rw [List.getElem_range] at h2
      subst h2
      cases hd
      exact .int _
  stop := fun av' H' k => by
    show n ≤ _
    unfold downL
    rw [List.length_map, List.length_range]
    exact Nat.le_refl n
section
variable {X : Cx} {W : WX} {pos : Pos} {e e2 e3 tg : Expr}
theorem i_range3 {p : Pos} {os : List Opd} (hg : Gl X "range") (hm : X.mg "range" = none) (h : VA X W [e, e2, e3] os) (hs : starEach [e, e2, e3] X.env = (false, eval e X.env) :: starEach [e2, e3] X.env := by rfl) (hpl : (backTo pos (starEach [e2, e3] X.env)).any (·.1) = false := by rfl) :
    VI X W tg (.Call (.Name "range" p) [e, e2, e3] [] pos) (srcN rangeD3 os) := by
  refine pi_imp (pi_range3 hg hm h hs hpl) fun σ H R h => tArg_mono (fun vs H1 h => ?_) (srcN_ok h)
  obtain ⟨av1, l, ds, r, hg, k⟩ := h
  unfold rangeD3 at hg
  split at hg
  · rename_i i j c
    split at hg
    · rename_i hj
      cases hg
      obtain ⟨v, w, z, rfl, r1, r2, r3⟩ := r.three
      rw [r1.int, r2.int, r3.int]
      obtain ⟨rfl, h1, h2⟩ := hj
      exact ⟨i, j, -1, _, rfl, RgC.neg (okR_ok h1).1 (okR_ok h1).2 (okR_ok h2).1 (okR_ok h2).2, k _ fun av2 H2 => yields_down i _⟩
    · cases hg
  · cases hg
end
def insI (x : Int) : List Int → List Int
  | [] => [x]
  | y :: ys => if x ≤ y then x :: y :: ys else y :: insI x ys
def sortI : List Int → List Int
  | [] => []
  | x :: xs => insI x (sortI xs)
theorem insI_perm (x : Int) : ∀ ys : List Int, (insI x ys).Perm (x :: ys)
  | [] => .refl _
  | y :: ys => by
    unfold insI
    split
    · exact .refl _
    · exact ((insI_perm x ys).cons y).trans (.swap x y ys)
theorem sortI_perm : ∀ xs : List Int, (sortI xs).Perm xs
  | [] => .refl _
  | x :: xs => (insI_perm x _).trans ((sortI_perm xs).cons x)
theorem insI_sorted (x : Int) : ∀ {ys : List Int}, ys.Pairwise (· ≤ ·) → (insI x ys).Pairwise (· ≤ ·)
  | [], _ => List.pairwise_singleton _ x
  | y :: ys, h => by
    unfold insI
    have h1 := List.pairwise_cons.mp h
    split
    · rename_i hx
      refine List.pairwise_cons.mpr ⟨fun z m => ?_, h⟩
      rcases List.mem_cons.mp m with rfl | m
      · exact hx
      · exact Int.le_trans hx (h1.1 z m)
    · rename_i hx
      refine List.pairwise_cons.mpr ⟨fun z m => ?_, insI_sorted x h1.2⟩
      rcases List.mem_cons.mp ((insI_perm x ys).mem_iff.mp m) with rfl | m
      · omega
      · exact h1.1 z m
theorem sortI_sorted : ∀ xs : List Int, (sortI xs).Pairwise (· ≤ ·)
  | [] => .nil
  | x :: xs => insI_sorted x (sortI_sorted xs)
def sortedD : List D → Option O
  | [d] => match d.seqL with
    | some xs => match intsOf xs with
      | some ns => some (.fl ((sortI ns).map D.int))
      | none => none
    | none => none
  | _ => none
section
variable {X : Cx}
theorem cr_sortedD : CallR X (.builtin "sorted") (RN X.K sortedD) := by
  refine callR_sane cr_sortedI fun vs H Q sn h => ?_
  obtain ⟨av, ds, dm, hv, f⟩ := h
  unfold sortedD at f
  split at f
  · obtain ⟨v, rfl, r⟩ := hv.one
    rename_i d
    split at f
    · rename_i xs e1
      split at f
      · rename_i ns e2
        rw [intsOf_eq e2] at e1
        obtain ⟨a, vs, rfl, h1, h2⟩ := r.seqL e1
        rw [h2.ints] at h1
        refine ⟨a, ns, rfl, h1, fun ns' p hp hs hn => ?_⟩
        have e : ns' = sortI ns := by
          refine List.Perm.eq_of_pairwise (fun a b _ _ h1 h2 => Int.le_antisymm h1 h2) hs (sortI_sorted ns) (hp.trans (sortI_perm ns).symm)
        subst e
        exact f.list (RDs.ofInts (sortI ns)) p hn
      · exact f.elim
    · exact f.elim
  · exact f.elim
end
end VL

set_option Elab.async false
set_option linter.all false
set_option maxRecDepth 100000
namespace VL
open PySem PySem.Spec PyProof.Rows L2

def putAll : List (Nat × Bool) → List Arg → Ev → SRes
  | [], [], env => .nx env
  | (i, z) :: r, .tmp o :: l, env => if o.isUn || !decide (i < env.length) then .st else putAll r l (env.set i (zO z o))
  | _, _, _ => .st
def setAll : List (Nat × Bool) → List V → L2.St → L2.St
  | (i, _) :: r, v :: vs, σ => setAll r vs (σ.set i (some v))
  | _, _, σ => σ
def parN (is : List (Nat × Bool)) (as : List Opd) : Fs := fun env => (evA as env).then fun p => putAll is p.1 p.2
section
variable {K : PySem.W.Frag} {mg : Str → Option Value} {W : WX} {pn : List Nat} {av av1 : Addr → Prop} {H H1 : Hp} {own own1 t : List Addr} {σ σ0 : L2.St} {G : Ends}
theorem adv_perm {l l' : List Addr} (A : Adv av H own av1 H1 l) (w : OkW av1 H1 l) (p : l.Perm l') : Adv av H own av1 H1 l' ∧ OkW av1 H1 l' :=
  ⟨⟨fun a => (A.av_ a).trans (or_congr Iff.rfl p.mem_iff), fun a m => A.fresh a (p.mem_iff.mpr m), A.ext, A.there⟩, ⟨p.nodup_iff.mp w.nodup, fun a m => w.sub a (p.mem_iff.mpr m), w.dom⟩⟩
theorem ARep.sub {av2 : Addr → Prop} (s : ∀ a, av2 a → av1 a) : ∀ {vs : List V} {l : List Arg} {t : List Addr}, ARep K av1 H1 σ vs l t → ARep K av2 H1 σ vs l t
  | _, _, _, .nil => .nil
  | _, _, _, .tmp h r => .tmp (h.keep (.grow (Grow.refl _) s) fun _ _ _ e => e) (ARep.sub s r)
  | _, _, _, .sl h r => .sl h (ARep.sub s r)
theorem putAll_ok (w : OkW av H own) : ∀ (is : List (Nat × Bool)) {l : List Arg} {vs : List V} {t : List Addr} {av1 : Addr → Prop} {own1 : List Addr} {σ : L2.St} {env : Ev}, (∀ p ∈ is, pn.contains p.1 = false) → Pn pn σ0 σ → Adv av H own av1 H1 (t ++ own1) → OkW av1 H1 (t ++ own1) → ARep K av1 H1 σ0 vs l t → Slots K av1 H1 σ env own1 →
    SPost K mg W pn av H own σ0 G (putAll is l env) → G.nx (setAll is vs σ) H1 ∧ vs.length = is.length
  | [], l, vs, t, av1, own1, σ, env, hp, p, A, w1, ha, hs, h => by
    cases ha with
    | nil => exact ⟨h σ H1 av1 own1 p A w1 hs, rfl⟩
    | tmp _ _ => exact h.elim
    | sl _ _ => exact h.elim
  | (i, z) :: is, l, vs, t, av1, own1, σ, env, hp, p, A, w1, ha, hs, h => by
    cases ha with
    | nil => exact h.elim
    | sl _ _ => exact h.elim
    | tmp hr r =>
      rename_i v o fp t' vs' l'
      have h : SPost K mg W pn av H own σ0 G (if o.isUn || !decide (i < env.length) then .st else putAll is l' (env.set i (zO z o))) := h
      cases hc : (o.isUn || !decide (i < env.length)) with
      | true => rw [hc, if_pos rfl] at h; exact h.elim
      | false =>
        rw [hc, if_neg Bool.false_ne_true] at h
        simp only [Bool.or_eq_false_iff, Bool.not_eq_false', decide_eq_true_eq] at hc
        have hpi := hp _ List.mem_cons_self
        have go : ∀ {av2 : Addr → Prop} {own2 : List Addr} (o' : O), o' = zO z o → Adv av H own av2 H1 (t' ++ own2) → OkW av2 H1 (t' ++ own2) → (∀ a, av2 a → av1 a) → Slots K av2 H1 (σ.set i (some v)) (env.set i o') own2 → G.nx (setAll ((i, z) :: is) (v :: vs') σ) H1 ∧ (v :: vs').length = ((i, z) :: is).length := fun {av2 own2} o' eo A2 w2 sub s2 => by
          subst eo
          obtain ⟨z1, z2⟩ := putAll_ok w is (fun q m => hp q (List.mem_cons_of_mem _ m)) (p.trans (Pn.set hpi)) A2 w2 (r.sub sub) s2 h
          exact ⟨z1, by rw [List.length_cons, List.length_cons, z2]⟩
        cases hz : z with
        | false =>
          obtain ⟨A1, w1'⟩ := adv_perm (l' := t' ++ (fp ++ own1)) A w1 (by
            rw [← List.append_assoc t' fp own1]
            exact (List.perm_append_comm).append_right own1)
          obtain ⟨av2, own2, A2, w2, sub, s2⟩ := Slots.putT A1 w1' hs hc.2 hr
          have z := go o (by rw [hz]; rfl) A2 w2 sub s2
          rw [hz] at z
          exact z
        | true =>
          obtain ⟨A1, w1', sb⟩ := adv_sub (fp := []) (own2 := t' ++ own1) A w1 (by
            show (t' ++ own1).Sublist ((fp ++ t') ++ own1)
            rw [List.append_assoc]
            exact List.sublist_append_right fp _)
          have nd := w1.nodup
          rw [List.append_assoc] at nd
          have rd := hr.frozen hc.1 sb fun a m q => by
            rcases q with q | q
            · rcases A.fresh a (by simp [m]) with q2 | q2
              · exact q.2 q2
              · have := w.dom a q.1
                rw [q2] at this; cases this
            · exact (List.nodup_append.mp nd).2.2 a m a q rfl
          obtain ⟨av2, own2, A2, w2, sub, s2⟩ := Slots.putT (t := t') (fp := []) (v := some v) A1 w1' (hs.grow (σ := σ) (env := env) (Grow.refl _) sb) hc.2 (.d rd)
          have z := go (.d o.toD) (by rw [hz]; rfl) A2 w2 (fun a q => sb a (sub a q)) s2
          rw [hz] at z
          exact z
theorem parN_ok {is : List (Nat × Bool)} {as : List Opd} {H : Hp} (hp : ∀ p ∈ is, pn.contains p.1 = false) (h : tS K mg W pn (parN is as) G σ H) : tArg K mg W as σ H fun vs H1 => G.nx (setAll is vs σ) H1 ∧ vs.length = is.length := by
  obtain ⟨env, av, own, hs, w, h⟩ := h
  refine args_ok as hs w ?_
  unfold parN at h
  cases q : evA as env with
  | st => rw [q] at h; exact h
  | ex c x e => rw [q] at h; exact SPost.exc h
  | ok p =>
    rw [q] at h
    exact fun vs H1 av1 t own1 A w1 ha hs1 => putAll_ok w is hp (Pn.refl pn σ) A w1 ha hs1 h
end
section
variable {X : Cx} {W : WX} {pn : List Nat} {pos : Pos}
theorem s_par3 {i j l : Nat} {zi zj zl : Bool} {x y z : Str} {a b c : Expr} {fa fb fc : Fe} {px py pz pt : Pos} {kt k2 : Nat} {pt2 : Pos} (hc : X.calm = true) (hN : X.N.Nodup) (hi : X.N[i]? = some x) (hj : X.N[j]? = some y) (hl : X.N[l]? = some z) (hij : i ≠ j) (hil : i ≠ l) (hjl : j ≠ l)
    (hx : X.env.scope.names.lookup x = some .local) (hy : X.env.scope.names.lookup y = some .local) (hz : X.env.scope.names.lookup z = some .local) (hpi : pn.contains i = false) (hpj : pn.contains j = false) (hpl : pn.contains l = false) (ha : VE X W a fa) (hb : VE X W b fb) (hcc : VE X W c fc)
    (hw : swappedStores [.Tuple [.Name x px, .Name y py, .Name z pz] kt pt] (.Tuple [a, b, c] k2 pt2) X.env = pure (some [x, y, z]))
    (hs : swapsWithSole [.Tuple [.Name x px, .Name y py, .Name z pz] kt pt] (.Tuple [a, b, c] k2 pt2) pos.line X.env = pure false := by rfl)
    (h1 : starEach [a, b, c] X.env = (false, eval a X.env) :: starEach [b, c] X.env := by rfl) (h2 : starEach [b, c] X.env = (false, eval b X.env) :: starEach [c] X.env := by rfl) (h3 : starEach [c] X.env = (false, eval c X.env) :: starEach [] X.env := by rfl) :
    VS X W pn (.Assign [.Tuple [.Name x px, .Name y py, .Name z pz] kt pt] (.Tuple [a, b, c] k2 pt2) pos) (parN [(i, zi), (j, zj), (l, zl)] [.val fa, .val fb, .val fc]) := by
  refine ps_imp (ps_par3 hc hN hi hj hl hij hil hjl hx hy hz (va_cons (v_val ha) (va_cons (v_val hb) (va_cons (v_val hcc) va_nil h3) h2) h1) hw hs) fun G σ H h => ?_
  refine tArg_mono (fun vs H1 q => ?_) (parN_ok (fun p m => ?_) h)
  · obtain ⟨q1, q2⟩ := q
    match vs, q2, q1 with
    | [u, v, w], _, q1 => exact ⟨u, v, w, rfl, q1⟩
  · simp only [List.mem_cons, List.not_mem_nil, or_false] at m
    rcases m with rfl | rfl | rfl
    · exact hpi
    · exact hpj
    · exact hpl
end
def revD : List D → Option O
  | [d] => match d.seqL with
    | some xs => some (.fl xs.reverse)
    | none => none
  | _ => none
section
variable {X : Cx} {W : WX} {pos : Pos} {e : Expr} {o : Opd}
theorem v_rev {k : Nat} {p1 p2 p3 : Pos} (h : VO X W e o) : VE X W (.Subscript e (.Slice none none (some (.UnaryOp .USub (.Constant (.int 1) k p1) p2)) p3) pos) (opN revD [o]) := by
  refine pe_imp (pe_revL h) fun σ H Q h => tOpd_mono (fun x H1 h => ?_) (opN_ok h)
  obtain ⟨av, ds, dm, hv, f⟩ := h
  cases hv with | cons h1 r =>
    cases r
    rename_i d
    have f : Fin X.K av H1 (match d.seqL with
      | some xs => some (.fl xs.reverse)
      | none => none) Q := f
    split at f
    · rename_i xs e1
      obtain ⟨a, vs, rfl, h2, h3⟩ := h1.seqL e1
      exact ⟨a, vs, rfl, h2, f.list h3.reverse⟩
    · exact f.elim
end
end VL

set_option Elab.async false
set_option linter.all false
set_option maxRecDepth 100000
namespace VL
open PySem PySem.Spec PyProof.Rows L2

/-- what F is of fb: fb runs with w[0] known as the reference b and with the part in slot 2 -/
structure DipOk (F : Fe) (fb : Fs) : Prop where
  ok : ∀ (args : Ev) (r : O) (outs : Ev), F args = .ok (r, outs) → ∃ (gs : List D) (m c many y : D) (gs' : List D) (m' c' : D), args = [.ls [.fl gs, .d m, .d c], .d many] ∧ r = .d y ∧ outs = [.ls [.fl gs', .d m', .d c'], .d many] ∧
    ∀ b : Addr, ∃ o3 : O, fb [.fl [.ref b, m, c], .d many, .fl gs, .un] = .rt (.d y) [.fl [.ref b, m', c'], .d many, .fl gs', o3]
  ex : ∀ (args : Ev) (c : Str) (x : D) (e : Ev), F args ≠ .ex c x e
theorem dip_body {K : PySem.W.Frag} {mg : Str → Option Value} {F : Fe} {fb : Fs} {vs : List V} {H : Hp} {Q : VK} {E : XK} (D : DipOk F fb) (h : spF K mg 2 F vs H Q E) :
    ∃ (a b : Addr) (vm vc vn : V), vs = [.ref a, vn] ∧ H a = some (.lst [.ref b, vm, vc]) ∧ tS K mg (fun cls d _ H => E cls d H) [0, 2] fb { nx := fun _ H' => Q .non H', rt := Q } [some (.ref a), some vn, some (.ref b), none] H := by
  obtain ⟨hn, args, av, own, hs, w, h⟩ := h
  cases q : F args with
  | st => rw [q] at h; exact h.elim
  | ex c x e => exact absurd q (D.ex args c x e)
  | ok p =>
    obtain ⟨r, outs⟩ := p
    rw [q] at h
    obtain ⟨gs, m, c, many, y, gs', m', c', rfl, rfl, rfl, hb⟩ := D.ok args r outs q
    match vs, hn with
    | [v0, vn], _ =>
      cases hs with
      | cons h0 hs =>
        cases hs with
        | cons h1 hs =>
          cases hs
          cases h1 with | d rn =>
            cases h0 with
            | @ls a vs0 _ fps e0 sr =>
              cases sr with | cons s0 sr =>
                cases s0 with
                | @fl b vg _ eb rb =>
                  cases sr with | cons s1 sr =>
                    cases s1 with | d rm =>
                      cases sr with | cons s2 sr =>
                        cases s2 with | d rc =>
                          cases sr
                          rename_i vm vc
                          refine ⟨a, b, vm, vc, vn, rfl, e0, [.fl [.ref b, m, c], .d many, .fl gs, .un], av, [a, b], ?_, w, ?_⟩
                          · exact Slots.cons (fp := [a]) (.fl e0 (.cons (.ref b) (.cons rm (.cons rc .nil)))) (Slots.cons (fp := []) (.d rn) (Slots.cons (fp := [b]) (.fl eb rb) (Slots.cons (fp := []) .un .nil)))
                          · obtain ⟨o3, ef⟩ := hb b
                            rw [ef]
                            intro v σ' H' av' fp own' p A w' rr s
                            have p0 := p.2 0 (by simp)
                            have p2 := p.2 2 (by simp)
                            cases rr with | d ry =>
                              cases s with | cons t0 s =>
                                cases s with | cons t1 s =>
                                  cases s with | cons t2 s =>
                                    cases s with | cons t3 s =>
                                      cases s
                                      cases t1 with | d rn' =>
                                        cases t0 with | fl ea' ra' =>
                                          cases t2 with | fl eb' rb' =>
                                            rename_i fp3 vn' a2 va b2 vb
                                            have ea2 : a2 = a := by
                                              simp at p0
                                              exact p0
                                            have eb2 : b2 = b := by
                                              simp at p2
                                              exact p2
                                            subst ea2
                                            subst eb2
                                            cases ra' with | cons r0 ra' =>
                                              cases r0
                                              cases ra' with | cons rm' ra' =>
                                                cases ra' with | cons rc' ra' =>
                                                  cases ra'
                                                  obtain ⟨A2, w2, sb⟩ := adv_sub (fp := []) (own2 := [a2, b2]) A w' (by
                                                    show ([a2] ++ ([] ++ ([b2] ++ []))).Sublist ([a2] ++ ([] ++ ([b2] ++ (fp3 ++ []))))
                                                    refine (List.Sublist.refl _).append ((List.Sublist.refl _).append ((List.Sublist.refl _).append ?_))
                                                    exact List.nil_sublist _)
                                                  have kp : Keep av' (drp av [a2, b2] [a2, b2]) H' H' := .grow (Grow.refl _) sb
                                                  refine h v H' (drp av [a2, b2] [a2, b2]) [] [a2, b2] A2 w2 (.d (ry.keep kp)) ?_
                                                  exact Slots.cons (fp := [a2, b2]) (.ls ea' (SRs.cons (fp := [b2]) (.fl eb' (rb'.keep kp)) (SRs.cons (fp := []) (.d (rm'.keep kp)) (SRs.cons (fp := []) (.d (rc'.keep kp)) .nil))))
                                                    (Slots.cons (fp := []) (.d ((rn.keep (A.keep w)).keep kp)) .nil)
/-- THE RULE for such a def: x = w[0] first, then fb -/
theorem fn_dip {P : Program} {w : World} {K : PySem.W.Frag} {mg : Str → Option Value} {base : Heap} {x qual : Str} {st : Stmt} {f : Addr} {fd : FuncData} {n0 n1 n2 n3 : Str} {k : Nat} {F : Fe} {fb : Fs} {s1 : Stmt} {rest : List Stmt} (FF : Fun K x qual st f fd) (S : FnScope [n0, n1, n2, n3] [n0, n1] (defScope st)) (D : DipOk F fb)
    (hst : defBody st = s1 :: rest)
    (h1 : ∀ (cdv : Value) (A : Around) (outer : List Env) (s : Shared) (H : Hp) (E : XK), Room k (A.deeper (envOfC qual (defScope st) s.heap.objs.size f cdv)) →
      PS (cxOf (L2.CX P w) P w K mg base [n0, n1, n2, n3] qual (defScope st) f cdv A outer s H E) s1 (tAsg (tOp (rIxL K) (tVar 0) (tC (.int 0))) (gName 2)))
    (hb : ∀ (cdv : Value) (A : Around) (outer : List Env) (s : Shared) (H : Hp) (E : XK), Room k (A.deeper (envOfC qual (defScope st) s.heap.objs.size f cdv)) →
      VB (cxOf (L2.CX P w) P w K mg base [n0, n1, n2, n3] qual (defScope st) f cdv A outer s H E) (fun cls d _ H => E cls d H) [0, 2] rest fb) : FnV P w K mg base (k + 1) f fd [n0, n1] F :=
  FF.okX S (fun vs H Q E h => h.1) fun cdv A outer s H vs Q E hr h => by
    obtain ⟨a, b, vm, vc, vn, rfl, ea, q⟩ := dip_body D h
    refine ⟨_, by
      rw [hst]
      exact pss_cons (h1 cdv A outer s H E hr) (hb cdv A outer s H E hr), ?_⟩
    exact ⟨.ref a, rfl, a, _, 0, .ref b, rfl, rfl, SqL.of ea, rfl, q⟩
end VL

set_option Elab.async false
set_option linter.all false
set_option maxRecDepth 100000
namespace VL
open PySem PySem.Spec PyProof.Rows L2
def dipOne (m c : Int) : Int := ((m + 32452867 * c) * (m % 1000003 + 7 * c)) % (10 ^ 37 + 43)
def dipTwo (m c : Int) : Int := (dipOne m c * dipOne m c + m + c) % (10 ^ 31 + 33)
def dipE (m c many : Int) : ER (O × Ev) := if mulOk (m + 32452867 * c) (m % 1000003 + 7 * c) && mulOk (dipOne m c) (dipOne m c) then .ok (.d (.int (dipTwo m c / 100003 % many)), [.ls [.fl [], .d (.int m), .d (.int c)], .d (.int many)]) else .st
def dipG (m c many : Int) : List D → ER (O × Ev)
  | [] => dipE m (c + 1) many
  | .int g :: rest => if fOk many && (intsOf rest).isSome then .ok (.d (.int (g % many)), [.ls [.fl (if g / many < 2 then rest else .int (g / many) :: rest), .d (.int m), .d (.int c)], .d (.int many)]) else .st
  | _ => .st
/-- what _law_dip does -/
def dipF : Fe := fun args => match args with
  | [.ls [.fl gs, .d (.int m), .d (.int c)], .d (.int many)] => if 0 < many then dipG m c many gs else .st
  | _ => .st
@[simp] theorem neD_nil2 : neD (.lst []) (.lst []) = some (.d (.bl false)) := (rfl)
theorem ne_ints (g : Int) {rest : List D} (h : (intsOf rest).isSome = true) : neD (.lst (.int g :: rest)) (.lst []) = some (.d (.bl true)) := by
  cases e : intsOf rest with
  | none => rw [e] at h; cases h
  | some ns =>
    rw [intsOf_eq e, neD_ok (n := 1) (m := 1) (ok_lst (n := 0) fun z m => ?_) (ok_lst (n := 0) (xs := []) (fun z m => by cases m)), eqv_nil]
    · rfl
    · rcases List.mem_cons.mp m with rfl | m
      · exact ok_int g
      · obtain ⟨i, _, rfl⟩ := List.mem_map.mp m
        exact ok_int i
theorem dipF_ex (args : Ev) (c : Str) (x : D) (e : Ev) : dipF args ≠ .ex c x e := by
  intro h
  unfold dipF at h
  split at h
  · split at h
    · unfold dipG at h
      split at h
      · unfold dipE at h
        split at h <;> cases h
      · split at h <;> cases h
      · cases h
    · cases h
  · cases h
/-- from the two ways -/
theorem dip_of {fb : Fs} (h1 : ∀ (b : Addr) (m c many : Int), 0 < many → mulOk (m + 32452867 * (c + 1)) (m % 1000003 + 7 * (c + 1)) = true → mulOk (dipOne m (c + 1)) (dipOne m (c + 1)) = true → ∃ o3 : O, fb [.fl [.ref b, .int m, .int c], .d (.int many), .fl [], .un] = .rt (.d (.int (dipTwo m (c + 1) / 100003 % many))) [.fl [.ref b, .int m, .int (c + 1)], .d (.int many), .fl [], o3])
    (h2 : ∀ (b : Addr) (m c many g : Int) (rest : List D), 0 < many → fOk many = true → neD (.lst (.int g :: rest)) (.lst []) = some (.d (.bl true)) → ∃ o3 : O, fb [.fl [.ref b, .int m, .int c], .d (.int many), .fl (.int g :: rest), .un] = .rt (.d (.int (g % many))) [.fl [.ref b, .int m, .int c], .d (.int many), .fl (if g / many < 2 then rest else .int (g / many) :: rest), o3]) : DipOk dipF fb := by
  refine ⟨fun args r outs h => ?_, dipF_ex⟩
  unfold dipF at h
  split at h
  · rename_i gs m c many
    split at h
    · rename_i hm
      unfold dipG at h
      split at h
      · unfold dipE at h
        split at h
        · rename_i hq
          rw [Bool.and_eq_true] at hq
          cases h
          exact ⟨_, _, _, _, _, _, _, _, rfl, rfl, rfl, fun b => h1 b m c many hm hq.1 hq.2⟩
        · cases h
      · split at h
        · rename_i g rest hq
          rw [Bool.and_eq_true] at hq
          cases h
          exact ⟨_, _, _, _, _, _, _, _, rfl, rfl, rfl, fun b => h2 b m c many _ _ hm hq.1 (ne_ints g hq.2)⟩
        · cases h
      · cases h
    · cases h
  · cases h
end VL

set_option Elab.async false
set_option linter.all false
set_option maxRecDepth 100000
namespace VL
open PySem PySem.Spec PyProof.Rows L2

/-- which clause takes what is raised: xs may come, ys are named by clauses -/
structure ExmAll (K : PySem.W.Frag) (mg : Str → Option Value) (xs ys : List Str) : Prop where
  all : ∀ c ∈ xs, ∀ v, mg c = some v → ∀ c' C, mg c' = some (.ref C) → c' ∈ ys → PySem.W.exmOne K v (.ref C) = some (c == c')
section
variable {K : PySem.W.Frag} {mg : Str → Option Value} {xs ys : List Str}
theorem ExmAll.sub {xs' ys' : List Str} (h : ExmAll K mg xs ys) (hx : xs'.all (xs.contains ·) = true) (hy : ys'.all (ys.contains ·) = true) :
    ∀ c ∈ xs', ∀ v, mg c = some v → ∀ c' C, mg c' = some (.ref C) → c' ∈ ys' → PySem.W.exmOne K v (.ref C) = some (c == c') := fun c hc v hv c' C hC hm =>
  h.all c (List.contains_iff_mem.mp (List.all_eq_true.mp hx c hc)) v hv c' C hC (List.contains_iff_mem.mp (List.all_eq_true.mp hy c' hm))
theorem exm_nil : ExmAll K mg [] ys := ⟨fun c hc => nomatch hc⟩
/-- one that may come -/
structure ExmRow (K : PySem.W.Frag) (mg : Str → Option Value) (x : Str) (X : Addr) (ys : List Str) : Prop where
  row : ∀ c' C, mg c' = some (.ref C) → c' ∈ ys → PySem.W.exmOne K (.ref X) (.ref C) = some (x == c')
theorem exr_nil {x : Str} {X : Addr} : ExmRow K mg x X [] := ⟨fun c' C _ h => nomatch h⟩
theorem exr_cons {x y : Str} {X Y : Addr} (hy : mg y = some (.ref Y)) (h : PySem.W.exmOne K (.ref X) (.ref Y) = some (x == y)) (r : ExmRow K mg x X ys) : ExmRow K mg x X (y :: ys) := ⟨fun c' C hC hm => by
  rcases List.mem_cons.mp hm with rfl | hm
  · rw [hy] at hC
    cases hC
    exact h
  · exact r.row c' C hC hm⟩
theorem exm_cons {x : Str} {X : Addr} (hx : mg x = some (.ref X)) (h : ExmRow K mg x X ys) (r : ExmAll K mg xs ys) : ExmAll K mg (x :: xs) ys := ⟨fun c hc v hv c' C hC hm => by
  rcases List.mem_cons.mp hc with rfl | hc
  · rw [hx] at hv
    cases hv
    exact h.row c' C hC hm
  · exact r.all c hc v hv c' C hC hm⟩
theorem exm_of {S T : Addr} {b : Bool} (h1 : PySem.W.subIn K (.ref T) (.type "BaseException") = some true) (h2 : PySem.W.isClsIn K T = true) (h3 : PySem.W.typeIn K (.ref T) = some (.type "type")) (h4 : PySem.W.subIn K (.ref S) (.ref T) = some b) : PySem.W.exmOne K (.ref S) (.ref T) = some b := by
  have k1 : (PySem.W.subIn K (.ref T) (.type "BaseException") == some true) = true := by rw [h1] <;> rfl
  have k2 : ((PySem.W.clsIn K T).isSome && PySem.W.typeIn K (.ref T) == some (.type "type")) = true := by
    have k3 : (PySem.W.clsIn K T).isSome = true := h2
    rw [k3, h3] <;> rfl
  show (if (PySem.W.subIn K (.ref T) (.type "BaseException") == some true) = true then (if ((PySem.W.clsIn K T).isSome && PySem.W.typeIn K (.ref T) == some (.type "type")) = true then PySem.W.subIn K (.ref S) (.ref T) else none) else none) = some b
  rw [if_pos k1, if_pos k2, h4]
end
section
variable {X : Cx} {pn : List Nat} {i : Nat} {C : Addr}
/-- a clause that is never come to -/
theorem sx_dead {ss : List Stmt} (a : Addr) (oe : Obj) (cls : Value) (d : Option Addr) (q : List (Addr × Obj)) (hz : Zc cls d oe) (hf : ∃ vs, oe.data = .fields vs) : PSs (X.suite a ((a, oe) :: q)) ss (tSx X.K X.mg pn i C (fun _ => noS) a cls d) :=
  ⟨fun pins s σ H Q I h => by
    obtain ⟨_, _, _, _, _, _, _, _, h⟩ := h
    exact h.elim⟩
end
section
variable {P : Program} {w : World} {K : PySem.W.Frag} {mg : Str → Option Value} {base : Heap} {k : Nat}
theorem tab_nil : ∀ e ∈ ([] : FTab), Nonempty (Has P w K mg base k e) := fun _ h => nomatch h
theorem tab_cons {e : Str × Nat × Fe} {l : FTab} (h : Has P w K mg base k e) (r : ∀ e ∈ l, Nonempty (Has P w K mg base k e)) : ∀ e' ∈ e :: l, Nonempty (Has P w K mg base k e') := fun e' m => by
  rcases List.mem_cons.mp m with rfl | m
  · exact ⟨h⟩
  · exact r e' m
end
end VL

set_option Elab.async false
set_option linter.all false
set_option maxRecDepth 100000
set_option maxHeartbeats 4000000
namespace VL
open PySem PySem.Spec PyProof.Rows L2

section
variable {P : Program} {w : World} {A : Around} {E : Value → Shared → Prop} {sh : Shared}
theorem set_ofList {lq : Addr} {itz : Array Value} (zs : List Int) {Q : Value → Shared → Prop} (hhz : A.handled = none) (hlq : sh.heap.IsList lq itz) (hitz : IntsAre itz.toList zs) (hbz : zs.length + 1 < scanBound)
    (hfin : ∀ (hx : Heap) (tkx cx : Nat), SetR w hx sh.heap.objs.size (fun jq => decide (jq ∈ zs)) cx → cx ≤ zs.length → (∀ bq oq, sh.heap.get? bq = some oq → hx.get? bq = some oq) → Q (.ref sh.heap.objs.size) { sh with heap := hx, toks := tkx }) :
    wpAny (model P w) A (call (.type "set") [.ref lq]) Q E sh := by
  have kisz : itz.size = zs.length := by
    have qq := IntsAre.length hitz
    rw [Array.length_toList] at qq
    exact qq
  obtain ⟨cx, tlq, hmroq⟩ := F.called_set.mro
  have hmadeq := F.called_set.made
  have hsubq := F.called_set.sub
  refine wpAny_call (codeAny_of_tree ?_)
  show wpAny _ _ (callAny (.type "set") ⟨[.ref lq], []⟩) _ _ _
  refine wpAny_pure (And.intro (Code.quiet_builtin _ (by decide +kernel)) (codeAny_builtin F.entry_type_call ?tc))
  case tc =>
  skip
  rw [Around.under_plain (weight_type_call_type "set" [.ref lq] []) rfl]
  have k1 := F.called_set.notType
  have k2 := F.called_set.canCreate
  have kct := F.typeCall_set_1 (.ref lq)
  repeat (any_goals (first | assumption | wp_step))

  refine codeAny_mono (code_set_led1 (.ref lq) (E := E) (Q₁ := fun objq shq₁ => objq = .ref sh.heap.objs.size ∧ shq₁ = { sh with heap := sh.heap.push { cls := .type "set", dict := none, data := .set #[] 0 (.fresh 0 0 (!w.params.followText "set-order")) } }) ⟨rfl, rfl⟩) fun rq shq₁ hrq => ?_
  cases rq with
  | error eq1 => exact hrq
  | ok flq =>
    cases flq with
    | ret objq =>
      obtain ⟨rfl, rfl⟩ := hrq
      have hSq : (sh.heap.push { cls := .type "set", dict := none, data := .set #[] 0 (.fresh 0 0 (!w.params.followText "set-order")) }).get? sh.heap.objs.size = some { cls := .type "set", dict := none, data := .set #[] 0 (.fresh 0 0 (!w.params.followText "set-order")) } := Heap.get?_push_size _ rfl
      have hTq : Shared.TypeIs { sh with heap := sh.heap.push { cls := .type "set", dict := none, data := .set #[] 0 (.fresh 0 0 (!w.params.followText "set-order")) } } (.ref sh.heap.objs.size) "set" := ⟨_, hSq, rfl⟩
      have hliq := F.called_set.init.lookup
      have hbiq := F.called_set.init.bind (.ref sh.heap.objs.size)
      repeat (any_goals (first | assumption | wp_step))

      refine codeAny_mono (codeAny_call_builtin (R := wants (fun rq shq₂ => rq = .none ∧ ∃ hx tkx cx, shq₂ = { sh with heap := hx, toks := tkx } ∧ SetR w hx sh.heap.objs.size (fun jq => decide (jq ∈ zs)) cx ∧ cx ≤ zs.length ∧
          (∀ bq oq, sh.heap.get? bq = some oq → hx.get? bq = some oq)) E) F.called_set.init.plain F.entry_set_init (check_set_init_1 hTq ?_)) fun rq₂ shq₂ hrq₂ => ?_
      · obtain ⟨olq, holq, hclq, nlq, hdlq⟩ := hlq
        obtain ⟨ocls, odict, odata, oslots⟩ := olq
        simp only at hclq hdlq
        subst hclq; subst hdlq
        have holx : (sh.heap.push { cls := .type "set", dict := none, data := .set #[] 0 (.fresh 0 0 (!w.params.followText "set-order")) }).get? lq = some { cls := .type "list", dict := odict, data := .seq itz nlq, slots := oslots } := Heap.get?_push_of_some _ holq
        have hslsq := F.sub_list_set
        have hslfq := F.sub_list_frozenset
        have hneq : (Value.type "list" == Value.type "dict") = false := by decide
        have hl1q : (sh.heap.push { cls := .type "set", dict := none, data := .set #[] 0 (.fresh 0 0 (!w.params.followText "set-order")) }).IsList lq itz := ⟨_, holx, rfl, nlq, rfl⟩
        unfold Builtin.«set.__init__» noKeywords Builtin.Frozenset.updateFrom
        generalize hPIq : pyIter = PIq
        wp_walk
        subst hPIq

        refine wpAny_pyIter_list hl1q ?_
        refine wpAny_bind (wpAny_runValue ?_)
        have hlSq : lq < sh.heap.objs.size := Heap.lt_size holq
        have hh3q : A.in1.in1.in1.handled = none := by simp [hhz]
        have hz1q : (sh.heap.push { cls := .type "set", dict := none, data := .set #[] 0 (.fresh 0 0 (!w.params.followText "set-order")) }).objs.size = sh.heap.objs.size + 1 := Heap.size_push ..
        have hneIq : lq ≠ (sh.heap.push { cls := .type "set", dict := none, data := .set #[] 0 (.fresh 0 0 (!w.params.followText "set-order")) }).objs.size := by
          rw [Heap.size_push]; exact Nat.ne_of_lt (Nat.lt_succ_of_lt hlSq)
        have hSfq : sh.heap.objs.size ∉ [(sh.heap.push { cls := .type "set", dict := none, data := .set #[] 0 (.fresh 0 0 (!w.params.followText "set-order")) }).objs.size, lq] := by
          rw [Heap.size_push]; simp only [List.mem_cons, List.mem_singleton, List.not_mem_nil, or_false, not_or]
          exact ⟨Nat.ne_of_lt (Nat.lt_succ_self _), Nat.ne_of_gt hlSq⟩
        have hvq : ∀ (iq : Nat) (vq : Value), itz[iq]? = some vq → ∃ kq tq, zs[iq]? = some kq ∧ vq = .int kq tq := fun iq vq hv => by
          have hiq : iq < zs.length := by rw [← kisz]; exact (Array.getElem?_eq_some_iff.mp hv).1
          obtain ⟨tq, eq1⟩ := PyProof.Rows.IntsAre.int_at hitz iq vq (by rw [Array.getElem?_toList]; exact hv)
          refine ⟨zs[iq], tq, List.getElem?_eq_getElem hiq, ?_⟩
          rw [eq1, List.getD_eq_getElem?_getD, List.getElem?_eq_getElem hiq] <;> rfl
        refine set_update_ints ((Walks.list hh3q _ lq hneIq itz).toS) sh.heap.objs.size
          hSfq zs kisz hbz hvq (itz.size - 0) 0 _ (by omega) (Nat.zero_le _)
          ⟨⟨_, Heap.get?_push_size _ rfl, rfl, rfl⟩, (hl1q.push _)⟩ ?hS0 ?hR
        case hS0 =>
          have hgetq : ((sh.heap.push { cls := .type "set", dict := none, data := .set #[] 0 (.fresh 0 0 (!w.params.followText "set-order")) }).push { cls := .type "list_iterator", data := .fields #[.ref lq, .int 0 0] }).get? sh.heap.objs.size
              = some { cls := .type "set", dict := none, data := .set #[] 0 (.fresh 0 0 (!w.params.followText "set-order")) } := Heap.get?_push_of_some _ hSq
          exact ⟨0, Nat.le_refl 0, setR_new_at hgetq⟩
        case hR =>
          intro shx cxx hmq hcx hSx
          obtain ⟨hx, gx, dx, tky, osx⟩ := shx
          have egq : gx = sh.gens := hmq.gens
          have edq : dx = sh.drawn := hmq.drawn
          have eoq : osx = sh.os := hmq.os
          subst egq; subst edq; subst eoq
          show wpAny _ _ _ _ _ _
          refine wpAny_pure ?_
          show wpAny _ _ (ret Value.none) _ _ _
          rw [kisz] at hcx
          refine wpAny_pure ⟨rfl, hx, tky, cxx, rfl, hSx, hcx, fun bq oq eq1 => ?_⟩
          have hb0q : bq < sh.heap.objs.size := Heap.lt_size eq1
          have hb1q : bq ≠ sh.heap.objs.size := Nat.ne_of_lt hb0q
          have hb2q : bq ≠ (sh.heap.push { cls := .type "set", dict := none, data := .set #[] 0 (.fresh 0 0 (!w.params.followText "set-order")) }).objs.size := by
            rw [Heap.size_push]; exact Nat.ne_of_lt (Nat.lt_succ_of_lt hb0q)
          exact hmq.heap bq oq (by simp only [List.mem_cons, List.mem_singleton, List.not_mem_nil, or_false, not_or]; exact ⟨hb1q, hb2q⟩) (Heap.get?_push_of_some _ (Heap.get?_push_of_some _ eq1))

      · cases rq₂ with
        | error eq1 => exact hrq₂
        | ok flq₂ =>
          cases flq₂ with
          | ret rq =>
            obtain ⟨rfl, hx, tkx, cxx, rfl, hSx, hcx, hkx⟩ := hrq₂
            repeat (any_goals (first | assumption | wp_step))
            exact hfin _ _ _ hSx hcx hkx
          | _ => exact hrq₂.elim
    | _ => exact hrq.elim
end
def insU (x : Int) : List Int → List Int
  | [] => [x]
  | y :: ys => if x < y then x :: y :: ys else if x = y then y :: ys else y :: insU x ys
def uniqI : List Int → List Int
  | [] => []
  | x :: xs => insU x (uniqI xs)
theorem insU_mem (x z : Int) : ∀ ys : List Int, z ∈ insU x ys ↔ z = x ∨ z ∈ ys
  | [] => by simp [insU]
  | y :: ys => by
    unfold insU
    split
    · simp
    · split
      · rename_i h
        subst h
        simp
      · simp [insU_mem x z ys]
        constructor
        · rintro (h | h | h) <;> simp [h]
        · rintro (h | h | h) <;> simp [h]
theorem uniqI_mem (z : Int) : ∀ xs : List Int, z ∈ uniqI xs ↔ z ∈ xs
  | [] => Iff.rfl
  | x :: xs => by
    show z ∈ insU x (uniqI xs) ↔ _
    rw [insU_mem, uniqI_mem z xs, List.mem_cons]
theorem insU_asc (x : Int) : ∀ {ys : List Int}, ys.Pairwise (· < ·) → (insU x ys).Pairwise (· < ·)
  | [], _ => List.pairwise_singleton _ x
  | y :: ys, h => by
    have h1 := List.pairwise_cons.mp h
    unfold insU
    split
    · rename_i hx
      exact List.pairwise_cons.mpr ⟨fun z m => by
        rcases List.mem_cons.mp m with rfl | m
        · exact hx
        · exact Int.lt_trans hx (h1.1 z m), h⟩
    · split
      · exact h
      · rename_i hx hn
        refine List.pairwise_cons.mpr ⟨fun z m => ?_, insU_asc x h1.2⟩
        rcases (insU_mem x z ys).mp m with rfl | m
        · omega
        · exact h1.1 z m
theorem uniqI_asc : ∀ xs : List Int, (uniqI xs).Pairwise (· < ·)
  | [] => .nil
  | x :: xs => insU_asc x (uniqI_asc xs)
theorem asc_uniq : ∀ {xs ys : List Int}, xs.Pairwise (· < ·) → ys.Pairwise (· < ·) → (∀ z, z ∈ xs ↔ z ∈ ys) → xs = ys
  | [], [], _, _, _ => rfl
  | [], y :: ys, _, _, h => absurd ((h y).mpr List.mem_cons_self) (by simp)
  | x :: xs, [], _, _, h => absurd ((h x).mp List.mem_cons_self) (by simp)
  | x :: xs, y :: ys, h1, h2, h => by
    have p1 := List.pairwise_cons.mp h1
    have p2 := List.pairwise_cons.mp h2
    have e : x = y := by
      have a := (h x).mp List.mem_cons_self
      have b := (h y).mpr List.mem_cons_self
      rcases List.mem_cons.mp a with a | a
      · exact a
      · rcases List.mem_cons.mp b with b | b
        · exact b.symm
        · have := p2.1 x a
          have := p1.1 y b
          omega
    subst e
    rw [asc_uniq p1.2 p2.2 fun z => ⟨fun m => by
      rcases List.mem_cons.mp ((h z).mp (List.mem_cons_of_mem _ m)) with e | m2
      · have := p1.1 z m
        omega
      · exact m2, fun m => by
      rcases List.mem_cons.mp ((h z).mpr (List.mem_cons_of_mem _ m)) with e | m2
      · have := p2.1 z m
        omega
      · exact m2⟩]
/-- sorted(set(xs)), fewer than 64 -/
def sortSetD : List D → Option O
  | [d] => match d.seqL with
    | some xs => match intsOf xs with
      | some ns => if ns.length < 64 then some (.fl ((uniqI ns).map D.int)) else none
      | none => none
    | none => none
  | _ => none
/-- set(xs) -/
def rSetL (K : PySem.W.Frag) (w : World) : List V → Hp → VK → Prop := fun vs H Q => ∃ (a : Addr) (ns : List Int), vs = [V.ref a] ∧ SqL K H a (ns.map V.int) ∧ ns.length < 64 ∧
  ∀ (p : Addr) (c : Nat), H p = none → c ≤ ns.length → Q (.ref p) (upd H p (SetO w p (fun j => decide (j ∈ ns)) c))
section
variable {X : Cx} {W : WX} {pos : Pos}
theorem cr_setL (hc : X.calm = true) : CallR X (.type "set") (rSetL X.K X.w) := by
  intro pins sh σ H vs us Q I r h
  obtain ⟨a, ns, rfl, hq, h1, q⟩ := h
  rw [Vals.ref1 r]
  obtain ⟨its, r2, pl, hz⟩ := I.list hq
  refine set_ofList ns (I.ok.hd hc) pl.isList (by simpa using r2.ints) (by unfold scanBound; omega) fun hx tkx c R hcx hk => ?_
  exact ⟨.ref _, upd H sh.heap.objs.size (SetO X.w sh.heap.objs.size (fun j => decide (j ∈ ns)) c), I.laid (t' := tkx) hk (Nat.le_refl _) (setO_new R), rfl, q _ c (I.hok.fresh (Nat.le_refl _)) hcx⟩
theorem v_sortSet {e : Expr} {o : Opd} {p p2 q : Pos} (hc : X.calm = true) (hg : Gl X "sorted") (hm : X.mg "sorted" = none) (hg2 : Gl X "set") (hm2 : X.mg "set" = none) (ha : VA X W [e] [o])
    (na : starEach [e] X.env = (false, eval e X.env) :: starEach [] X.env := by rfl)
    (nb : starEach [Expr.Call (.Name "set" p2) [e] [] q] X.env = (false, eval (Expr.Call (.Name "set" p2) [e] [] q) X.env) :: starEach [] X.env := by rfl)
    (hpl : (backTo pos (starEach [] X.env)).any (·.1) = false := by rfl) (hpl2 : (backTo q (starEach [] X.env)).any (·.1) = false := by rfl) :
    VE X W (.Call (.Name "sorted" p) [.Call (.Name "set" p2) [e] [] q] [] pos) (opN sortSetD [o]) := by
  refine pe_imp (pe_callB (cr_sortedSet hc) hg hm (by decide +kernel) (pa_cons (pe_callTy (cr_setL hc) hg2 hm2 (by decide +kernel) ha (by decide) (by decide) na hpl2) pa_nil nb) (by decide) (by decide) nb hpl) fun σ H Q h => ?_
  refine tArg_mono (fun vs H1 h => ?_) (opN_ok h)
  obtain ⟨av, ds, dm, hv, f⟩ := h
  unfold sortSetD at f
  split at f
  · obtain ⟨v, rfl, r⟩ := hv.one
    rename_i d
    split at f
    · rename_i xs e1
      split at f
      · rename_i ns e2
        split at f
        · rename_i hn
          rw [intsOf_eq e2] at e1
          obtain ⟨a, vs, rfl, h1, h2⟩ := r.seqL e1
          rw [h2.ints] at h1
          refine ⟨a, ns, rfl, h1, hn, fun p c hp hcn => ⟨p, _, c, rfl, upd_same, Nat.lt_of_le_of_lt hcn hn, fun ns' p' ha' hm' hl' hp' => ?_⟩⟩
          have en : ns' = uniqI ns := asc_uniq ha' (uniqI_asc ns) fun z => by
            rw [hm' z, uniqI_mem, decide_eq_true_iff]
          subst en
          exact f p' _ _ (Grow.new hp) (RDs.ofInts (uniqI ns)) hp'
        · exact f.elim
      · exact f.elim
    · exact f.elim
  · exact f.elim
end
end VL

set_option Elab.async false
set_option linter.all false
set_option maxRecDepth 100000
set_option maxHeartbeats 4000000
namespace VL
open PySem PySem.Spec PyProof.Rows L2

theorem rgV_ints (a b : Int) : rgV a b = ((List.range (b - a).toNat).map fun i => a + (i : Nat)).map V.int := by
  unfold rgV
  rw [List.map_map]
  rfl
theorem rangeL_ints (a : Int) (n : Nat) : rangeL a n = ((List.range n).map fun i => a + (i : Nat)).map D.int := by
  unfold rangeL
  rw [List.map_map]
  rfl
def okL (a b : Int) : Bool := okR a && okR b && decide ((b - a).toNat ≤ 16777216)
theorem okL_rg {a b : Int} (h : okL a b = true) : RgOk a b := by
  unfold okL at h
  rw [Bool.and_eq_true, Bool.and_eq_true, decide_eq_true_iff] at h
  exact ⟨(okR_ok h.1.1).1, (okR_ok h.1.1).2, (okR_ok h.1.2).1, (okR_ok h.1.2).2, h.2⟩
def listRgD : List D → Option O
  | [.int n] => if okL 0 n then some (.fl (rangeL 0 n.toNat)) else none
  | [.int a, .int b] => if okL a b then some (.fl (rangeL a (b - a).toNat)) else none
  | _ => none
@[simp] theorem listRgD_1 (n : Int) : listRgD [.int n] = if okL 0 n then some (.fl (rangeL 0 n.toNat)) else none := (rfl)
@[simp] theorem listRgD_2 (a b : Int) : listRgD [.int a, .int b] = if okL a b then some (.fl (rangeL a (b - a).toNat)) else none := (rfl)
def lenRgD : List D → Option O
  | [.int a, .int b] => if okL a b then some (.d (.int ((b - a).toNat : Nat))) else none
  | _ => none
@[simp] theorem lenRgD_2 (a b : Int) : lenRgD [.int a, .int b] = if okL a b then some (.d (.int ((b - a).toNat : Nat))) else none := (rfl)
theorem okL_nat {a b : Nat} (h : b ≤ 16777216) (h2 : a ≤ 16777216) : okL (a : Int) (b : Int) = true := by
  unfold okL
  rw [okR_nat (by omega), okR_nat (by omega), decide_eq_true (show ((b : Int) - (a : Int)).toNat ≤ 16777216 by omega)]
  rfl
section
variable {X : Cx} {W : WX} {pos : Pos}
theorem v_listRg1 {e : Expr} {o : Opd} {p p2 q : Pos} (hc : X.calm = true) (hg : Gl X "list") (hm : X.mg "list" = none) (hg2 : Gl X "range") (hm2 : X.mg "range" = none) (ha : VO X W e o)
    (na : starEach [e] X.env = (false, eval e X.env) :: starEach [] X.env := by rfl)
    (nb : starEach [Expr.Call (.Name "range" p2) [e] [] q] X.env = (false, eval (Expr.Call (.Name "range" p2) [e] [] q) X.env) :: starEach [] X.env := by rfl) :
    VE X W (.Call (.Name "list" p) [.Call (.Name "range" p2) [e] [] q] [] pos) (opN listRgD [o]) := by
  refine pe_imp (pe_listRg hc hg hm (prg_1 hg2 hm2 ha na) nb) fun σ H Q h => tOpd_mono (fun x H1 h => ?_) (opN_ok h)
  obtain ⟨av, ds, dm, hv, f⟩ := h
  unfold listRgD at f
  split at f
  · rename_i n
    split at f
    · rename_i hk
      obtain ⟨v, ev, r⟩ := hv.one
      cases ev
      cases r with | d r =>
        cases r
        refine ⟨n, rfl, okL_rg hk, fun q hq => ?_⟩
        have e : (n - 0).toNat = n.toNat := by omega
        rw [rgV_ints, e]
        refine f q _ _ (Grow.refl _) ?_ hq
        rw [rangeL_ints]
        exact RDs.ofInts _
    · exact f.elim
  · rename_i a b
    cases hv with | cons h1 h2 => cases h2
  · exact f.elim
theorem v_listRg2 {e e2 : Expr} {o o2 : Opd} {p p2 q : Pos} (hc : X.calm = true) (hg : Gl X "list") (hm : X.mg "list" = none) (hg2 : Gl X "range") (hm2 : X.mg "range" = none) (ha : VO X W e o) (hb : VO X W e2 o2)
    (na : starEach [e, e2] X.env = (false, eval e X.env) :: starEach [e2] X.env := by rfl) (na2 : starEach [e2] X.env = (false, eval e2 X.env) :: starEach [] X.env := by rfl) (hp : (backTo q (starEach [e2] X.env)).any (·.1) = false := by rfl)
    (nb : starEach [Expr.Call (.Name "range" p2) [e, e2] [] q] X.env = (false, eval (Expr.Call (.Name "range" p2) [e, e2] [] q) X.env) :: starEach [] X.env := by rfl) :
    VE X W (.Call (.Name "list" p) [.Call (.Name "range" p2) [e, e2] [] q] [] pos) (opN listRgD [o, o2]) := by
  refine pe_imp (pe_listRg hc hg hm (prg_2 hg2 hm2 ha hb na na2 hp) nb) fun σ H Q h => tOpd_mono (fun x H1 h => tOpd_mono (fun y H2 h => ?_) h) (opN_ok h)
  obtain ⟨av, ds, dm, hv, f⟩ := h
  unfold listRgD at f
  split at f
  · cases hv with | cons h1 h2 => cases h2
  · rename_i a b
    split at f
    · rename_i hk
      cases hv with | cons h1 h2 =>
        cases h2 with | cons h2 h3 =>
          cases h1 with | d h1 =>
            cases h1
            cases h2 with | d h2 =>
              cases h2
              refine ⟨a, b, rfl, rfl, okL_rg hk, fun q hq => ?_⟩
              rw [rgV_ints]
              refine f q _ _ (Grow.refl _) ?_ hq
              rw [rangeL_ints]
              exact RDs.ofInts _
    · exact f.elim
  · exact f.elim
theorem v_lenRg2 {e e2 : Expr} {o o2 : Opd} {p p2 q : Pos} (hg : Gl X "len") (hm : X.mg "len" = none) (hg2 : Gl X "range") (hm2 : X.mg "range" = none) (ha : VO X W e o) (hb : VO X W e2 o2)
    (na : starEach [e, e2] X.env = (false, eval e X.env) :: starEach [e2] X.env := by rfl) (na2 : starEach [e2] X.env = (false, eval e2 X.env) :: starEach [] X.env := by rfl) (hp : (backTo q (starEach [e2] X.env)).any (·.1) = false := by rfl)
    (nb : starEach [Expr.Call (.Name "range" p2) [e, e2] [] q] X.env = (false, eval (Expr.Call (.Name "range" p2) [e, e2] [] q) X.env) :: starEach [] X.env := by rfl) :
    VE X W (.Call (.Name "len" p) [.Call (.Name "range" p2) [e, e2] [] q] [] pos) (opN lenRgD [o, o2]) := by
  refine ⟨fun pins s σ H Q I h => ?_⟩
  have h' := opN_ok h
  refine Call_ (ld_blt I hg hm boot_len (PyProof.Rows.callWith_builtin1 (args_cons (thn ((prg_2 hg2 hm2 ha hb na na2 hp) pins s σ H (fun i j H2 => okL i j = true ∧ Q (.int ((j - i).toNat : Nat)) H2) I ?_) fun x s1 hx => args_nil ?_) nb) nb rfl))
  · refine tOpd_mono (fun x H1 h => tOpd_mono (fun y H2 h => ?_) h) h'
    obtain ⟨av, ds, dm, hv, f⟩ := h
    unfold lenRgD at f
    split at f
    · rename_i a b
      split at f
      · rename_i hk
        cases hv with | cons h1 h2 =>
          cases h2 with | cons h2 h3 =>
            cases h1 with | d h1 =>
              cases h1
              cases h2 with | d h2 =>
                cases h2
                exact ⟨a, b, rfl, rfl, hk, f _ _ (Grow.refl _) (.int _)⟩
      · exact f.elim
    · exact f.elim
  · obtain ⟨r, a, b, t, u, v, H1, ex, hr, I1, ok, q⟩ := hx
    subst ex
    have ok' := okL_rg ok
    refine call_len_range hr (rangeSize_nat a b) (by have := ok'.2.2.2.2; omega) ?_
    exact ⟨.int ((b - a).toNat : Nat), H1, (I1.tok _).tok _, ⟨_, rfl⟩, q⟩
end
end VL

set_option Elab.async false
set_option linter.all false
set_option maxRecDepth 100000
set_option maxHeartbeats 4000000
namespace VL
open PySem PySem.Spec PyProof.Rows L2

theorem meets_enum1 {v : Value} {o : Obj} {HH : Heap → Prop} (B : Begins v o HH) :
    Meets (Builtin.«enumerate.__new__» ⟨[.type "enumerate", v], []⟩) (fun _ R sh => HH sh.heap ∧
      R (.ok (.ret (.ref (sh.heap.push o).objs.size))) { sh with heap := (sh.heap.push o).push { cls := .type "enumerate", data := .fields #[.none, .bool false, .ref sh.heap.objs.size, rawInt 0, .none, .none] } }) :=
  .of_wp fun pr ww AA R sh hs => by
    obtain ⟨hpx, gx, dx, tkx, osx⟩ := sh
    obtain ⟨hs1, hs⟩ := hs
    have hsubx := sub_enumerate
    have qx : ∀ {A' : Around} {E' : Value → Shared → Prop} {Q : Value → Shared → Prop}, Q (.ref hpx.objs.size) ⟨hpx.push o, gx, dx, tkx, osx⟩ → wpAny (model pr ww) A' (pyIter v) Q E' ⟨hpx, gx, dx, tkx, osx⟩ :=
      fun q => B.iter pr ww _ _ ⟨hpx, gx, dx, tkx, osx⟩ _ hs1 q
    wp_walk using qx
    refine wpAny_stack_any fun st => wpAny_pure ?_
    split
    · rename_i cx _ _ _ _ _
      cases (cx == Value.type "enumerate")
      · wp_walk using qx
        exact ⟨_, rfl, hs⟩
      · wp_walk using qx
        exact ⟨_, rfl, hs⟩
    · wp_walk using qx
      exact ⟨_, rfl, hs⟩
section
variable {P : Program} {w : World} {A : Around} {E : Value → Shared → Prop} {sh : Shared}
theorem call_enum1 {v : Value} {o : Obj} {HH : Heap → Prop} {Q : Value → Shared → Prop} (B : Begins v o HH) (h1 : HH sh.heap)
    (hq : ∀ hx, IsEnum hx (sh.heap.objs.size + 1) sh.heap.objs.size 0 .none → hx.get? sh.heap.objs.size = some o → (∀ b u, sh.heap.get? b = some u → hx.get? b = some u) → Q (.ref (sh.heap.objs.size + 1)) { sh with heap := hx }) :
    wpAny (model P w) A (call (.type "enumerate") [v]) Q E sh := by
  refine callType_new F.called_enumerate (by decide) (F.typeCall_enumerate_1 _) (F.newCall_enumerate_1 _) (fun obj => F.args_object_init_2 obj _) F.entry_enumerate_new (meets_enum1 B) ⟨h1, ?_⟩
  have hz : (sh.heap.push o).objs.size = sh.heap.objs.size + 1 := Heap.size_push ..
  show _ ∧ _
  rw [hz]
  have he : IsEnum ((sh.heap.push o).push { cls := .type "enumerate", data := .fields #[.none, .bool false, .ref sh.heap.objs.size, rawInt 0, .none, .none] }) (sh.heap.objs.size + 1) sh.heap.objs.size 0 .none := by
    have hh := Heap.get?_push_size (sh.heap.push o) (o := { cls := .type "enumerate", data := .fields #[.none, .bool false, .ref sh.heap.objs.size, rawInt 0, .none, .none] }) rfl
    rw [hz] at hh
    exact hh
  exact ⟨⟨_, he, rfl⟩, hq _ he (Heap.get?_push_of_some _ (Heap.get?_push_size _ B.free)) fun b u x => Heap.get?_push_of_some _ (Heap.get?_push_of_some _ x)⟩
end
/-- the tuple at a, each item in a new pair -/
def IteT (K : PySem.W.Frag) (a : Addr) : It :=
  ⟨fun i H => ∃ (xs : List V) (x : V), SqT K H a xs ∧ xs[i]? = some x, fun i H v H' => ∃ T x, v = .ref T ∧ H T = none ∧ H' = upd H T (.tup [.int (i : Nat), x]) ∧ ∀ xs, SqT K H a xs → xs[i]? = some x, fun i H => ∃ xs : List V, SqT K H a xs ∧ xs.length ≤ i⟩
theorem turn_enumT {P : Program} {w : World} {K : PySem.W.Frag} {elts : List Expr} {kk : Nat} {tpos : Pos} (a e it : Addr) (hai : a ≠ it) (hae : e ≠ a) :
    Turn P w K (.Tuple elts kk tpos) (IteT K a) [e, it] e (fun i h => (∃ old, IsEnum h e it ((i : Nat) : Int) old) ∧ h.IsTupleIter it a i ∧ e ≠ it) where
  mem := by simp
  obj := fun i h st b hb => by
    obtain ⟨⟨old, he⟩, ⟨u, hu, hc, hd⟩, _⟩ := st
    rcases (show b = e ∨ b = it by simpa using hb) with rfl | rfl
    · exact ⟨_, he, fun v q => nomatch q⟩
    · exact ⟨u, hu, fun v q => by rw [hd] at q; cases q⟩
  keep := fun i h h' st k => by
    obtain ⟨⟨old, he⟩, hi, hne⟩ := st
    exact ⟨⟨old, k e (by simp) _ he⟩, hi.at fun o q => k it (by simp) o q, hne⟩
  item := by
    intro X hP hw hK hc i pins sh σ H E I hf st hg
    subst hP hw hK
    obtain ⟨⟨old, he⟩, hit, hne⟩ := st
    obtain ⟨xs, x, hq, hx⟩ := hg
    obtain ⟨its, rv, pt, hz⟩ := I.tuple hq
    obtain ⟨u, hu, ru⟩ := rv.get hx
    have hel : e < sh.heap.objs.size := Heap.lt_size he
    have hil : it < sh.heap.objs.size := by
      obtain ⟨_, q, _⟩ := hit
      exact Heap.lt_size q
    have ht : sh.heap.IsTuple a its.toArray := pt
    have hh : X.A.in1.handled = none := by
      have := I.ok.hd hc
      simpa using this
    have hlt : i < its.toArray.size := by
      have := (List.getElem?_eq_some_iff.mp hu).1
      simpa using this
    refine wpAny_pyNext_enum_itemD (Draws.tuple hh it a hai its.toArray) he ⟨hit, ht⟩ hlt hne (by simp; exact ⟨hne, hae⟩) fun y hx' tk hP ho hst' hT hsz hk => ?_
    have ey : y = u := by
      have h1 : its.toArray[i]? = some y := hP
      rw [List.getElem?_toArray, hu] at h1
      exact (Option.some.inj h1).symm
    subst ey
    refine ⟨_, rfl, wpAny_letOwnedTupleGo_enum (s := { sh with heap := hx', toks := tk + 1 }) ho fun hy he' sb => ?_⟩
    have hT2 : hy.get? sh.heap.objs.size = some { cls := .type "tuple", data := .seq #[.int i tk, y] } := (sb.2 _ (Nat.ne_of_gt hel)).trans hT
    have new : ObjOk X.prog X.w (upd H sh.heap.objs.size (.tup [.int (i : Nat), x])) hy sh.heap.objs.size (.tup [.int (i : Nat), x]) :=
      ⟨by show 2 ≤ sizeLine; decide, [.int i tk, y], .cons ⟨_, rfl⟩ (.cons ru .nil), ⟨_, hT2, rfl, _, rfl⟩⟩
    have I1 : Inv X pins σ (upd H sh.heap.objs.size (.tup [.int (i : Nat), x])) { sh with heap := hy, toks := tk + 1 } :=
      I.turnedNew (ch := [e, it]) (fun b ob hb q => (sb.2 b (fun z => hb (by simp [z]))).trans (hk b ob (fun z => hb (by simp [z])) (fun z => hb (by simp [z])) q)) hf (Nat.le_refl _) new
    refine ⟨.ref sh.heap.objs.size, _, I1, rfl, ⟨_, x, rfl, I.hok.fresh (Nat.le_refl _), rfl, fun ys hy2 => by rw [I.tuple_inj hy2 hq]; exact hx⟩, ⟨⟨y, ?_⟩, hst'.1.at fun o q => (sb.2 it (Ne.symm hne)).trans q, hne⟩, fun b hb => ?_⟩
    · rw [show ((i + 1 : Nat) : Int) = (i : Int) + 1 by omega]
      exact he'
    · have hb' : b < sh.heap.objs.size := by
        rcases (show b = e ∨ b = it by simpa using hb) with z | z
        · rw [z]; exact hel
        · rw [z]; exact hil
      rw [upd_ne (Nat.ne_of_lt hb')]
      exact (hf b hb).1
  done := by
    intro X hP hw hK hc i pins sh σ H E I hf st hg
    subst hP hw hK
    obtain ⟨⟨old, he⟩, hit, hne⟩ := st
    obtain ⟨xs, hq, hx⟩ := hg
    obtain ⟨its, rv, pt, hz⟩ := I.tuple hq
    obtain ⟨f0, f1, f2, f3, f4, f5⟩ := hf it (by simp)
    have hl := rv.length
    have ht : sh.heap.IsTuple a its.toArray := pt
    have hh : X.A.in1.handled = none := by
      have := I.ok.hd hc
      simpa using this
    have Dv : Draws X.prog X.w X.A.in1 it [it, a] i (fun _ _ => True) (fun j h => h.IsTupleIter it a j ∧ h.IsTuple a its.toArray ∧ j = i) :=
      { live := fun _ _ st => let ⟨o, ho, _⟩ := st.1; ⟨o, ho⟩
        frame := fun _ _ _ st hk => ⟨st.1.at fun o e => hk it (by simp) o e, st.2.1.at fun o e => hk a (by simp) o e, st.2.2⟩
        item := fun j s Q E hj st hQ => absurd st.2.2 (Nat.ne_of_lt hj)
        done := fun s Q E st hE => wpAny_nextOf_tuple_end hh st.1 st.2.1 (by simp; omega) hE }
    exact wpAny_pyNext_enum_endD Dv he ⟨hit, ht, rfl⟩ fun hx' eb => ⟨rfl, I.turned (t' := sh.toks) (fun b o hb q => eb b o hb q) f0 f1 f3 f4 f5⟩
  self := fun A i s Q E st h => by
    obtain ⟨⟨_, he⟩, _⟩ := st
    exact wpAny_pyIter_enum he h
/-- over a list or a tuple, whichever it is -/
def iEnumS (K : PySem.W.Frag) (ta : TA) : TI := fun σ H R => ta σ H fun vs H1 => (∃ a xs, vs = [.ref a] ∧ SqL K H1 a xs ∧ R (Ite K a) H1) ∨ ∃ a xs, vs = [.ref a] ∧ SqT K H1 a xs ∧ R (IteT K a) H1
theorem pi_enumS {X : Cx} {e : Expr} {ta : TA} {p pos tpos : Pos} {elts : List Expr} {kk : Nat} (hg : Gl X "enumerate") (hm : X.mg "enumerate" = none) (ha : PA X [e] ta) (hs : starEach [e] X.env = [(false, eval e X.env)] := by rfl) :
    PI X (.Tuple elts kk tpos) (.Call (.Name "enumerate" p) [e] [] pos) (iEnumS X.K ta) := by
  refine ⟨fun pins sh σ H R I h => ?_⟩
  refine Call_ (ld_blt I hg hm PyProof.Rows.boot_enumerate (PyProof.Rows.callWith_type1 (thn (ha.run pos pins sh σ H _ I h) fun us s1 hh => ?_) hs rfl))
  obtain ⟨vs, H1, I1, r1, q1⟩ := hh
  have fin : ∀ (a : Addr) (o : Obj) (HH : Heap → Prop) (J : It) (tn : Nat → Heap → Prop), Begins (.ref a) o HH → HH s1.heap → Turn X.prog X.w X.K (.Tuple elts kk tpos) J [s1.heap.objs.size + 1, s1.heap.objs.size] (s1.heap.objs.size + 1) tn →
      (∀ hx, IsEnum hx (s1.heap.objs.size + 1) s1.heap.objs.size 0 .none → hx.get? s1.heap.objs.size = some o → tn 0 hx) → R J H1 → wpAny (model X.prog X.w) X.A (call (.type "enumerate") [.ref a]) (fun v s1 => wpAny (model X.prog X.w) X.A (pyIter v) (PIE X pins σ (.Tuple elts kk tpos) R) X.xe s1) X.xe s1 := by
    intro a o HH J tn B h1 T t0 q
    refine call_enum1 B h1 fun hx he ho hk => wpAny_pyIter_enum he ?_
    have I2 : Inv X pins σ H1 { s1 with heap := hx } := I1.kept (t' := s1.toks) hk
    refine ⟨s1.heap.objs.size + 1, [s1.heap.objs.size + 1, s1.heap.objs.size], tn, J, H1, rfl, I2, T, t0 hx he ho, fun b hb => ?_, q⟩
    have hle : s1.heap.objs.size ≤ b := by
      rcases (show b = s1.heap.objs.size + 1 ∨ b = s1.heap.objs.size by simpa using hb) with z | z
      · rw [z]; exact Nat.le_add_right _ _
      · rw [z]; exact Nat.le_refl _
    exact I1.fpOk hle (I1.hok.fresh hle)
  rcases q1 with ⟨a, xs, ex, hq, q⟩ | ⟨a, xs, ex, hq, q⟩
  · subst ex
    cases r1 with
    | cons r rr =>
      cases rr
      cases r
      obtain ⟨its, rv, p', hz⟩ := I1.list hq
      exact fin a _ _ _ _ (begins_list a its.toArray) p'.isList (turn_enum a (s1.heap.objs.size + 1) s1.heap.objs.size) (fun hx he ho => ⟨⟨.none, he⟩, ⟨_, ho, rfl, rfl⟩, Nat.succ_ne_self _⟩) q
  · subst ex
    cases r1 with
    | cons r rr =>
      cases rr
      cases r
      obtain ⟨its, rv, p', hz⟩ := I1.tuple hq
      have hal : a < s1.heap.objs.size := by
        obtain ⟨o, ho, _⟩ := p'
        exact Heap.lt_size ho
      exact fin a _ _ _ _ (begins_tuple a its.toArray) p' (turn_enumT a (s1.heap.objs.size + 1) s1.heap.objs.size (Nat.ne_of_lt hal) (Nat.ne_of_gt (Nat.lt_succ_of_lt hal))) (fun hx he ho => ⟨⟨.none, he⟩, ⟨_, ho, rfl, rfl⟩, Nat.succ_ne_self _⟩) q
def enumSD : List D → Option (List D)
  | [d] => d.seq.map (enumL 0)
  | _ => none
@[simp] theorem enumSD_lst (xs : List D) : enumSD [.lst xs] = some (enumL 0 xs) := (rfl)
@[simp] theorem enumSD_scr (xs : List D) : enumSD [.scr xs] = some (enumL 0 xs) := (rfl)
@[simp] theorem enumSD_tup (xs : List D) : enumSD [.tup xs] = some (enumL 0 xs) := (rfl)
section
variable {K : PySem.W.Frag} {av : Addr → Prop} {H : Hp}
theorem seqT_stable {v : V} {ds : List D} (h : RD K av H v (.tup ds)) : ∃ a vs, v = .ref a ∧ RDs K av H vs ds ∧ SqT K H a vs ∧ ∀ av' H', Keep av av' H H' → SqT K H' a vs := by
  cases h with
  | tup n e r => exact ⟨_, _, rfl, r, SqT.of e, fun av' H' k => SqT.of (k.at_ _ _ n e)⟩
  | ktup e r => exact ⟨_, _, rfl, r, .inr e, fun av' H' k => .inr e⟩
theorem yields_enumT {v : V} {ds : List D} (h : RD K av H v (.tup ds)) : ∃ a, v = .ref a ∧ (∃ vs, SqT K H a vs) ∧ Yields K av H (IteT K a) (enumL 0 ds) := by
  obtain ⟨a, vs, rfl, r, h0, st⟩ := seqT_stable h
  refine ⟨a, rfl, ⟨vs, h0⟩, fun av' H' k i hi => ?_, fun av' H' k dm i x H'' d hd y => ?_, fun av' H' k => ?_⟩
  · rw [enumL_length] at hi
    obtain ⟨v, e, _⟩ := r.getD (List.getElem?_eq_getElem hi)
    exact ⟨vs, v, st av' H' k, e⟩
  · obtain ⟨T, x1, rfl, hn, rfl, y⟩ := y
    obtain ⟨d1, e1, rfl⟩ := enumL_get ds 0 i d hd
    obtain ⟨v, e, q⟩ := r.getD e1
    have e2 := y vs (st av' _ k)
    rw [e] at e2
    cases e2
    rw [Nat.zero_add]
    exact tup_new dm hn (.cons (.int _) (.cons (q.keep k) .nil))
  · exact ⟨vs, st av' H' k, by rw [enumL_length, r.length]; exact Nat.le_refl _⟩
end
section
variable {X : Cx} {W : WX} {pos : Pos} {e : Expr}
theorem i_enumS {p tpos : Pos} {elts : List Expr} {kk : Nat} {os : List Opd} (hg : Gl X "enumerate") (hm : X.mg "enumerate" = none) (h : VA X W [e] os) (hs : starEach [e] X.env = [(false, eval e X.env)] := by rfl) :
    VI X W (.Tuple elts kk tpos) (.Call (.Name "enumerate" p) [e] [] pos) (srcC enumSD os) := by
  refine pi_imp (pi_enumS hg hm h hs) fun σ H R h => tArg_mono (fun vs H1 h => ?_) (srcC_ok h)
  obtain ⟨av1, l, ds, dm, r, hg, k⟩ := h
  unfold enumSD at hg
  split at hg
  · cases r with | cons r rr =>
      cases rr
      rename_i d v
      cases d with
      | lst xs =>
        cases hg
        obtain ⟨a, rfl, ⟨vs, h1⟩, Y⟩ := yields_enum r rfl
        exact .inl ⟨a, vs, rfl, h1, k _ Y⟩
      | scr xs =>
        cases hg
        obtain ⟨a, rfl, ⟨vs, h1⟩, Y⟩ := yields_enum r rfl
        exact .inl ⟨a, vs, rfl, h1, k _ Y⟩
      | tup xs =>
        cases hg
        obtain ⟨a, rfl, ⟨vs, h1⟩, Y⟩ := yields_enumT r
        exact .inr ⟨a, vs, rfl, h1, k _ Y⟩
      | _ => cases hg
  · cases hg
end
end VL

set_option Elab.async false
set_option linter.all false
set_option maxRecDepth 100000
set_option maxHeartbeats 4000000
namespace VL
open PySem PySem.Spec PyProof.Rows L2
def zipSD : List D → Option (List D)
  | [.tup xs, .tup ys] => some (zipLD xs ys)
  | [d, e] => match d.seqL, e.seqL with
    | some xs, some ys => some (zipLD xs ys)
    | _, _ => none
  | _ => none
@[simp] theorem zipSD_tup (xs ys : List D) : zipSD [.tup xs, .tup ys] = some (zipLD xs ys) := (rfl)
@[simp] theorem zipSD_lst (xs ys : List D) : zipSD [.lst xs, .lst ys] = some (zipLD xs ys) := (rfl)
section
variable {K : PySem.W.Frag} {av : Addr → Prop} {H : Hp}
theorem yields_zipT {v v2 : V} {ds ds2 : List D} (h : RD K av H v (.tup ds)) (h2 : RD K av H v2 (.tup ds2)) :
    ∃ a b, v = .ref a ∧ v2 = .ref b ∧ (∃ vs, SqT K H a vs) ∧ (∃ vs, SqT K H b vs) ∧ Yields K av H (RZ.ItzT K a b) (zipLD ds ds2) := by
  obtain ⟨a, vs, rfl, r, h0, st⟩ := seqT_stable h
  obtain ⟨b, ws, rfl, r2, h02, st2⟩ := seqT_stable h2
  refine ⟨a, b, rfl, rfl, ⟨vs, h0⟩, ⟨ws, h02⟩, fun av' H' k i hi => ?_, fun av' H' k dm i x H'' d hd y => ?_, fun av' H' k => ?_⟩
  · rw [zipLD_length] at hi
    obtain ⟨v, e, _⟩ := r.getD (List.getElem?_eq_getElem (show i < ds.length by omega))
    obtain ⟨v2, e2, _⟩ := r2.getD (List.getElem?_eq_getElem (show i < ds2.length by omega))
    exact ⟨vs, ws, v, v2, st av' H' k, st2 av' H' k, e, e2⟩
  · obtain ⟨T, x1, x2, rfl, hn, rfl, y, y2⟩ := y
    obtain ⟨d1, d2, e1, e2, rfl⟩ := zipLD_get ds ds2 i d hd
    obtain ⟨v, f1, q1⟩ := r.getD e1
    obtain ⟨v2, f2, q2⟩ := r2.getD e2
    have g1 := y vs (st av' _ k)
    have g2 := y2 ws (st2 av' _ k)
    rw [f1] at g1
    rw [f2] at g2
    cases g1
    cases g2
    exact tup_new dm hn (.cons (q1.keep k) (.cons (q2.keep k) .nil))
  · refine ⟨vs, ws, st av' H' k, st2 av' H' k, ?_⟩
    rw [zipLD_length, r.length, r2.length]
    omega
end
section
variable {X : Cx} {W : WX} {pos : Pos} {e e2 : Expr}
theorem i_zipS {p tpos : Pos} {elts : List Expr} {kk : Nat} {os : List Opd} (hg : Gl X "zip") (hm : X.mg "zip" = none) (h : VA X W [e, e2] os) (hs : starEach [e, e2] X.env = (false, eval e X.env) :: starEach [e2] X.env := by rfl) (hpl : (backTo pos (starEach [e2] X.env)).any (·.1) = false := by rfl) :
    VI X W (.Tuple elts kk tpos) (.Call (.Name "zip" p) [e, e2] [] pos) (srcC zipSD os) := by
  refine pi_imp (RZ.pi_zipA hg hm h hs hpl) fun σ H R h => tArg_mono (fun vs H1 h => ?_) (srcC_ok h)
  obtain ⟨av1, l, ds, dm, r, hg, k⟩ := h
  unfold zipSD at hg
  split at hg
  · cases r with | cons r rr =>
      cases rr with | cons r2 rr =>
        cases rr
        cases hg
        obtain ⟨a, b, rfl, rfl, ⟨vs, h1⟩, ⟨ws, h2⟩, Y⟩ := yields_zipT r r2
        exact ⟨a, b, vs, ws, rfl, .inr ⟨h1, h2, k _ Y⟩⟩
  · cases r with | cons r rr =>
      cases rr with | cons r2 rr =>
        cases rr
        split at hg
        · rename_i q1 q2
          cases hg
          obtain ⟨a, b, rfl, rfl, ⟨vs, h1⟩, ⟨ws, h2⟩, Y⟩ := yields_zip r q1 r2 q2
          exact ⟨a, b, vs, ws, rfl, .inl ⟨h1, h2, k _ Y⟩⟩
        · cases hg
  · cases hg
end
end VL

set_option Elab.async false
set_option linter.all false
set_option maxRecDepth 100000
namespace VL
open PySem PySem.Spec PyProof.Rows L2

inductive Al : Nat → D → Prop
  | non {n : Nat} : Al n .non
  | bl {n : Nat} (b : Bool) : Al n (.bl b)
  | int {n : Nat} (i : Int) : Al n (.int i)
  | str {n : Nat} {x : Str} (h : PyData.strOk x = true) : Al n (.str x)
  | lst {n : Nat} {xs : List D} (h : ∀ x ∈ xs, Al n x) (hl : xs.length < 16777216) : Al (n + 1) (.lst xs)
  | tup {n : Nat} {xs : List D} (h : ∀ x ∈ xs, Al n x) (hl : xs.length < 16777216) : Al (n + 1) (.tup xs)
theorem ok_str {n : Nat} {x : Str} (h : PyData.strOk x = true) : D.Ok n (.str x) := ⟨by simpa [D.py, PyData.canLay0] using h, Nat.zero_le _⟩
theorem Al.ok : ∀ {n : Nat} {x : D}, Al n x → D.Ok n x
  | _, _, .non => ok_non
  | _, _, .bl b => ok_bl b
  | _, _, .int i => ok_int i
  | _, _, .str h => ok_str h
  | _, _, .lst h _ => ok_lst fun x m => Al.ok (h x m)
  | _, _, .tup h _ => ok_tup fun x m => Al.ok (h x m)
theorem eqvs_refl : ∀ (xs : List D), (∀ x ∈ xs, PyData.eqv x.py x.py = true) → PyData.eqvAll (D.pys xs) (D.pys xs) = true
  | [], _ => rfl
  | x :: xs, h => by
    rw [D.pys, PyData.eqvAll, h x List.mem_cons_self, eqvs_refl xs fun y m => h y (List.mem_cons_of_mem _ m)]
    rfl
theorem Al.eqv : ∀ {n : Nat} {x : D}, Al n x → PyData.eqv x.py x.py = true
  | _, _, .non => rfl
  | _, _, .bl b => by cases b <;> rfl
  | _, _, .int i => by
    show (i == i) = true
    simp
  | _, _, .str (x := x) h => by
    show (x == x) = true
    simp
  | _, _, .lst h _ => by
    rw [D.py, PyData.eqv]
    exact eqvs_refl _ fun x m => Al.eqv (h x m)
  | _, _, .tup h _ => by
    rw [D.py, PyData.eqv]
    exact eqvs_refl _ fun x m => Al.eqv (h x m)
theorem Al.eqD {n : Nat} {x : D} (h : Al n x) (hn : n ≤ 64 := by decide) : eqD x x = some (.d (.bl true)) := by rw [eqD_ok h.ok h.ok hn hn, h.eqv]
theorem Al.neD {n : Nat} {x : D} (h : Al n x) (hn : n ≤ 64 := by decide) : neD x x = some (.d (.bl false)) := by rw [neD_ok h.ok h.ok hn hn, h.eqv]; rfl
theorem al_ints (xs : List Int) (h : xs.length < 16777216) : Al 1 (.lst (xs.map D.int)) := .lst (fun x m => by
  obtain ⟨i, _, rfl⟩ := List.mem_map.mp m
  exact .int i) (by rw [List.length_map]; exact h)
theorem eqvs_ints : ∀ (xs ys : List Int), PyData.eqvAll (D.pys (xs.map D.int)) (D.pys (ys.map D.int)) = decide (xs = ys)
  | [], [] => rfl
  | [], y :: ys => rfl
  | x :: xs, [] => rfl
  | x :: xs, y :: ys => by
    rw [List.map_cons, List.map_cons, D.pys, D.pys, PyData.eqvAll, eqvs_ints xs ys]
    have e : PyData.eqv (D.int x).py (D.int y).py = decide (x = y) := by
      show (x == y) = decide (x = y)
      by_cases h : x = y <;> simp [h]
    rw [e]
    by_cases h : x = y
    · by_cases h2 : xs = ys <;> simp [h, h2]
    · simp [h]
theorem eqD_ints (xs ys : List Int) : eqD (.lst (xs.map D.int)) (.lst (ys.map D.int)) = some (.d (.bl (decide (xs = ys)))) := by
  have ok : ∀ zs : List Int, D.Ok 1 (.lst (zs.map D.int)) := fun zs => ok_lst (n := 0) fun x m => by
    obtain ⟨i, _, rfl⟩ := List.mem_map.mp m
    exact ok_int i
  rw [eqD_ok (ok xs) (ok ys), D.py, D.py, PyData.eqv, eqvs_ints]
theorem neD_ints (xs ys : List Int) : neD (.lst (xs.map D.int)) (.lst (ys.map D.int)) = some (.d (.bl (!decide (xs = ys)))) := by
  have ok : ∀ zs : List Int, D.Ok 1 (.lst (zs.map D.int)) := fun zs => ok_lst (n := 0) fun x m => by
    obtain ⟨i, _, rfl⟩ := List.mem_map.mp m
    exact ok_int i
  rw [neD_ok (ok xs) (ok ys), D.py, D.py, PyData.eqv, eqvs_ints]
theorem neD_ints0 (xs : List Int) : neD (.lst (xs.map D.int)) (.lst []) = some (.d (.bl (!xs.isEmpty))) := by
  rw [show (D.lst []) = .lst (([] : List Int).map D.int) from rfl, neD_ints]
  cases xs <;> rfl
theorem ixN_last (n : Nat) : ixN (n + 1) (-1) = some n := by
  unfold ixN
  simp
  omega
theorem atI_last {xs : List D} {x : D} : atI (xs ++ [x]) (-1) = some x := by
  unfold atI
  rw [List.length_append, List.length_singleton, ixN_last]
  simp
theorem ixL_last (xs : List D) (x : D) : ixL (xs ++ [x]) (-1) = some (.d x) := by
  unfold ixL
  rw [atI_last]
def al1 (F : Fe) : Fs := (ifS (tstE (opN isiD [(.pk 1), (.val (cE (.ty "dict")))]))
  (seqS noS noS)
  nilS)
def al2a1 : Fs := (ifS (orT (tstE (op2 neD (.val (opN isiD [(.pk 0), (.val (cE (.ty "list")))])) (.val (opN isiD [(.pk 1), (.val (cE (.ty "list")))])))) (tstE (op2 neD (.val (opN isiD [(.pk 0), (.val (cE (.ty "tuple")))])) (.val (opN isiD [(.pk 1), (.val (cE (.ty "tuple")))])))))
  (retS (cE (.bl false)))
  nilS)
def al2a2 (F : Fe) : Fs := (retS (andE (op2 eqD (.val (opN lenD [(.pk 0)])) (.val (opN lenD [(.pk 1)]))) (opN allD [(.val (lcE [2, 3] (srcC enumSD [(.pk 1)]) (tupG [2, 3]) yesT (callE F none [(.val (op2 ixD (.pk 0) (.pk 2))), (.pk 3)])))])))
def al2 (F : Fe) : Fs := (ifS (orT (tstE (opN isiD [(.pk 1), (.val (cE (.ty "list")))])) (tstE (opN isiD [(.pk 1), (.val (cE (.ty "tuple")))])))
  (seqS al2a1 (al2a2 F))
  nilS)
def al3 : Fs := (ifS (tstE (op2 isNonD (.pk 1) (.val (cE .non))))
  (retS (op2 isNonD (.pk 0) (.val (cE .non))))
  nilS)
def al4 : Fs := (ifS (orT (tstE (opN isiD [(.pk 1), (.val (cE (.ty "bool")))])) (tstE (opN isiD [(.pk 0), (.val (cE (.ty "bool")))])))
  (retS (andE (opN isiD [(.pk 1), (.val (cE (.ty "bool")))]) (andE (opN isiD [(.pk 0), (.val (cE (.ty "bool")))]) (op2 eqD (.pk 0) (.pk 1)))))
  nilS)
def al5 : Fs := (ifS (tstE (opN isiD [(.pk 1), (.val (cE (.ty "int")))]))
  (retS (andE (opN isiD [(.pk 0), (.val (cE (.ty "int")))]) (op2 eqD (.pk 0) (.pk 1))))
  nilS)
def al6 : Fs := (retS (andE (opN isiD [(.pk 0), (.val (cE (.ty "str")))]) (andE (opN isiD [(.pk 1), (.val (cE (.ty "str")))]) (op2 eqD (.pk 0) (.pk 1)))))
def alB (F : Fe) : Fs := seqS (al1 F) (seqS (al2 F) (seqS al3 (seqS al4 (seqS al5 al6))))
/-- what _law_alike does -/
def alikeF : Nat → Fe
  | 0 => fun _ => .st
  | n + 1 => bodyF [] 2 (alB (alikeF n))
theorem alikeF_S (n : Nat) : alikeF (n + 1) = bodyF [] 2 (alB (alikeF n)) := (rfl)
theorem blsOf_true (n : Nat) : blsOf (List.replicate n (D.bl true)) = some (List.replicate n true) := by
  induction n with
  | zero => rfl
  | succ n ih =>
    show (blsOf (List.replicate n (D.bl true))).map (true :: ·) = _
    rw [ih]
    rfl
theorem allD_true (n : Nat) : allD [.lst (List.replicate n (D.bl true))] = some (.d (.bl true)) := by
  show (match blsOf (List.replicate n (D.bl true)) with
    | some ns => some (O.d (D.bl (ns.all id)))
    | none => none) = _
  rw [blsOf_true]
  show some (O.d (D.bl ((List.replicate n true).all id))) = _
  congr 3
  induction n with
  | zero => rfl
  | succ n ih => simp [List.replicate_succ]
theorem fm_const {α : Type} (ds : List α) (y : D) : ds.filterMap (fun _ => some y) = List.replicate ds.length y := by
  induction ds with
  | nil => rfl
  | cons d ds ih => rw [List.filterMap_cons_some (f := fun _ => some y) (b := y) rfl, ih]; rfl
theorem al_comp {n : Nat} {w : D} {xs : List D} (hw : ∀ (k : Nat) (x : D), xs[k]? = some x → ixD w (.int (k : Nat)) = some (.d x)) (hx : ∀ x ∈ xs, alikeF n [.d x, .d x] = .ok (.d (.bl true), [.d x, .d x])) (hl : xs.length < 16777216) :
    lcL [2, 3] (tupG [2, 3]) yesT (callE (alikeF n) none [(.val (op2 ixD (.pk 0) (.pk 2))), (.pk 3)]) (enumL 0 xs) [.d w, .d w, .un, .un] [] = .ok (List.replicate xs.length (.bl true), [.d w, .d w, .un, .un]) := by
  rw [lcL_pure (fun _ => some (.bl true)) _ [] (fun d m => ?_) (by rw [enumL_length]; simpa using hl), fm_const, enumL_length]
  · rfl
  · obtain ⟨k, hk⟩ := List.getElem?_of_mem m
    obtain ⟨x, h1, h2⟩ := enumL_get _ _ _ _ hk
    rw [Nat.zero_add] at h2
    subst h2
    refine ⟨[.d w, .d w, .d (.int k), .d x], by simp, by simp, by simp, .inr ⟨.d (.bl true), by simp, ?_, rfl, rfl⟩⟩
    simp [hw k x h1, hx x (List.mem_of_getElem? h1)]
theorem alike_same : ∀ {n : Nat} {x : D}, Al n x → ∀ m, n < m → n ≤ 60 → alikeF m [.d x, .d x] = .ok (.d (.bl true), [.d x, .d x])
  | _, _, h, 0, hm, _ => absurd hm (Nat.not_lt_zero _)
  | _, _, .non, m + 1, hm, _ => by
    rw [alikeF_S]
    simp [bodyF_ap, alB, al1, al2, al3]
  | _, _, .bl b, m + 1, hm, _ => by
    rw [alikeF_S]
    simp [bodyF_ap, alB, al1, al2, al3, al4]
  | _, _, .int i, m + 1, hm, _ => by
    rw [alikeF_S]
    simp [bodyF_ap, alB, al1, al2, al3, al4, al5]
  | _, _, .str (x := x) h, m + 1, hm, _ => by
    have e : eqD (.str x) (.str x) = some (.d (.bl true)) := (Al.str (n := 0) h).eqD
    rw [alikeF_S]
    simp [bodyF_ap, alB, al1, al2, al3, al4, al5, al6, e]
  | _, _, .lst (n := n) (xs := xs) h hl, m + 1, hm, hn => by
    have z := al_comp (n := m) (w := .lst xs) (xs := xs) (fun k x hk => by
      rw [ixD_lst]
      exact ixL_nat hk) (fun x mm => alike_same (h x mm) m (by omega) (by omega)) hl
    rw [alikeF_S]
    simp [bodyF_ap, alB, al1, al2, al2a1, al2a2, z, allD_true]
  | _, _, .tup (n := n) (xs := xs) h hl, m + 1, hm, hn => by
    have z := al_comp (n := m) (w := .tup xs) (xs := xs) (fun k x hk => by
      rw [ixD_tup]
      exact ixL_nat hk) (fun x mm => alike_same (h x mm) m (by omega) (by omega)) hl
    rw [alikeF_S]
    simp [bodyF_ap, alB, al1, al2, al2a1, al2a2, z, allD_true]
def well1 : Fs := (asgS 1 (lcE [4] (srcC anyLD [(.pk 0)]) (nameG 4) (tstE (op2 (cmpI fun i j => decide (j ≤ i)) (.val (opN absD [(.val (opN intD [(.pk 4)]))])) (.val (op2 powD (.val (cE (.int 10))) (.val (cE (.int 18))))))) (op2 subD (.val (opN absD [(.val (opN intD [(.pk 4)]))])) (.val (op2 powD (.val (cE (.int 10))) (.val (cE (.int 18))))))))
def well2 : Fs := (asgZ 2 (cE (.int 11)))
def well31 : Fs := (asgZ 2 (op2 modD (.val (opN intD [(.val (op2 addD (.val (op2 addD (.val (op2 mulD (.val (op2 addD (.pk 2) (.val (opN intD [(.pk 4)])))) (.val (cE (.int 2862933555777941757))))) (.val (op2 mulD (.val (op2 addD (.pk 3) (.val (cE (.int 5))))) (.val (opN intD [(.pk 4)])))))) (.val (cE (.int 3037)))))])) (.val (op2 addD (.val (op2 powD (.val (cE (.int 10))) (.val (cE (.int 41))))) (.val (cE (.int 3)))))))
def well3 : Fs := (forS (srcC enumSD [(.pk 0)]) (tupG [3, 4])
  well31)
def well4 : Fs := (retS (lstO (.val (mvE 1) :: [(.pk 2), (.val (cE (.int 0)))])))
/-- what _law_well does -/
def wellF : Fe := bodyF [] 4 (seqS well1 (seqS well2 (seqS well3 well4)))
/-- a well that was drawn from at most c times -/
def Well (c : Nat) (o : O) : Prop := ∃ (gs : List Int) (m k : Int), o = .ls [.fl (gs.map D.int), .d (.int m), .d (.int k)] ∧ 0 ≤ m ∧ m < 10 ^ 41 + 3 ∧ 0 ≤ k ∧ k ≤ c
theorem Well.mono {c d : Nat} {o : O} (h : Well c o) (hd : c ≤ d) : Well d o := by
  obtain ⟨gs, m, k, e, h1, h2, h3, h4⟩ := h
  exact ⟨gs, m, k, e, h1, h2, h3, by omega⟩
theorem Well.un {c : Nat} {o : O} (h : Well c o) : o.isUn = false := by
  obtain ⟨gs, m, k, rfl, _⟩ := h
  rfl
theorem well_eq {ns : List Int} (hn : ns.length ≤ 63) : ∃ u, wellF [.d (.scr (ns.map D.int))] = .ok (u, [.d (.scr (ns.map D.int))]) ∧ Well 0 u := by
  have hb : pOk 10 = true := pOk_ten
  let ab : Int → Int := fun i => if i < 0 then -i else i
  obtain ⟨gs, e1⟩ : ∃ gs : List Int, lcL [4] (nameG 4) (tstE (op2 (cmpI fun i j => decide (j ≤ i)) (.val (opN absD [(.val (opN intD [(.pk 4)]))])) (.val (op2 powD (.val (cE (.int 10))) (.val (cE (.int 18))))))) (op2 subD (.val (opN absD [(.val (opN intD [(.pk 4)]))])) (.val (op2 powD (.val (cE (.int 10))) (.val (cE (.int 18))))))
      (ns.map D.int) [.d (.scr (ns.map D.int)), .un, .un, .un, .un] [] = .ok (gs.map D.int, [.d (.scr (ns.map D.int)), .un, .un, .un, .un]) := by
    refine ⟨(ns.filter fun i => decide (1000000000000000000 ≤ ab i)).map fun i => ab i - 1000000000000000000, ?_⟩
    rw [lcL_pure (fun d => match d with
      | .int i => if 1000000000000000000 ≤ ab i then some (.int (ab i - 1000000000000000000)) else none
      | _ => none) _ [] (fun d m => ?_) (by rw [List.length_map]; simp; omega)]
    · congr 2
      rw [List.nil_append]
      clear hn
      induction ns with
      | nil => rfl
      | cons i ns ih =>
        rw [List.map_cons]
        by_cases h : 1000000000000000000 ≤ ab i
        · rw [List.filterMap_cons_some (b := D.int (ab i - 1000000000000000000)) (by simp only []; rw [if_pos h]), ih, List.filter_cons_of_pos (by simpa using h)]
          rfl
        · rw [List.filterMap_cons_none (by simp only []; rw [if_neg h]), ih, List.filter_cons_of_neg (by simpa using h)]
    · obtain ⟨i, _, rfl⟩ := List.mem_map.mp m
      refine ⟨[.d (.scr (ns.map D.int)), .un, .un, .un, .d (.int i)], by simp, by simp, by simp, ?_⟩
      by_cases h : 1000000000000000000 ≤ (if i < 0 then -i else i)
      · exact .inr ⟨.d (.int (ab i - 1000000000000000000)), by simp [hb, h], by simp [hb, ab], rfl, by simp [ab, h]⟩
      · exact .inl ⟨by simp [hb, h], by simp [ab, h]⟩
  obtain ⟨e, he, s, h1, h2, o3, o4, rfl⟩ := forL_ev (tgt := tupG [3, 4]) (body := well31) (ds := enumL 0 (ns.map D.int))
    (fun _ env => ∃ s : Int, 0 ≤ s ∧ s < 10 ^ 41 + 3 ∧ ∃ o3 o4, env = [.d (.scr (ns.map D.int)), .fl (gs.map D.int), .d (.int s), o3, o4])
    (env := [.d (.scr (ns.map D.int)), .fl (gs.map D.int), .d (.int 11), .un, .un])
    (fun j d env hd ⟨s, h1, h2, o3, o4, e⟩ => by
      subst e
      obtain ⟨x, hx, rfl⟩ := enumL_get _ _ _ _ hd
      have hx2 := List.mem_of_getElem? hx
      obtain ⟨i, _, rfl⟩ := List.mem_map.mp hx2
      have hj : j < 63 := by
        have := (List.getElem?_eq_some_iff.mp hx).1
        rw [List.length_map] at this
        omega
      have hm1 : mulOk (s + i) 2862933555777941757 = true := mulOk_r (by decide)
      have hm2 : mulOk ((j : Int) + 5) i = true := mulOk_l (by omega)
      refine ⟨_, _, rfl, ?_, ((s + i) * 2862933555777941757 + ((j : Int) + 5) * i + 3037) % (10 ^ 41 + 3), Int.emod_nonneg _ (by decide), Int.emod_lt_of_pos _ (by decide), .d (.int j), .d (.int i), rfl⟩
      simp [well31, hm1, hm2, hb])
    ⟨11, by omega, by decide, .un, .un, rfl⟩
  refine ⟨.ls [.fl (gs.map D.int), .d (.int s), .d (.int 0)], ?_, _, s, 0, rfl, h1, h2, by omega, by omega⟩
  have e4 : ∀ (g : List D), lstO (.val (mvE 1) :: [(.pk 2), (.val (cE (.int 0)))]) [.d (.scr (ns.map D.int)), .fl g, .d (.int s), o3, o4] = .ok (.ls [.fl g, .d (.int s), .d (.int 0)], [.d (.scr (ns.map D.int)), .un, .d (.int s), o3, o4]) := fun g => by
    unfold lstO
    simp [mvE, Arg.kept, Arg.toO]
  simp [wellF, bodyF_ap, well1, e1, well2, well3, he, well4, e4]
theorem log_of {j : Int} {n : Nat} (h : j.natAbs < 2 ^ n) (h0 : 0 < n) : j.natAbs.log2 < n := log2_lt h h0
theorem dip_eq {c : Nat} {u : O} {m : Int} (h : Well c u) (hc : c ≤ 2 ^ 40) (hm : 0 < m) (hm2 : m < 2 ^ 256) : ∃ r u', dipF [u, .d (.int m)] = .ok (.d (.int r), [u', .d (.int m)]) ∧ 0 ≤ r ∧ r < m ∧ Well (c + 1) u' := by
  obtain ⟨gs, mx, k, rfl, h1, h2, h3, h4⟩ := h
  have hl : fOk m = true := fOk_of (n := 256) (by omega) (by decide) (by decide)
  show ∃ r u', (if 0 < m then dipG mx k m (gs.map D.int) else .st) = _ ∧ _
  rw [if_pos hm]
  cases gs with
  | nil =>
    have k1 : mulOk (mx + 32452867 * (k + 1)) (mx % 1000003 + 7 * (k + 1)) = true := mulOk_r (by omega)
    have b1 : (0 : Int) ≤ dipOne mx (k + 1) ∧ dipOne mx (k + 1) < 2 ^ 124 := by
      unfold dipOne
      exact ⟨Int.emod_nonneg _ (by decide), Int.lt_of_lt_of_le (Int.emod_lt_of_pos _ (by decide)) (by decide)⟩
    have k2 : mulOk (dipOne mx (k + 1)) (dipOne mx (k + 1)) = true := by
      have := log_of (j := dipOne mx (k + 1)) (n := 124) (by omega) (by decide)
      unfold mulOk
      rw [decide_eq_true (show (dipOne mx (k + 1)).natAbs.log2 + (dipOne mx (k + 1)).natAbs.log2 < 1000000 by omega), Bool.or_true]
    refine ⟨dipTwo mx (k + 1) / 100003 % m, .ls [.fl [], .d (.int mx), .d (.int (k + 1))], ?_, Int.emod_nonneg _ (by omega), Int.emod_lt_of_pos _ hm, [], mx, k + 1, rfl, h1, h2, by omega, by omega⟩
    show dipE mx (k + 1) m = _
    unfold dipE
    rw [k1, k2]
    rfl
  | cons g gs =>
    refine ⟨g % m, .ls [.fl ((if g / m < 2 then gs else (g / m) :: gs).map D.int), .d (.int mx), .d (.int k)], ?_, Int.emod_nonneg _ (by omega), Int.emod_lt_of_pos _ hm, _, mx, k, rfl, h1, h2, h3, by omega⟩
    show (if fOk m && (intsOf (gs.map D.int)).isSome then _ else _) = _
    rw [hl, intsOf_map]
    by_cases hg : g / m < 2
    · simp [hg]
    · simp [hg]
/-- what _law_one does -/
def oneF : Fe := bodyF [0] 0 (retS (op2 ixD (.pk 1) (.val (callE dipF (some 0) [(.pk 0), (.val (opN lenD [(.pk 1)]))]))))
theorem wone_eq {c : Nat} {u : O} {ds : List D} (h : Well c u) (hc : c ≤ 2 ^ 40) (hd : ds ≠ []) (hd2 : ds.length < 2 ^ 64) : ∃ z u', oneF [u, .d (.lst ds)] = .ok (.d z, [u', .d (.lst ds)]) ∧ z ∈ ds ∧ Well (c + 1) u' := by
  have hp : 0 < ds.length := List.length_pos_iff.mpr hd
  obtain ⟨r, u', e, h1, h2, h3⟩ := dip_eq (m := (ds.length : Int)) h hc (by omega) (by omega)
  obtain ⟨k, rfl⟩ : ∃ k : Nat, r = k := ⟨r.toNat, by omega⟩
  have hk : k < ds.length := by omega
  refine ⟨ds[k], u', ?_, List.getElem_mem hk, h3⟩
  have hx : ixL ds (k : Int) = some (.d ds[k]) := ixL_nat (List.getElem?_eq_getElem hk)
  simp [oneF, bodyF_ap, h.un, e, hx]
end VL

set_option Elab.async false
set_option linter.all false
set_option maxRecDepth 100000

namespace VL
open PySem PySem.Spec PyProof.Rows L2
theorem ints_ok (rs : List Int) : D.Ok 1 (.lst (rs.map D.int)) := ok_lst (n := 0) fun x m => by
  obtain ⟨i, _, rfl⟩ := List.mem_map.mp m
  exact ok_int i
/-- one more at the end -/
def sn (xs : List D) (x : D) : List D := xs ++ [x]
theorem sn_eq (xs : List D) (x : D) : sn xs x = xs ++ [x] := rfl
theorem app_sn (xs : List D) (x : D) : xs ++ [x] = sn xs x := rfl
@[simp] theorem sn_length (xs : List D) (x : D) : (sn xs x).length = xs.length + 1 := by
  unfold sn
  rw [List.length_append]
  rfl
/-- an own list of numbers, told with the last one first -/
def fr (r : List Int) : List D := r.reverse.map D.int
theorem fr_eq (r : List Int) : fr r = r.reverse.map D.int := rfl
@[simp] theorem fr_nil : fr [] = [] := (rfl)
@[simp] theorem fr_cons (f : Int) (r : List Int) : fr (f :: r) = sn (fr r) (.int f) := by
  unfold fr sn
  rw [List.reverse_cons, List.map_append]
  rfl
@[simp] theorem fr_length (r : List Int) : (fr r).length = r.length := by
  unfold fr
  rw [List.length_map, List.length_reverse]
@[simp] theorem neD_sn (r : List Int) (f : Int) : neD (.lst (sn (fr r) (.int f))) (.lst []) = some (.d (.bl true)) := by
  rw [← fr_cons, fr_eq, neD_ints0]
  simp
@[simp] theorem neD_sn0 (f : Int) : neD (.lst (sn [] (.int f))) (.lst []) = some (.d (.bl true)) := neD_sn [] f
@[simp] theorem neD_sn2 (r : List Int) (g f : Int) : neD (.lst (sn (sn (fr r) (.int g)) (.int f))) (.lst []) = some (.d (.bl true)) := by
  have := neD_sn (g :: r) f
  rw [fr_cons] at this
  exact this
theorem fr_frz (r : List Int) : D.lst (fr r) = .lst (r.reverse.map D.int) := rfl
@[simp] theorem ixL_sn (xs : List D) (x : D) : ixL (sn xs x) (-1) = some (.d x) := ixL_last xs x
@[simp] theorem popD_sn (xs : List D) (x : D) : popD (sn xs x) [] = some (x, xs) := by
  unfold popD sn
  simp
theorem ixN_sn (xs : List D) (x : D) : ixN (sn xs x).length (-1) = some xs.length := by
  rw [sn_length, ixN_last]
theorem set_sn (xs : List D) (x y : D) : (sn xs x).set xs.length y = sn xs y := by
  unfold sn
  induction xs with
  | nil => rfl
  | cons a xs ih =>
    show a :: (xs ++ [x]).set xs.length y = _
    rw [ih]
    rfl
theorem set_fr (r : List Int) (x y : D) : (sn (fr r) x).set r.length y = sn (fr r) y := by
  have := set_sn (fr r) x y
  rw [fr_length] at this
  exact this
theorem setR_sn (xs : List D) (x d : D) (i : Nat) (env : Ev) : setI.setR (some (sn xs x)) (.d (.int (-1))) d i env = .nx (env.set i (.fl (sn xs d))) := by
  rw [setR_ap, ixN_sn]
  show SRes.nx (env.set i (.fl ((sn xs x).set xs.length d))) = _
  rw [set_sn]
@[simp high] theorem appD_sn (ds : List D) (d : D) : appD ds [d] = if ds.length < 16777216 then some (.non, sn ds d) else none := (rfl)
@[simp] theorem revD_lst (xs : List D) : revD [.lst xs] = some (.fl xs.reverse) := (rfl)
theorem while_go {t : Ft} {b : Fs} {n : Nat} {env e1 e2 : Ev} (h1 : t env = .ok (true, e1)) (h2 : b e1 = .nx e2) : whileF t b (n + 1) env = whileF t b n e2 := by
  show (t env).then (fun p => if p.1 then forNext (b p.2) (whileF t b n) else .nx p.2) = _
  rw [h1]
  show forNext (b e1) (whileF t b n) = _
  rw [h2]
  rfl
theorem while_stop {t : Ft} {b : Fs} {n : Nat} {env e1 : Ev} (h1 : t env = .ok (false, e1)) : whileF t b (n + 1) env = .nx e1 := by
  show (t env).then (fun p => if p.1 then forNext (b p.2) (whileF t b n) else .nx p.2) = _
  rw [h1]
  rfl
theorem for_go {tgt : Fg} {body : Fs} {d : D} {ds : List D} {env e1 e2 : Ev} (h1 : tgt d env = some e1) (h2 : body e1 = .nx e2) : forL tgt body (d :: ds) env = forL tgt body ds e2 := by
  rw [forL_cons, h1, lcF_some, h2]
  rfl
theorem fm_ints (f : Int → Int) : ∀ ts : List Int, (ts.map D.int).filterMap (fun d => match d with
      | .int i => some (.int (f i))
      | _ => none) = (ts.map f).map D.int
  | [] => rfl
  | t :: ts => by
    rw [List.map_cons, List.map_cons, List.map_cons, List.filterMap_cons]
    simp only []
    rw [fm_ints f ts]
/-- a comprehension that makes a number of each number -/
theorem lc_ints {vs : List Nat} {tgt : Fg} {elt : Fe} {env : Ev} (f : Int → Int) (ts : List Int) (h : ∀ t ∈ ts, ∃ e, tgt (.int t) env = some e ∧ frees vs e = true ∧ wipeE e vs = env ∧ elt e = .ok (.d (.int (f t)), e)) (hl : ts.length < 16777216) :
    lcL vs tgt yesT elt (ts.map D.int) env [] = .ok ((ts.map f).map D.int, env) := by
  rw [lcL_pure (fun d => match d with
      | .int i => some (.int (f i))
      | _ => none) _ [] (fun d m => ?_) (by rw [List.length_map]; simpa using hl), fm_ints]
  · rfl
  · obtain ⟨t, ht, rfl⟩ := List.mem_map.mp m
    obtain ⟨e, h1, h2, h3, h4⟩ := h t ht
    exact ⟨e, h1, h2, h3, .inr ⟨_, rfl, h4, rfl, rfl⟩⟩
/-- data of one kind is told by the numbers -/
theorem ints_of_all {R : Int → Prop} : ∀ {zs : List D}, (∀ z ∈ zs, ∃ i, z = D.int i ∧ R i) → ∃ ts : List Int, zs = ts.map D.int ∧ ∀ t ∈ ts, R t
  | [], _ => ⟨[], rfl, fun _ m => nomatch m⟩
  | z :: zs, h => by
    obtain ⟨i, rfl, hi⟩ := h z List.mem_cons_self
    obtain ⟨ts, rfl, ht⟩ := ints_of_all (zs := zs) fun y m => h y (List.mem_cons_of_mem _ m)
    exact ⟨i :: ts, rfl, fun t m => by
      rcases List.mem_cons.mp m with rfl | m
      · exact hi
      · exact ht t m⟩
end VL

set_option Elab.async false
set_option linter.all false
set_option maxRecDepth 100000
namespace VL
open PySem PySem.Spec PyProof.Rows L2
def mulSD : D → D → Option O
  | .lst xs, .int k => if -(2 ^ 63) ≤ k ∧ k < 2 ^ 63 ∧ xs.length * k.toNat ≤ 16777216 then some (.fl (List.replicate k.toNat xs).flatten) else none
  | .int i, .int j => mulD (.int i) (.int j)
  | _, _ => none
@[simp] theorem mulSD_int (i j : Int) : mulSD (.int i) (.int j) = if mulOk i j then some (.d (.int (i * j))) else none := (rfl)
@[simp] theorem mulSD_lst (xs : List D) (k : Int) : mulSD (.lst xs) (.int k) = if -(2 ^ 63) ≤ k ∧ k < 2 ^ 63 ∧ xs.length * k.toNat ≤ 16777216 then some (.fl (List.replicate k.toNat xs).flatten) else none := (rfl)
theorem RDs.times {K : PySem.W.Frag} {av : Addr → Prop} {H : Hp} {vs : List V} {ds : List D} (h : RDs K av H vs ds) : ∀ n : Nat, RDs K av H (List.replicate n vs).flatten (List.replicate n ds).flatten
  | 0 => .nil
  | n + 1 => by
    rw [List.replicate_succ, List.replicate_succ, List.flatten_cons, List.flatten_cons]
    exact h.append (RDs.times h n)
section
variable {X : Cx}
theorem op_mulSD : OpR X (binaryOp .Mult) (RB X.K mulSD) := by
  refine opR_sane (OpR.or op_mulD op_rep) fun x y H Q sn h => ?_
  obtain ⟨av, dx, dy, dm, hx, hy, f⟩ := h
  unfold mulSD at f
  split at f
  · split at f
    · rename_i xs k hz
      obtain ⟨a, vs, rfl, e1, r1⟩ := hx.lst
      rw [hy.int]
      refine .inr ⟨a, k, vs, rfl, rfl, e1, hz.1, hz.2.1, ?_, f.list (r1.times _)⟩
      rw [r1.length, line_eq]
      exact hz.2.2
    · exact f.elim
  · exact .inl ⟨av, _, _, dm, hx, hy, f⟩
  · exact f.elim
end
end VL

set_option Elab.async false
set_option linter.all false
set_option maxRecDepth 100000
namespace VL
open PySem PySem.Spec PyProof.Rows L2
inductive LOpd where
  | op (o : Opd) | disp (os : List Opd)
inductive LArg where
  | arg (a : Arg) | dl (as : List Arg)
def evL : List LOpd → Ev → ER (List LArg × Ev)
  | [], env => .ok ([], env)
  | .op (.val f) :: as, env => (f env).bind fun p => (evL as p.2).bind fun q => .ok (.arg (.tmp p.1) :: q.1, q.2)
  | .op (.pk i) :: as, env => if (env.getD i .un).isUn then .st else (evL as env).bind fun q => .ok (.arg (.sl i) :: q.1, q.2)
  | .disp os :: as, env => (evA os env).bind fun p => if p.1.length ≤ 1000 then (evL as p.2).bind fun q => .ok (.dl p.1 :: q.1, q.2) else .st
def LArg.look (env : Ev) : LArg → D
  | .arg a => a.look env
  | .dl as => .lst (as.map (Arg.look env))
def LArg.whole (env : Ev) : LArg → Bool
  | .arg a => a.whole env
  | .dl as => as.all (Arg.whole env)
section
variable (K : PySem.W.Frag) (mg : Str → Option Value) (W : WX)
def tLA : List LOpd → TA
  | [] => tNil
  | .op o :: as => tCons (tOpd K mg W o) (tLA as)
  | .disp os :: as => tCons (fun σ H Q => tArg K mg W os σ H fun xs H1 => xs.length ≤ sizeLine ∧ ∀ p, H1 p = none → Q (.ref p) (upd H1 p (.lst xs))) (tLA as)
end
section
variable {K : PySem.W.Frag} {mg : Str → Option Value} {W : WX} {av av1 av' : Addr → Prop} {H H1 H' : Hp} {own own1 own' t : List Addr} {σ : L2.St}
theorem ARep.over (w : OkW av H (t ++ own)) (A : Adv av H own av' H' own') : ∀ {vs : List V} {l : List Arg} {s : List Addr}, ARep K av H σ vs l s → (∀ a, a ∈ s → a ∈ t) → ARep K av' H' σ vs l s
  | _, _, _, .nil, _ => .nil
  | _, _, _, .tmp h r, f => .tmp (h.keep (A.keep w.tail) fun a u m e => A.ext a u e (w.apart a (f a (List.mem_append_left _ m)))) (ARep.over w A r fun a m => f a (List.mem_append_right _ m))
  | _, _, _, .sl h r, f => .sl h (ARep.over w A r f)
inductive LRep (K : PySem.W.Frag) (av : Addr → Prop) (H : Hp) (σ : L2.St) : List V → List LArg → List Addr → Prop
  | nil : LRep K av H σ [] [] []
  | tmp {v : V} {o : O} {fp t : List Addr} {vs : List V} {as : List LArg} : SR K av H (some v) o fp → LRep K av H σ vs as t → LRep K av H σ (v :: vs) (.arg (.tmp o) :: as) (fp ++ t)
  | sl {v : V} {i : Nat} {t : List Addr} {vs : List V} {as : List LArg} : σ[i]? = some (some v) → LRep K av H σ vs as t → LRep K av H σ (v :: vs) (.arg (.sl i) :: as) t
  | dl {p : Addr} {ws : List V} {ls : List Arg} {s t : List Addr} {vs : List V} {as : List LArg} : H p = some (.lst ws) → ARep K av H σ ws ls s → LRep K av H σ vs as t → LRep K av H σ (.ref p :: vs) (.dl ls :: as) ((p :: s) ++ t)
theorem LRep.len : ∀ {vs : List V} {l : List LArg} {t : List Addr}, LRep K av H σ vs l t → vs.length = l.length
  | _, _, _, .nil => rfl
  | _, _, _, .tmp _ r => by rw [List.length_cons, List.length_cons, LRep.len r]
  | _, _, _, .sl _ r => by rw [List.length_cons, List.length_cons, LRep.len r]
  | _, _, _, .dl _ _ r => by rw [List.length_cons, List.length_cons, LRep.len r]
def LPost (K : PySem.W.Frag) (mg : Str → Option Value) (W : WX) (av : Addr → Prop) (H : Hp) (own : List Addr) (σ : L2.St) (Q : List V → Hp → Prop) : ER (List LArg × Ev) → Prop
  | .ok (l, env') => ∀ (vs : List V) (H' : Hp) (av' : Addr → Prop) (t own' : List Addr), Adv av H own av' H' (t ++ own') → OkW av' H' (t ++ own') → LRep K av' H' σ vs l t → Slots K av' H' σ env' own' → Q vs H'
  | .ex c x env' => XPost K mg W av H own σ c x env'
  | .st => False
theorem largs_ok : ∀ (as : List LOpd) {H : Hp} {av : Addr → Prop} {own : List Addr} {env : Ev} {Q : List V → Hp → Prop}, Slots K av H σ env own → OkW av H own → LPost K mg W av H own σ Q (evL as env) → tLA K mg W as σ H Q
  | [], H, av, own, env, Q, hs, w, h => h [] H av [] own (Adv.refl w) w .nil hs
  | .op (.pk i) :: as, H, av, own, env, Q, hs, w, h => by
    unfold evL at h
    cases hu : (env.getD i .un).isUn with
    | true =>
      rw [hu, if_pos rfl] at h
      exact h.elim
    | false =>
      rw [hu, if_neg Bool.false_ne_true] at h
      obtain ⟨v, fp, e1, _⟩ := slot_some hs hu
      show ∃ v, σ[i]? = some (some v) ∧ tLA K mg W as σ H fun xs H2 => Q (v :: xs) H2
      refine ⟨v, e1, largs_ok as hs w ?_⟩
      cases q : evL as env with
      | st => rw [q] at h; exact h
      | ex c x e => rw [q] at h; exact h
      | ok p =>
        obtain ⟨l, env'⟩ := p
        rw [q] at h
        intro vs H' av' t own' A w' hr hs'
        exact h (v :: vs) H' av' t own' A w' (.sl e1 hr) hs'
  | .op (.val f) :: as, H, av, own, env, Q, hs, w, h => by
    unfold evL at h
    show tOf K mg W f σ H fun x H1 => tLA K mg W as σ H1 fun xs H2 => Q (x :: xs) H2
    refine ⟨env, av, own, hs, w, ?_⟩
    cases q : f env with
    | st => rw [q] at h; exact h
    | ex c x e => rw [q] at h; exact h
    | ok p =>
      obtain ⟨o, env1⟩ := p
      rw [q] at h
      intro v H1 av1 fp own1 A w1 hr hs1
      refine largs_ok as hs1 w1.tail ?_
      have h' : LPost K mg W av H own σ Q ((evL as env1).bind fun q => .ok (.arg (.tmp o) :: q.1, q.2)) := h
      cases q2 : evL as env1 with
      | st => rw [q2] at h'; exact h'
      | ex c x e =>
        rw [q2] at h'
        exact XPost.step w w1 A h'
      | ok p2 =>
        obtain ⟨l, env2⟩ := p2
        rw [q2] at h'
        intro vs H2 av2 t own2 B w2 ha hs2
        exact h' (v :: vs) H2 av2 (fp ++ t) own2 (Adv.trans w w1 A B) (OkW.trans w1 B w2) (.tmp (hr.over w1 B) ha) hs2
  | .disp os :: as, H, av, own, env, Q, hs, w, h => by
    unfold evL at h
    show tArg K mg W os σ H fun xs H1 => xs.length ≤ sizeLine ∧ ∀ p, H1 p = none → tLA K mg W as σ (upd H1 p (.lst xs)) fun ys H2 => Q (.ref p :: ys) H2
    refine args_ok os hs w ?_
    cases q : evA os env with
    | st => rw [q] at h; exact h
    | ex c x e => rw [q] at h; exact h
    | ok p =>
      obtain ⟨ls, env1⟩ := p
      rw [q, ER.bind_ok] at h
      intro ws H1 av1 s own1 A w1 ha hs1
      by_cases hz : ls.length ≤ 1000
      · rw [if_pos hz] at h
        refine ⟨by rw [ha.len]; exact small_line hz, fun p hp => ?_⟩
        have gr : Grow H1 (upd H1 p (.lst ws)) := Grow.new hp
        have A3 : Adv av H own _ _ ((p :: s) ++ own1) := A.new (o := .lst ws) hp
        have w3 : OkW _ _ ((p :: s) ++ own1) := w1.new (o := .lst ws) A hp
        have kn := keep_new (o := .lst ws) A hp
        have hs3 := Slots.keep (σ := σ) (env := env1) kn hs1 fun a u _ e => gr a u e
        have ha3 : ARep K (drp av own (p :: (s ++ own1))) (upd H1 p (.lst ws)) σ ws ls s := by
          have go : ∀ {vs : List V} {l : List Arg} {t : List Addr}, ARep K av1 H1 σ vs l t → ARep K (drp av own (p :: (s ++ own1))) (upd H1 p (.lst ws)) σ vs l t := by
            intro vs l t r
            induction r with
            | nil => exact .nil
            | tmp h _ ih => exact .tmp (h.keep kn fun a u _ e => gr a u e) ih
            | sl h _ ih => exact .sl h ih
          exact go ha
        refine largs_ok as hs3 w3.tail ?_
        have h' : LPost K mg W av H own σ Q ((evL as env1).bind fun q => .ok (.dl ls :: q.1, q.2)) := h
        cases q2 : evL as env1 with
        | st => rw [q2] at h'; exact h'
        | ex c x e =>
          rw [q2] at h'
          exact XPost.step w w3 A3 h'
        | ok p2 =>
          obtain ⟨l, env2⟩ := p2
          rw [q2] at h'
          intro vs H2 av2 t own2 B w2 ha2 hs2
          refine h' (.ref p :: vs) H2 av2 ((p :: s) ++ t) own2 (Adv.trans w w3 A3 B) (OkW.trans w3 B w2) (.dl ?_ (ARep.over w3 B ha3 fun a m => List.mem_cons_of_mem _ m) ha2) hs2
          exact B.ext p _ upd_same (w3.apart p List.mem_cons_self)
      · rw [if_neg hz] at h
        exact h.elim
theorem LRep.frozenAll {env : Ev} (hs : Slots K av H σ env own) (s : ∀ a, av' a → av a) (no : ∀ a, a ∈ own → ¬ av' a) : ∀ {vs : List V} {l : List LArg} {t : List Addr}, LRep K av H σ vs l t → (∀ a, a ∈ t → ¬ av' a) → l.all (LArg.whole env) = true → Slots K av' H (vs.map some) (l.map fun a => .d (a.look env)) []
  | _, _, _, .nil, _, _ => .nil
  | _, _, _, .tmp (o := o) h r, n, g => by
    rw [List.all_cons, Bool.and_eq_true] at g
    have g1 : (!o.isUn) = true := g.1
    exact Slots.cons (fp := []) (.d (h.frozen (by simpa using g1) s fun a m => n a (List.mem_append_left _ m))) (LRep.frozenAll hs s no r (fun a m => n a (List.mem_append_right _ m)) g.2)
  | _, _, _, .sl (i := i) h r, n, g => by
    rw [List.all_cons, Bool.and_eq_true] at g
    have g1 : (!(env.getD i .un).isUn) = true := g.1
    have g2 : (env.getD i .un).isUn = false := by simpa using g1
    obtain ⟨v, fp, e1, e2, m⟩ := slot_some hs g2
    rw [h] at e1
    cases e1
    exact Slots.cons (fp := []) (.d (e2.frozen g2 s fun a z => no a (m a z))) (LRep.frozenAll hs s no r n g.2)
  | _, _, _, .dl (p := p) (ls := ls) (s := s0) e h r, n, g => by
    rw [List.all_cons, Bool.and_eq_true] at g
    have g1 : ls.all (Arg.whole env) = true := g.1
    have np : ¬ av' p := n p (by simp)
    have rds : ∀ {ws : List V} {ls : List Arg} {s0 : List Addr}, ARep K av H σ ws ls s0 → (∀ a, a ∈ s0 → ¬ av' a) → ls.all (Arg.whole env) = true → RDs K av' H ws (ls.map (Arg.look env)) := by
      intro ws ls s0 r
      induction r with
      | nil => exact fun _ _ => .nil
      | tmp h _ ih =>
        intro n g
        rw [List.all_cons, Bool.and_eq_true] at g
        exact .cons (h.frozen (by simpa [Arg.whole] using g.1) s fun a m => n a (List.mem_append_left _ m)) (ih (fun a m => n a (List.mem_append_right _ m)) g.2)
      | @sl v i t0 vs0 as0 h _ ih =>
        intro n g
        rw [List.all_cons, Bool.and_eq_true] at g
        have g2 : (env.getD i .un).isUn = false := by simpa [Arg.whole] using g.1
        obtain ⟨v, fp, e1, e2, m⟩ := slot_some hs g2
        rw [h] at e1
        cases e1
        exact .cons (e2.frozen g2 s fun a z => no a (m a z)) (ih n g.2)
    exact Slots.cons (fp := []) (.d (.lst np e (rds h (fun a m => n a (by simp [m])) g1))) (LRep.frozenAll hs s no r (fun a m => n a (List.mem_append_right _ m)) g.2)
def callLL (F : Fe) (as : List LOpd) : Fe := fun env => (evL as env).bind fun p => if p.1.all (LArg.whole p.2) then lendR p.2 (F (p.1.map fun a => .d (a.look p.2))) else .st
theorem evL_length : ∀ {as : List LOpd} {env env' : Ev} {l : List LArg}, evL as env = .ok (l, env') → l.length = as.length
  | [], env, env', l, h => by
    cases h
    rfl
  | .op (.val f) :: as, env, env', l, h => by
    unfold evL at h
    cases q : f env with
    | st => rw [q] at h; cases h
    | ex c x e => rw [q] at h; cases h
    | ok p =>
      rw [q, ER.bind_ok] at h
      cases q2 : evL as p.2 with
      | st => rw [q2] at h; cases h
      | ex c x e => rw [q2] at h; cases h
      | ok p2 =>
        rw [q2, ER.bind_ok] at h
        cases h
        rw [List.length_cons, List.length_cons, evL_length q2]
  | .op (.pk i) :: as, env, env', l, h => by
    unfold evL at h
    split at h
    · cases h
    · cases q2 : evL as env with
      | st => rw [q2] at h; cases h
      | ex c x e => rw [q2] at h; cases h
      | ok p2 =>
        rw [q2, ER.bind_ok] at h
        cases h
        rw [List.length_cons, List.length_cons, evL_length q2]
  | .disp os :: as, env, env', l, h => by
    unfold evL at h
    cases q : evA os env with
    | st => rw [q] at h; cases h
    | ex c x e => rw [q] at h; cases h
    | ok p =>
      rw [q, ER.bind_ok] at h
      split at h
      · cases q2 : evL as p.2 with
        | st => rw [q2] at h; cases h
        | ex c x e => rw [q2] at h; cases h
        | ok p2 =>
          rw [q2, ER.bind_ok] at h
          cases h
          rw [List.length_cons, List.length_cons, evL_length q2]
      · cases h
theorem callLL_ok {n : Nat} {F : Fe} {as : List LOpd} {Q : VK} (hn : as.length = n) (h : tOf K mg W (callLL F as) σ H Q) : tLA K mg W as σ H fun vs H1 => spF K mg n F vs H1 Q fun cls d H' => W cls d σ H' := by
  obtain ⟨env, av, own, hs, w, h⟩ := h
  refine largs_ok as hs w ?_
  unfold callLL at h
  cases q : evL as env with
  | st => rw [q] at h; exact h
  | ex c x e => rw [q] at h; exact h
  | ok p =>
    obtain ⟨l, env'⟩ := p
    have hl := evL_length q
    rw [q, ER.bind_ok] at h
    intro vs H1 av1 t own1 A w1 ha hs1
    have hvn : vs.length = n := by rw [ha.len, hl, hn]
    cases hg : l.all (LArg.whole env') with
    | false => rw [hg, if_neg Bool.false_ne_true] at h; exact h.elim
    | true =>
      rw [hg, if_pos rfl] at h
      have sb : ∀ a, drp av own [] a → av1 a := fun a z => (A.av_ a).mpr (z.elim .inl fun z => nomatch z)
      have out : ∀ a, a ∈ t ++ own1 → ¬ drp av own [] a := fun a m z => by
        rcases z with z | z
        · rcases A.fresh a m with q | q
          · exact z.2 q
          · have := w.dom a z.1
            rw [q] at this; cases this
        · cases z
      have sl := LRep.frozenAll hs1 sb (fun a m => out a (List.mem_append_right _ m)) ha (fun a m => out a (List.mem_append_left _ m)) hg
      refine spF_of hvn sl ⟨List.nodup_nil, fun _ m => (nomatch m), fun a z => w1.dom a (sb a z)⟩ ?_
      have A2 := Adv.drop A
      have w2 := OkW.drop A w1
      have s2 := drp_sub A
      cases qf : F (l.map fun a => .d (a.look env')) with
      | st => rw [qf] at h; exact h
      | ok p =>
        rw [qf] at h
        have h : EPost K mg W av H own σ Q (if p.1.flatO then .ok (p.1, env') else .st) := h
        cases hf : p.1.flatO with
        | false => rw [hf, if_neg Bool.false_ne_true] at h; exact h.elim
        | true =>
          rw [hf, if_pos rfl] at h
          intro v H3 av3 fp c' B w3 r s3
          have gr : Grow H1 H3 := fun a o e => B.ext a o e (fun m => nomatch m)
          have r' : SR K (drp av own own1) H3 (some v) p.1 [] := by
            cases qo : p.1 with
            | d x =>
              rw [qo] at r hf
              cases r with | d r => exact .d (r.flat_any hf)
            | un => rw [qo] at hf; cases hf
            | fl _ => rw [qo] at hf; cases hf
            | ob _ _ => rw [qo] at hf; cases hf
            | ls _ => rw [qo] at hf; cases hf
            | tp _ => rw [qo] at hf; cases hf
          exact h v H3 _ [] own1 (A2.grow gr) (w2.grow gr) r' (hs1.grow (σ := σ) (env := env') gr s2)
      | ex c x outs =>
        rw [qf] at h
        have h : EPost K mg W av H own σ Q (if x.flat then .ex c x env' else .st) := h
        cases hf : x.flat with
        | false => rw [hf, if_neg Bool.false_ne_true] at h; exact h.elim
        | true =>
          rw [hf, if_pos rfl] at h
          intro cls dd v H3 av3 c' hcl B w3 hd r s3
          have gr : Grow H1 H3 := fun a o e => B.ext a o e (fun m => nomatch m)
          exact h cls dd v H3 _ own1 hcl (A2.grow gr) (w2.grow gr) hd (r.flat_any hf) (hs1.grow (σ := σ) (env := env') gr s2)
end
abbrev VLA (X : Cx) (W : WX) (es : List Expr) (as : List LOpd) : Prop := PA X es (tLA X.K X.mg W as)
section
variable {X : Cx} {W : WX} {pos p p1 : Pos} {e : Expr} {es es' : List Expr} {o : Opd} {os : List Opd} {los : List LOpd} {x : Str}
theorem la_nil : VLA X W [] [] := pa_nil
theorem la_op (h : VO X W e o) (r : VLA X W es los) (he : starEach (e :: es) X.env = (false, eval e X.env) :: starEach es X.env := by rfl) : VLA X W (e :: es) (.op o :: los) := pa_cons h r he
theorem la_disp (h : VA X W es' os) (r : VLA X W es los) (he : starEach (.List es' p1 :: es) X.env = (false, eval (.List es' p1) X.env) :: starEach es X.env := by rfl) : VLA X W (.List es' p1 :: es) (.disp os :: los) := pa_cons (pe_lst h) r he
theorem v_callLL {k : Nat} {f : Addr} {fd : FuncData} {ps : List Str} {F : Fe} (hF : FnV X.prog X.w X.K X.mg X.base k f fd ps F) (hr : Room k X.A) (hg : Gl X x) (hm : X.mg x = some (.ref f)) (hk : PySem.W.keepIn X.K (.ref f) = true) (hb : Binds X.K fd ps []) (tk : Takes X W)
    (ha : VLA X W (e :: es) los) (hn : los.length = ps.length := by rfl) (hdb : (x == ("__debug__" : Str)) = false := by decide)
    (he : starEach (e :: es) X.env = (false, eval e X.env) :: starEach es X.env := by rfl) (hpl : (backTo pos (starEach es X.env)).any (·.1) = false := by rfl) : VE X W (.Call (.Name x p) (e :: es) [] pos) (callLL F los) := by
  refine pe_imp (pe_callSD (E := fun σ cls d H' => W cls d σ H') hF hr hg hm hk hb .nil (fun σ => passAt tk σ) ha hdb he hpl) fun σ H Q h => ?_
  have z := callLL_ok hn h
  have e1 : (fun (vs : List V) (H1 : Hp) => spF X.K X.mg ps.length F vs H1 Q fun cls d H' => W cls d σ H') = fun vs H1 => spF X.K X.mg ps.length F (vs ++ []) H1 Q fun cls d H' => W cls d σ H' := by
    funext vs H1
    rw [List.append_nil]
  rw [e1] at z
  exact z
end
def lpush (a : LArg) (q : List LArg × Ev) : ER (List LArg × Ev) := .ok (a :: q.1, q.2)
@[simp] theorem lpush_ap (a : LArg) (l : List LArg) (env : Ev) : lpush a (l, env) = .ok (a :: l, env) := (rfl)
@[simp] theorem evL_nil (env : Ev) : evL [] env = .ok ([], env) := (rfl)
@[simp] theorem evL_val (f : Fe) (as : List LOpd) (env : Ev) : evL (.op (.val f) :: as) env = (f env).bind fun p => (evL as p.2).bind (lpush (.arg (.tmp p.1))) := (rfl)
@[simp] theorem evL_pk (i : Nat) (as : List LOpd) (env : Ev) : evL (.op (.pk i) :: as) env = if (env.getD i .un).isUn then .st else (evL as env).bind (lpush (.arg (.sl i))) := (rfl)
@[simp] theorem evL_disp (os : List Opd) (as : List LOpd) (env : Ev) : evL (.disp os :: as) env = (evA os env).bind fun p => if p.1.length ≤ 1000 then (evL as p.2).bind (lpush (.dl p.1)) else .st := (rfl)
def llR (F : Fe) (p : List LArg × Ev) : ER (O × Ev) := if p.1.all (LArg.whole p.2) then lendR p.2 (F (p.1.map fun a => .d (a.look p.2))) else .st
@[simp] theorem callLL_ap (F : Fe) (as : List LOpd) (env : Ev) : callLL F as env = (evL as env).bind (llR F) := (rfl)
@[simp] theorem llR_ap (F : Fe) (l : List LArg) (env : Ev) : llR F (l, env) = if l.all (LArg.whole env) then lendR env (F (l.map fun a => .d (a.look env))) else .st := (rfl)
@[simp] theorem llook_arg (a : Arg) (env : Ev) : LArg.look env (.arg a) = a.look env := (rfl)
@[simp] theorem llook_dl (as : List Arg) (env : Ev) : LArg.look env (.dl as) = .lst (as.map (Arg.look env)) := (rfl)
@[simp] theorem lwhole_arg (a : Arg) (env : Ev) : LArg.whole env (.arg a) = a.whole env := (rfl)
@[simp] theorem lwhole_dl (as : List Arg) (env : Ev) : LArg.whole env (.dl as) = as.all (Arg.whole env) := (rfl)
@[simp] theorem whole_tmp (o : O) (env : Ev) : Arg.whole env (.tmp o) = !o.isUn := (rfl)
@[simp] theorem whole_sl (i : Nat) (env : Ev) : Arg.whole env (.sl i) = !(env.getD i .un).isUn := (rfl)
@[simp] theorem lendR_bl (env e : Ev) (b : Bool) : lendR env (.ok (.d (.bl b), e)) = .ok (.d (.bl b), env) := (rfl)
end VL

set_option linter.all false
set_option maxRecDepth 100000
namespace Q
/-- a number put into 0 .. s -/
def cl (s x : Int) : Int := if (if x < s then x else s) > 0 then (if x < s then x else s) else 0
def led (s : Int) : List Int → Int → Int
  | [], x => x
  | t :: ts, x => led s ts (cl s (x + t))
theorem cl_in {s x : Int} (hs : 0 ≤ s) : 0 ≤ cl s x ∧ cl s x ≤ s := by
  unfold cl
  omega
theorem led_in {s : Int} (hs : 0 ≤ s) : ∀ (ts : List Int) {x : Int}, 0 ≤ x → x ≤ s → 0 ≤ led s ts x ∧ led s ts x ≤ s
  | [], x, h1, h2 => ⟨h1, h2⟩
  | t :: ts, x, h1, h2 => led_in hs ts (cl_in hs).1 (cl_in hs).2
theorem led_app (s : Int) : ∀ (ts us : List Int) (x : Int), led s (ts ++ us) x = led s us (led s ts x)
  | [], us, x => rfl
  | t :: ts, us, x => led_app s ts us _
theorem led_snoc (s : Int) (ts : List Int) (t x : Int) : led s (ts ++ [t]) x = cl s (led s ts x + t) := by
  rw [led_app]
  rfl
/-- a room by one greater: by one at most farther -/
theorem led_grow {s : Int} (hs : 0 ≤ s) : ∀ (ts : List Int) {x y : Int}, x ≤ y → y ≤ x + 1 → led s ts x ≤ led (s + 1) ts y ∧ led (s + 1) ts y ≤ led s ts x + 1
  | [], x, y, h1, h2 => ⟨h1, h2⟩
  | t :: ts, x, y, h1, h2 => led_grow hs ts (by unfold cl; omega) (by unfold cl; omega)
theorem led_zero (ts : List Int) : led 0 ts 0 = 0 := by
  have := led_in (s := 0) (by omega) ts (x := 0) (by omega) (by omega)
  omega
/-- in rooms of sizes s, s + n -/
theorem led_far {s : Int} (hs : 0 ≤ s) (ts : List Int) : ∀ n : Nat, led s ts 0 ≤ led (s + n) ts 0 ∧ led (s + n) ts 0 ≤ led s ts 0 + n
  | 0 => by simp
  | n + 1 => by
    have h1 := led_far hs ts n
    have h2 := led_grow (s := s + n) (by omega) ts (x := 0) (y := 0) (by omega) (by omega)
    rw [show s + ((n + 1 : Nat) : Int) = s + n + 1 by omega]
    omega
theorem led_le {s s' : Int} (hs : 0 ≤ s) (h : s ≤ s') (ts : List Int) : led s ts 0 ≤ led s' ts 0 ∧ led s' ts 0 ≤ led s ts 0 + (s' - s) := by
  have := led_far hs ts (s' - s).toNat
  rw [show s + ((s' - s).toNat : Int) = s' by omega] at this
  omega
def ab (i : Int) : Int := if i < 0 then -i else i
def add : Nat → List Int → Int → List Int
  | 0, fs, _ => fs
  | n + 1, fs, w => if w = 0 then fs else match fs with
    | [] => [w]
    | f :: r => if (f > 0) = (w > 0) then add n r (w + f) else match r with
      | [] => [w, f]
      | g :: r' => if ab f ≤ ab w then (if ab f ≤ ab g then add n r' (w + f + g) else add n ((g + f) :: r') w) else w :: f :: g :: r'
/-- opposite -/
def Op (a b : Int) : Prop := (0 < a ∧ b < 0) ∨ (a < 0 ∧ 0 < b)
/-- the last turn first: signs in turn, from the third one (of all) on each is lesser -/
def NR : List Int → Prop
  | [] => True
  | [a] => a ≠ 0
  | [a, b] => Op a b
  | a :: b :: c :: r => Op a b ∧ ab a < ab b ∧ NR (b :: c :: r)
theorem NR.tail : ∀ {a : Int} {r : List Int}, NR (a :: r) → NR r
  | _, [], _ => trivial
  | a, [b], h => by
    rcases h with h | h
    · show b ≠ 0
      omega
    · show b ≠ 0
      omega
  | _, b :: c :: r, h => h.2.2
theorem NR.ne : ∀ {a : Int} {r : List Int}, NR (a :: r) → a ≠ 0
  | _, [], h => h
  | a, [b], h => by
    rcases h with h | h <;> omega
  | a, b :: c :: r, h => by
    rcases h.1 with h | h <;> omega
theorem NR.op : ∀ {a b : Int} {r : List Int}, NR (a :: b :: r) → Op a b
  | _, _, [], h => h
  | _, _, _ :: _, h => h.1
theorem NR.lt {a b c : Int} {r : List Int} (h : NR (a :: b :: c :: r)) : ab a < ab b := h.2.1
theorem join3 {s x g f w : Int} (h1 : 0 ≤ x) (h2 : x ≤ s) (hgf : Op f g) (hfw : Op w f) (a : ab f ≤ ab g) (b : ab f ≤ ab w) : cl s (cl s (cl s (x + g) + f) + w) = cl s (x + (w + f + g)) := by
  unfold Op at *
  unfold ab at *
  unfold cl
  omega
theorem join2 {s x g f w : Int} (h1 : 0 ≤ x) (h2 : x ≤ s) (hgf : Op f g) (hfw : Op w f) (a : ¬ ab f ≤ ab g) (b : ab f ≤ ab w) : cl s (cl s (cl s (x + g) + f) + w) = cl s (cl s (x + (g + f)) + w) := by
  unfold Op at *
  unfold ab at *
  unfold cl
  omega
theorem join1 {s x f w : Int} (h1 : 0 ≤ x) (h2 : x ≤ s) (h : (f > 0) = (w > 0)) (hf : f ≠ 0) (hw : w ≠ 0) : cl s (cl s (x + f) + w) = cl s (x + (w + f)) := by
  have h' : f > 0 ↔ w > 0 := by rw [h]
  unfold cl
  omega
/-- where a short form, the last turn first, leads -/
def back (s : Int) : List Int → Int → Int
  | [], x => x
  | t :: r, x => cl s (back s r x + t)
theorem back_led (s : Int) : ∀ (r : List Int) (x : Int), back s r x = led s r.reverse x
  | [], x => rfl
  | t :: r, x => by rw [List.reverse_cons, led_snoc, ← back_led s r x]; rfl
theorem back_in {s : Int} (hs : 0 ≤ s) : ∀ (r : List Int) {x : Int}, 0 ≤ x → x ≤ s → 0 ≤ back s r x ∧ back s r x ≤ s
  | [], x, h1, h2 => ⟨h1, h2⟩
  | t :: r, x, h1, h2 => cl_in hs
def tot : List Int → Int
  | [] => 0
  | t :: r => ab t + tot r
theorem tot_nonneg : ∀ r : List Int, 0 ≤ tot r
  | [] => Int.le_refl _
  | t :: r => by
    have := tot_nonneg r
    show 0 ≤ ab t + tot r
    unfold ab
    omega
theorem add_ok : ∀ (n : Nat) {fs : List Int} (w : Int), NR fs → fs.length < n → NR (add n fs w) ∧ tot (add n fs w) ≤ tot fs + ab w ∧ ∀ {s x : Int}, 0 ≤ s → 0 ≤ x → x ≤ s → back s (add n fs w) x = cl s (back s fs x + w)
  | 0, fs, w, _, h => absurd h (Nat.not_lt_zero _)
  | n + 1, fs, w, hN, hl => by
    unfold add
    by_cases hw : w = 0
    · rw [if_pos hw]
      subst hw
      refine ⟨hN, by simp [ab], fun {s x} hs h1 h2 => ?_⟩
      have := back_in hs fs h1 h2
      unfold cl
      omega
    rw [if_neg hw]
    cases fs with
    | nil => exact ⟨hw, by simp [tot], fun {s x} _ _ _ => rfl⟩
    | cons f r =>
      simp only []
      have hf := hN.ne
      by_cases hsg : (f > 0) = (w > 0)
      · rw [if_pos hsg]
        obtain ⟨k1, k2, k3⟩ := add_ok n (fs := r) (w + f) hN.tail (by simp at hl; omega)
        refine ⟨k1, ?_, fun {s x} hs h1 h2 => ?_⟩
        · show _ ≤ ab f + tot r + ab w
          have : ab (w + f) ≤ ab w + ab f := by unfold ab; omega
          omega
        · rw [k3 hs h1 h2]
          have := back_in hs r h1 h2
          exact (join1 this.1 this.2 hsg hf hw).symm
      · rw [if_neg hsg]
        have op : Op w f := by
          unfold Op
          have : ¬ (f > 0 ↔ w > 0) := fun h => hsg (propext h)
          omega
        cases r with
        | nil => exact ⟨op, by simp [tot]; omega, fun {s x} _ _ _ => rfl⟩
        | cons g r' =>
          simp only []
          have op2 := hN.op
          by_cases ha : ab f ≤ ab w
          · rw [if_pos ha]
            by_cases hb : ab f ≤ ab g
            · rw [if_pos hb]
              obtain ⟨k1, k2, k3⟩ := add_ok n (fs := r') (w + f + g) hN.tail.tail (by simp at hl; omega)
              refine ⟨k1, ?_, fun {s x} hs h1 h2 => ?_⟩
              · show _ ≤ ab f + (ab g + tot r') + ab w
                have : ab (w + f + g) ≤ ab w + ab f + ab g := by unfold ab; omega
                omega
              · rw [k3 hs h1 h2]
                have := back_in hs r' h1 h2
                exact (join3 this.1 this.2 op2 op hb ha).symm
            · rw [if_neg hb]
              have hr' : r' = [] := by
                cases r' with
                | nil => rfl
                | cons c r'' => exact absurd (Int.le_of_lt hN.lt) hb
              subst hr'
              obtain ⟨k1, k2, k3⟩ := add_ok n (fs := [g + f]) w (by
                show g + f ≠ 0
                unfold Op at op2
                unfold ab at hb
                omega) (by simp at hl ⊢; omega)
              refine ⟨k1, ?_, fun {s x} hs h1 h2 => ?_⟩
              · show _ ≤ ab f + (ab g + 0) + ab w
                have h3 : tot [g + f] = ab (g + f) + 0 := rfl
                have : ab (g + f) ≤ ab f + ab g := by unfold ab; omega
                omega
              · rw [k3 hs h1 h2]
                exact (join2 h1 h2 op2 op hb ha).symm
          · rw [if_neg ha]
            refine ⟨⟨op, by omega, hN⟩, by simp [tot]; omega, fun {s x} _ _ _ => rfl⟩
end Q

set_option linter.all false
set_option maxRecDepth 100000
namespace Q
def addW (fs : List Int) (w : Int) : List Int := add (fs.length + 1) fs w
def formR (acc : List Int) : List Int → List Int
  | [] => acc
  | t :: ts => formR (addW acc t) ts
/-- the short form, the last turn first -/
def form (ts : List Int) : List Int := formR [] ts
theorem formR_ok : ∀ (ts : List Int) {acc : List Int}, NR acc → NR (formR acc ts) ∧ tot (formR acc ts) ≤ tot acc + tot ts ∧ ∀ {s x : Int}, 0 ≤ s → 0 ≤ x → x ≤ s → back s (formR acc ts) x = led s ts (back s acc x)
  | [], acc, h => ⟨h, by simp [formR, tot], fun {s x} _ _ _ => rfl⟩
  | t :: ts, acc, h => by
    obtain ⟨a1, a2, a3⟩ := add_ok (acc.length + 1) t h (Nat.lt_succ_self _)
    obtain ⟨b1, b2, b3⟩ := formR_ok ts (acc := addW acc t) a1
    refine ⟨b1, ?_, fun {s x} hs h1 h2 => ?_⟩
    · show _ ≤ tot acc + (ab t + tot ts)
      have h4 : tot (addW acc t) ≤ tot acc + ab t := a2
      have h5 : tot (formR acc (t :: ts)) ≤ tot (addW acc t) + tot ts := b2
      omega
    · have h4 : back s (addW acc t) x = cl s (back s acc x + t) := a3 hs h1 h2
      show back s (formR (addW acc t) ts) x = led s ts (cl s (back s acc x + t))
      rw [b3 hs h1 h2, h4]
theorem form_nr (ts : List Int) : NR (form ts) := (formR_ok ts (acc := []) trivial).1
theorem form_tot (ts : List Int) : tot (form ts) ≤ tot ts := by
  have := (formR_ok ts (acc := []) trivial).2.1
  simpa [tot, form] using this
theorem form_led (ts : List Int) {s x : Int} (hs : 0 ≤ s) (h1 : 0 ≤ x) (h2 : x ≤ s) : back s (form ts) x = led s ts x := (formR_ok ts (acc := []) trivial).2.2 hs h1 h2
def mx : List Int → Int
  | [] => 0
  | t :: r => if mx r < ab t then ab t else mx r
theorem mx_nonneg : ∀ r : List Int, 0 ≤ mx r
  | [] => Int.le_refl _
  | t :: r => by
    have := mx_nonneg r
    show 0 ≤ if mx r < ab t then ab t else mx r
    split <;> omega
theorem mx_le_tot : ∀ r : List Int, mx r ≤ tot r
  | [] => Int.le_refl _
  | t :: r => by
    have := mx_le_tot r
    have := tot_nonneg r
    have h3 : 0 ≤ ab t := by unfold ab; omega
    show (if mx r < ab t then ab t else mx r) ≤ ab t + tot r
    split <;> omega
theorem mx_cons_le {t : Int} {r : List Int} {M : Int} (h : mx (t :: r) ≤ M) : ab t ≤ M ∧ mx r ≤ M := by
  have h : (if mx r < ab t then ab t else mx r) ≤ M := h
  split at h <;> omega
theorem far : ∀ {r : List Int} {M s s' : Int}, NR r → mx r ≤ M → M ≤ s → M ≤ s' → back s r 0 = back s' r 0 ∧ 0 ≤ back s r 0 ∧ back s r 0 ≤ M ∧ ∀ t r', r = t :: r' → t < 0 → back s r 0 = 0 ∨ (back s r 0 + ab t ≤ M ∧ r' ≠ [])
  | [], M, s, s', _, h, h1, h2 => ⟨rfl, Int.le_refl _, h, fun _ _ e => by cases e⟩
  | [t], M, s, s', hN, h, h1, h2 => by
    have := mx_cons_le h
    have hn : t ≠ 0 := hN
    have h3 := mx_nonneg [t]
    unfold ab at this
    refine ⟨?_, ?_, ?_, ?_⟩
    · show cl s (0 + t) = cl s' (0 + t)
      unfold cl
      omega
    · exact (cl_in (by omega)).1
    · show cl s (0 + t) ≤ M
      unfold cl
      omega
    · intro t1 r' e ht
      cases e
      left
      show cl s (0 + t) = 0
      unfold cl
      omega
  | t :: t' :: r, M, s, s', hN, h, h1, h2 => by
    have hm := mx_cons_le h
    obtain ⟨k1, k2, k3, k4⟩ := far (r := t' :: r) hN.tail hm.2 h1 h2
    have op := hN.op
    have h3 := mx_nonneg (t :: t' :: r)
    have k5 := k4 t' r rfl
    have key : 0 < t → back s (t' :: r) 0 + t ≤ M := fun ht => by
      have ht' : t' < 0 := by unfold Op at op; omega
      rcases k5 ht' with k | ⟨k, kr⟩
      · have := hm.1
        unfold ab at this
        omega
      · cases r with
        | nil => exact absurd rfl kr
        | cons c r'' =>
          have := hN.lt
          unfold ab at this k
          omega
    have e1 : back s (t :: t' :: r) 0 = cl s (back s (t' :: r) 0 + t) := rfl
    have e2 : back s' (t :: t' :: r) 0 = cl s' (back s (t' :: r) 0 + t) := by rw [k1]; rfl
    rw [e1, e2]
    generalize back s (t' :: r) 0 = p at *
    unfold Op at op
    refine ⟨?_, ?_, ?_, ?_⟩
    · unfold cl
      omega
    · unfold cl
      omega
    · unfold cl
      omega
    · intro t1 r' e ht
      cases e
      unfold cl ab
      by_cases hp : p + t ≤ 0
      · left
        omega
      · right
        exact ⟨by omega, by simp⟩
/-- where 0 is led: f -/
structure Gr (f : Int → Int) : Prop where
  z : f 0 = 0
  g : ∀ s s', 0 ≤ s → s ≤ s' → f s ≤ f s' ∧ f s' ≤ f s + (s' - s)
theorem gr_led (ts : List Int) : Gr fun s => led s ts 0 := ⟨led_zero ts, fun s s' h1 h2 => led_le h1 h2 ts⟩
/-- the least size that leads as far as c -/
structure Lst (f : Int → Int) (c L : Int) : Prop where
  nn : 0 ≤ L
  at_ : c ≤ f L
  be : ∀ s, 0 ≤ s → s < L → f s < c
theorem Lst.uniq {f : Int → Int} {c L L' : Int} (h : Lst f c L) (h' : Lst f c L') : L = L' := by
  by_cases h1 : L < L'
  · have := h'.be L h.nn h1
    have := h.at_
    omega
  · by_cases h2 : L' < L
    · have := h.be L' h'.nn h2
      have := h'.at_
      omega
    · omega
theorem Lst.eq {f : Int → Int} {c L : Int} (G : Gr f) (hc : 0 ≤ c) (h : Lst f c L) : f L = c := by
  have h1 := h.at_
  have h2 := h.nn
  by_cases hL : L = 0
  · subst hL
    rw [G.z] at h1 ⊢
    omega
  · have h3 := h.be (L - 1) (by omega) (by omega)
    have h4 := (G.g (L - 1) L (by omega) (by omega)).2
    omega
theorem lst_ex {f : Int → Int} {c : Int} (G : Gr f) : ∀ n : Nat, c ≤ f n → ∃ L, Lst f c L ∧ L ≤ n
  | 0, h => ⟨0, ⟨Int.le_refl _, h, fun s h1 h2 => by omega⟩, Int.le_refl _⟩
  | n + 1, h => by
    by_cases hn : c ≤ f n
    · obtain ⟨L, h1, h2⟩ := lst_ex G n hn
      exact ⟨L, h1, by omega⟩
    · refine ⟨((n + 1 : Nat) : Int), ⟨by omega, h, fun s h1 h2 => ?_⟩, Int.le_refl _⟩
      have := (G.g s n h1 (by omega)).1
      omega
/-- what rooms_for tells: none, or the least and, if there is one, the greatest size -/
inductive RF (f : Int → Int) (E c : Int) : Option (Int × Option Int) → Prop
  | no : f E < c → RF f E c none
  | open_ {L : Int} : f E = c → Lst f c L → L ≤ E → RF f E c (some (L, none))
  | shut {L L2 : Int} : c < f E → Lst f c L → Lst f (c + 1) L2 → L2 ≤ E → RF f E c (some (L, some (L2 - 1)))
theorem rf_ex {f : Int → Int} {E c : Int} (G : Gr f) (hE : 0 ≤ E) : ∃ r, RF f E c r := by
  by_cases h1 : f E < c
  · exact ⟨_, .no h1⟩
  · obtain ⟨n, rfl⟩ : ∃ n : Nat, E = n := ⟨E.toNat, by omega⟩
    obtain ⟨L, hL, hL2⟩ := lst_ex (c := c) G n (by omega)
    by_cases h2 : f n = c
    · exact ⟨_, .open_ h2 hL hL2⟩
    · obtain ⟨M, hM, hM2⟩ := lst_ex (c := c + 1) G n (by omega)
      exact ⟨_, .shut (by omega) hL hM hM2⟩
theorem RF.uniq {f : Int → Int} {E c : Int} {r r' : Option (Int × Option Int)} (h : RF f E c r) (h' : RF f E c r') : r = r' := by
  cases h <;> cases h' <;> first | rfl | omega | skip
  · rename_i h1 h2 _ _ h3 h4 _
    rw [h2.uniq h4]
  · rename_i h1 h2 h3 _ _ _ h4 h5 h6 _
    rw [h2.uniq h5, h3.uniq h6]
/-- a greater room behind E changes nothing -/
theorem RF.beyond {f : Int → Int} {E E' c : Int} {r : Option (Int × Option Int)} (h : RF f E c r) (hE : E ≤ E') (he : f E' = f E) : RF f E' c r := by
  cases h with
  | no h => exact .no (by omega)
  | open_ h1 h2 h3 => exact .open_ (by omega) h2 (by omega)
  | shut h1 h2 h3 h4 => exact .shut (by omega) h2 h3 (by omega)
theorem cl_mul {s x g : Int} (hg : 0 < g) : cl (s * g) (x * g) = cl s x * g := by
  unfold cl
  by_cases h1 : x < s
  · rw [if_pos h1, if_pos (Int.mul_lt_mul_of_pos_right h1 hg)]
    by_cases h2 : x > 0
    · rw [if_pos h2, if_pos (Int.mul_pos h2 hg)]
    · rw [if_neg h2, if_neg (by have := Int.mul_nonneg (show 0 ≤ -x by omega) (Int.le_of_lt hg); rw [Int.neg_mul] at this; omega)]
      simp
  · have h1' : ¬ x * g < s * g := fun h => h1 (Int.lt_of_mul_lt_mul_right h (Int.le_of_lt hg))
    rw [if_neg h1, if_neg h1']
    by_cases h2 : s > 0
    · rw [if_pos h2, if_pos (Int.mul_pos h2 hg)]
    · rw [if_neg h2, if_neg (by have := Int.mul_nonneg (show 0 ≤ -s by omega) (Int.le_of_lt hg); rw [Int.neg_mul] at this; omega)]
      simp
theorem led_mul {g : Int} (hg : 0 < g) : ∀ (ts : List Int) (s x : Int), led (s * g) (ts.map (· * g)) (x * g) = led s ts x * g
  | [], s, x => rfl
  | t :: ts, s, x => by
    show led (s * g) (ts.map (· * g)) (cl (s * g) (x * g + t * g)) = _
    rw [← Int.add_mul, cl_mul hg, led_mul hg ts]
    rfl
theorem tot_mul {g : Int} (hg : 0 < g) : ∀ ts : List Int, tot (ts.map (· * g)) = tot ts * g
  | [] => by simp [tot]
  | t :: ts => by
    show ab (t * g) + tot (ts.map (· * g)) = (ab t + tot ts) * g
    rw [tot_mul hg ts, Int.add_mul]
    congr 1
    unfold ab
    by_cases h : t < 0
    · rw [if_pos h, if_pos (Int.mul_neg_of_neg_of_pos h hg), Int.neg_mul]
    · rw [if_neg h, if_neg (by have := Int.mul_nonneg (show 0 ≤ t by omega) (Int.le_of_lt hg); omega)]
theorem Lst.mul {f F : Int → Int} {c L g : Int} (G : Gr f) (GF : Gr F) (hg : 0 < g) (hF : ∀ s, 0 ≤ s → F (s * g) = f s * g) (hc : 0 ≤ c) (h : Lst f c L) : Lst F (c * g) (L * g) := by
  have e := h.eq G hc
  refine ⟨Int.mul_nonneg h.nn (Int.le_of_lt hg), by rw [hF L h.nn, e]; exact Int.le_refl _, fun s h1 h2 => ?_⟩
  by_cases hL : L = 0
  · subst hL
    simp at h2
    omega
  · have hn := h.nn
    have h3 := h.be (L - 1) (by omega) (by omega)
    have h4 := hF (L - 1) (by omega)
    have h5 : f (L - 1) * g ≤ (c - 1) * g := Int.mul_le_mul_of_nonneg_right (by omega) (Int.le_of_lt hg)
    rw [Int.sub_mul] at h5 h4
    rw [Int.one_mul] at h5 h4
    have h6 : 0 ≤ L * g - g := by
      have := Int.mul_nonneg (show 0 ≤ L - 1 by omega) (Int.le_of_lt hg)
      rw [Int.sub_mul, Int.one_mul] at this
      exact this
    by_cases h7 : s ≤ L * g - g
    · have := (GF.g s _ h1 h7).1
      omega
    · have := (GF.g (L * g - g) s h6 (by omega)).2
      omega
end Q

set_option linter.all false
set_option maxRecDepth 100000
namespace Q
/-- whether the cell s is downward -/
def dn : List Int → Int → Bool
  | [], _ => false
  | t :: r, s => if s ≤ ab t then decide (0 < t) else dn r s
def sm : List Int → Int
  | [] => 0
  | t :: r => sm r + t
theorem mx_cons (t : Int) (r : List Int) : mx (t :: r) = if mx r < ab t then ab t else mx r := rfl
theorem dn_le {t s : Int} {r : List Int} (h : s ≤ ab t) : dn (t :: r) s = decide (0 < t) := if_pos h
theorem dn_gt {t s : Int} {r : List Int} (h : ¬ s ≤ ab t) : dn (t :: r) s = dn r s := if_neg h
theorem const_ : ∀ {r : List Int} {s x : Int}, 0 ≤ s → s ≤ mx r → 0 ≤ x → x ≤ s → back s r x = back s r 0
  | [], s, x, h0, h1, h2, h3 => by
    have h1 : s ≤ 0 := h1
    show x = 0
    omega
  | t :: r, s, x, h0, h1, h2, h3 => by
    rw [mx_cons] at h1
    show cl s (back s r x + t) = cl s (back s r 0 + t)
    by_cases hs : s ≤ mx r
    · rw [const_ h0 hs h2 h3]
    · have ht : s ≤ ab t := by
        split at h1
        · exact h1
        · exact absurd h1 hs
      have i1 := back_in h0 r h2 h3
      have i2 := back_in h0 r (Int.le_refl 0) h0
      unfold ab at ht
      unfold cl
      omega
/-- one turn behind another one that is greater, of the other sign: no end is met -/
theorem free {t u s p : Int} (hop : Op t u) (hlt : ab t < ab u) (hs : ab t ≤ s) (h1 : 0 ≤ p) (h2 : p ≤ s) : cl s (cl s (p + u) + t) = cl s (p + u) + t := by
  unfold Op at hop
  unfold ab at *
  unfold cl
  omega
theorem step_ : ∀ {r : List Int} {s : Int}, NR r → 1 ≤ s → s ≤ mx r → back s r 0 = back (s - 1) r 0 + (if dn r s then 1 else 0)
  | [], s, _, h1, h2 => by
    have h2 : s ≤ 0 := h2
    omega
  | t :: r, s, hN, h1, h2 => by
    rw [mx_cons] at h2
    by_cases ht : s ≤ ab t
    · rw [dn_le ht]
      have i1 := back_in (s := s) (by omega) r (Int.le_refl 0) (by omega)
      have i2 := back_in (s := s - 1) (by omega) r (Int.le_refl 0) (by omega)
      show cl s (back s r 0 + t) = cl (s - 1) (back (s - 1) r 0 + t) + _
      have hn := hN.ne
      unfold ab at ht
      by_cases hp : 0 < t
      · rw [decide_eq_true hp, if_pos rfl]
        unfold cl
        omega
      · rw [decide_eq_false hp, if_neg Bool.false_ne_true]
        unfold cl
        omega
    · rw [dn_gt ht]
      have hs : s ≤ mx r := by
        split at h2
        · exact absurd h2 ht
        · exact h2
      have ih := step_ hN.tail h1 hs
      cases r with
      | nil =>
        have : s ≤ 0 := hs
        omega
      | cons u r' =>
        have hlt : ab t < ab u := by
          cases r' with
          | nil =>
            rw [mx_cons] at hs
            have hz : mx ([] : List Int) = 0 := rfl
            rw [hz] at hs
            split at hs <;> omega
          | cons c r'' => exact hN.lt
        have op := hN.op
        have i1 := back_in (s := s) (by omega) r' (Int.le_refl 0) (by omega)
        have i2 := back_in (s := s - 1) (by omega) r' (Int.le_refl 0) (by omega)
        have e1 : back s (t :: u :: r') 0 = back s (u :: r') 0 + t := free op hlt (by omega) i1.1 i1.2
        have e2 : back (s - 1) (t :: u :: r') 0 = back (s - 1) (u :: r') 0 + t := free op hlt (by omega) i2.1 i2.2
        rw [e1, e2, ih]
        omega
theorem wid : ∀ {r : List Int} {s : Int}, NR r → mx r ≤ s → 0 ≤ s → back s r s - back s r 0 = s - mx r
  | [], s, _, h, _ => by
    show s - 0 = s - 0
    rfl
  | [t], s, hN, h, h0 => by
    have hm := mx_cons_le h
    have hz : mx [t] = ab t := by
      rw [mx_cons]
      have : mx ([] : List Int) = 0 := rfl
      rw [this]
      have : 0 ≤ ab t := by unfold ab; omega
      split <;> omega
    rw [hz] at h ⊢
    show cl s (s + t) - cl s (0 + t) = s - ab t
    unfold ab at *
    unfold cl
    omega
  | t :: u :: r, s, hN, h, h0 => by
    have hm := mx_cons_le h
    have ih := wid hN.tail hm.2 h0
    have op := hN.op
    have i1 := back_in (s := s) h0 r (Int.le_refl 0) h0
    have i2 := back_in (s := s) h0 r h0 (Int.le_refl s)
    by_cases hlt : ab t < ab u
    · have e1 : back s (t :: u :: r) 0 = back s (u :: r) 0 + t := free op hlt hm.1 i1.1 i1.2
      have e2 : back s (t :: u :: r) s = back s (u :: r) s + t := free op hlt hm.1 i2.1 i2.2
      have em : mx (t :: u :: r) = mx (u :: r) := by
        have hu := (mx_cons_le (Int.le_refl (mx (u :: r)))).1
        rw [mx_cons t, if_neg (by omega)]
      rw [e1, e2, em]
      omega
    · cases r with
      | cons c r' => exact absurd hN.lt hlt
      | nil =>
        have hz : mx [u] = ab u := by
          rw [mx_cons]
          have : mx ([] : List Int) = 0 := rfl
          rw [this]
          have : 0 ≤ ab u := by unfold ab; omega
          split <;> omega
        have em : mx (t :: [u]) = ab t := by
          rw [mx_cons, hz]
          split <;> omega
        rw [em]
        have h1 := hm.1
        show cl s (cl s (s + u) + t) - cl s (cl s (0 + u) + t) = s - ab t
        unfold Op at op
        unfold ab at *
        unfold cl
        omega
/-- between two ends -/
def cl2 (l h y : Int) : Int := if y < l then l else if h < y then h else y
theorem form_of : ∀ (r : List Int) {s x : Int}, 0 ≤ s → 0 ≤ x → x ≤ s → back s r 0 ≤ back s r s ∧ back s r x = cl2 (back s r 0) (back s r s) (x + sm r)
  | [], s, x, h0, h1, h2 => by
    refine ⟨h0, ?_⟩
    show x = cl2 0 s (x + 0)
    unfold cl2
    omega
  | t :: r, s, x, h0, h1, h2 => by
    obtain ⟨k1, k2⟩ := form_of r h0 h1 h2
    have i1 := back_in h0 r (Int.le_refl 0) h0
    have i2 := back_in h0 r h0 (Int.le_refl s)
    show cl s (back s r 0 + t) ≤ cl s (back s r s + t) ∧ cl s (back s r x + t) = cl2 (cl s (back s r 0 + t)) (cl s (back s r s + t)) (x + (sm r + t))
    rw [k2]
    generalize back s r 0 = l at *
    generalize back s r s = h at *
    unfold cl2 cl
    omega
theorem mx_pos {a : Int} {r : List Int} (h : NR (a :: r)) : 1 ≤ mx (a :: r) := by
  have := h.ne
  have h2 := (mx_cons_le (Int.le_refl (mx (a :: r)))).1
  unfold ab at h2
  omega
theorem op_ab {a b : Int} (h : ab a = ab b) (h2 : decide (0 < a) = decide (0 < b)) (ha : a ≠ 0) : a = b := by
  have : (0 < a ↔ 0 < b) := by
    by_cases h3 : 0 < a
    · by_cases h4 : 0 < b
      · exact ⟨fun _ => h4, fun _ => h3⟩
      · simp [h3, h4] at h2
    · by_cases h4 : 0 < b
      · simp [h3, h4] at h2
      · exact ⟨fun z => absurd z h3, fun z => absurd z h4⟩
  unfold ab at h
  omega
/-- a step: the next turn is greater -/
theorem stepped {a : Int} {r : List Int} (h : NR (a :: r)) : (∃ u r', r = u :: r' ∧ ab a < ab u ∧ mx (a :: r) = mx r) ∨ (mx (a :: r) = ab a ∧ (r = [] ∨ ∃ u, r = [u])) := by
  cases r with
  | nil =>
    right
    refine ⟨?_, .inl rfl⟩
    rw [mx_cons]
    have : mx ([] : List Int) = 0 := rfl
    rw [this]
    have : 0 ≤ ab a := by unfold ab; omega
    split <;> omega
  | cons u r' =>
    by_cases hlt : ab a < ab u
    · left
      refine ⟨u, r', rfl, hlt, ?_⟩
      have hu := (mx_cons_le (Int.le_refl (mx (u :: r')))).1
      rw [mx_cons a, if_neg (by omega)]
    · right
      cases r' with
      | cons c r'' => exact absurd h.lt hlt
      | nil =>
        refine ⟨?_, .inr ⟨u, rfl⟩⟩
        have hz : mx [u] = ab u := by
          rw [mx_cons]
          have : mx ([] : List Int) = 0 := rfl
          rw [this]
          have : 0 ≤ ab u := by unfold ab; omega
          split <;> omega
        rw [mx_cons, hz]
        split <;> omega
theorem sign_flip {a u : Int} (h : Op a u) : decide (0 < u) = !decide (0 < a) := by
  unfold Op at h
  by_cases h1 : 0 < a
  · have : ¬ 0 < u := by omega
    simp [h1, this]
  · have : 0 < u := by omega
    simp [h1, this]
theorem uniq_ : ∀ {a b : List Int}, NR a → NR b → mx a = mx b → (∀ s, 1 ≤ s → s ≤ mx a → dn a s = dn b s) → sm a = sm b → a = b
  | [], [], _, _, _, _, _ => rfl
  | [], b :: bs, _, hb, h, _, _ => by
    have := mx_pos hb
    have z : mx ([] : List Int) = 0 := rfl
    omega
  | a :: as, [], ha, _, h, _, _ => by
    have := mx_pos ha
    have z : mx ([] : List Int) = 0 := rfl
    omega
  | a :: as, b :: bs, ha, hb, h, hd, hs => by
    have na := ha.ne
    have nb := hb.ne
    have pa : 1 ≤ ab a := by unfold ab; omega
    have pb : 1 ≤ ab b := by unfold ab; omega
    have m1 := mx_pos ha
    have s1 := hd 1 (Int.le_refl 1) m1
    rw [dn_le pa, dn_le pb] at s1
    rcases stepped ha with ⟨u, r, rfl, hlt, hm⟩ | ⟨hm, hr⟩
    · have fa := sign_flip ha.op
      have ua := (mx_cons_le (Int.le_refl (mx (u :: r)))).1
      rcases stepped hb with ⟨u2, r2, rfl, hlt2, hm2⟩ | ⟨hm2, hr2⟩
      · have fb := sign_flip hb.op
        have ub := (mx_cons_le (Int.le_refl (mx (u2 :: r2)))).1
        have eab : ab a = ab b := by
          by_cases z : ab a < ab b
          · have := hd (ab a + 1) (by omega) (by omega)
            rw [dn_gt (by omega), dn_le (by omega), dn_le (by omega), fa, s1] at this
            cases hq : decide (0 < b) <;> rw [hq] at this <;> cases this
          · by_cases z2 : ab b < ab a
            · have := hd (ab b + 1) (by omega) (by omega)
              rw [dn_le (by omega), dn_gt (by omega), dn_le (by omega), fb, s1] at this
              cases hq : decide (0 < b) <;> rw [hq] at this <;> cases this
            · omega
        have e := op_ab eab s1 na
        subst e
        have ih := uniq_ (a := u :: r) (b := u2 :: r2) ha.tail hb.tail (by omega) (fun s h1 h2 => by
          by_cases z : s ≤ ab a
          · rw [dn_le (by omega), dn_le (by omega), fa, fb]
          · have := hd s h1 (by omega)
            rw [dn_gt z, dn_gt z] at this
            exact this) (by
          have : sm (u :: r) + a = sm (u2 :: r2) + a := hs
          omega)
        rw [ih]
      · -- the other one is constant
        have := hd (ab a + 1) (by omega) (by omega)
        rw [dn_gt (by omega), dn_le (by omega), dn_le (by omega), fa, s1] at this
        cases hq : decide (0 < b) <;> rw [hq] at this <;> cases this
    · rcases stepped hb with ⟨u2, r2, rfl, hlt2, hm2⟩ | ⟨hm2, hr2⟩
      · have fb := sign_flip hb.op
        have ub := (mx_cons_le (Int.le_refl (mx (u2 :: r2)))).1
        have := hd (ab b + 1) (by omega) (by omega)
        rw [dn_le (by omega), dn_gt (by omega), dn_le (by omega), fb, s1] at this
        cases hq : decide (0 < b) <;> rw [hq] at this <;> cases this
      · have e := op_ab (by omega : ab a = ab b) s1 na
        subst e
        have hs2 : sm as = sm bs := by
          have : sm as + a = sm bs + a := hs
          omega
        rcases hr with rfl | ⟨u, rfl⟩
        · rcases hr2 with rfl | ⟨u2, rfl⟩
          · rfl
          · have := hb.tail.ne
            have h3 : (0 : Int) = 0 + u2 := hs2
            omega
        · rcases hr2 with rfl | ⟨u2, rfl⟩
          · have := ha.tail.ne
            have h3 : 0 + u = (0 : Int) := hs2
            omega
          · have h3 : 0 + u = 0 + u2 := hs2
            have : u = u2 := by omega
            rw [this]
/-- both do the same in a room -/
def Same (a b : List Int) (s : Int) : Prop := ∀ x, 0 ≤ x → x ≤ s → back s a x = back s b x
theorem p_same {a b : List Int} (ha : NR a) (hb : NR b) : ∀ n : Nat, (n : Int) ≤ mx a → (n : Int) ≤ mx b → (∀ s : Int, 1 ≤ s → s ≤ n → dn a s = dn b s) → back n a 0 = back n b 0
  | 0, _, _, _ => by
    have i1 := back_in (s := ((0 : Nat) : Int)) (by omega) a (Int.le_refl 0) (by omega)
    have i2 := back_in (s := ((0 : Nat) : Int)) (by omega) b (Int.le_refl 0) (by omega)
    omega
  | n + 1, h1, h2, h => by
    have ih := p_same ha hb n (by omega) (by omega) fun s k1 k2 => h s k1 (by omega)
    have e1 := step_ ha (s := ((n + 1 : Nat) : Int)) (by omega) h1
    have e2 := step_ hb (s := ((n + 1 : Nat) : Int)) (by omega) h2
    rw [h _ (by omega) (by omega)] at e1
    rw [show ((n + 1 : Nat) : Int) - 1 = n by omega] at e1 e2
    omega
theorem same_to {a b : List Int} (ha : NR a) (hb : NR b) {s : Int} (h0 : 0 ≤ s) (h1 : s ≤ mx a) (h2 : s ≤ mx b) (h : ∀ z : Int, 1 ≤ z → z ≤ s → dn a z = dn b z) : Same a b s := fun x hx hx2 => by
  have e := p_same ha hb s.toNat (by omega) (by omega) fun z k1 k2 => h z k1 (by omega)
  rw [show ((s.toNat : Nat) : Int) = s by omega] at e
  rw [const_ h0 h1 hx hx2, const_ h0 h2 hx hx2, e]
theorem parts_at {a b : List Int} (ha : NR a) (hb : NR b) {s : Int} (h0 : 1 ≤ s) (h1 : s ≤ mx a) (h2 : s ≤ mx b) (h : ∀ z : Int, 1 ≤ z → z < s → dn a z = dn b z) (hd : dn a s ≠ dn b s) : ¬ Same a b s := fun hs => by
  have e := p_same ha hb (s - 1).toNat (by omega) (by omega) fun z k1 k2 => h z k1 (by omega)
  rw [show (((s - 1).toNat : Nat) : Int) = s - 1 by omega] at e
  have e1 := step_ ha h0 h1
  have e2 := step_ hb h0 h2
  have := hs 0 (Int.le_refl 0) (by omega)
  cases q1 : dn a s <;> cases q2 : dn b s <;> rw [q1] at e1 hd <;> rw [q2] at e2 hd <;> simp at e1 e2 hd <;> omega
theorem sum_same {a b : List Int} {s : Int} (h0 : 0 ≤ s) (hs : Same a b s) (hw : back s a s = back s a 0 + 1) : sm a = sm b := by
  have l := hs 0 (Int.le_refl 0) h0
  have h := hs s h0 (Int.le_refl s)
  have fa := fun x h1 h2 => (form_of a (s := s) (x := x) h0 h1 h2).2
  have fb := fun x h1 h2 => (form_of b (s := s) (x := x) h0 h1 h2).2
  rw [← l, ← h] at fb
  have a0 := fa 0 (Int.le_refl 0) h0
  have a1 := fa s h0 (Int.le_refl s)
  have b0 := fb 0 (Int.le_refl 0) h0
  have b1 := fb s h0 (Int.le_refl s)
  rw [← l] at b0
  rw [← h] at b1
  generalize back s a 0 = lo at *
  generalize hh : back s a s = hi at *
  subst hw
  generalize sm a = sa at *
  generalize sm b = sb at *
  unfold cl2 at a0 a1 b0 b1
  have x1 : 0 ≤ lo - sa ∧ lo - sa ≤ s := by omega
  have x2 : 0 ≤ lo - sb ∧ lo - sb ≤ s := by omega
  have e1 := hs (lo - sa) x1.1 x1.2
  have e2 := hs (lo - sb) x2.1 x2.2
  rw [fa _ x1.1 x1.2, fb _ x1.1 x1.2] at e1
  rw [fa _ x2.1 x2.2, fb _ x2.1 x2.2] at e2
  unfold cl2 at e1 e2
  omega
theorem parts_end {a b : List Int} (ha : NR a) (hb : NR b) (hne : a ≠ b) {e : Int} (he : e = if mx b < mx a then mx b else mx a) (h : ∀ z : Int, 1 ≤ z → z ≤ e → dn a z = dn b z) : ¬ Same a b (e + 1) := fun hs => by
  have za := mx_nonneg a
  have zb := mx_nonneg b
  have l := hs 0 (Int.le_refl 0) (by omega)
  have hh := hs (e + 1) (by omega) (Int.le_refl _)
  by_cases h1 : mx b < mx a
  · rw [if_pos h1] at he
    subst he
    have w := wid hb (s := mx b + 1) (by omega) (by omega)
    have c := const_ (r := a) (s := mx b + 1) (x := mx b + 1) (by omega) (by omega) (by omega) (Int.le_refl _)
    omega
  · rw [if_neg h1] at he
    subst he
    by_cases h2 : mx a < mx b
    · have w := wid ha (s := mx a + 1) (by omega) (by omega)
      have c := const_ (r := b) (s := mx a + 1) (x := mx a + 1) (by omega) (by omega) (by omega) (Int.le_refl _)
      omega
    · have w := wid ha (s := mx a + 1) (by omega) (by omega)
      exact hne (uniq_ ha hb (by omega) h (sum_same (by omega) hs (by omega)))
/-- same everywhere: the same -/
theorem same_eq {a b : List Int} (ha : NR a) (hb : NR b) (h : ∀ s, 0 ≤ s → Same a b s) : a = b := by
  by_cases hne : a = b
  · exact hne
  · have za := mx_nonneg a
    have zb := mx_nonneg b
    have key : ∀ n : Nat, (n : Int) ≤ mx a → (n : Int) ≤ mx b → ∀ z : Int, 1 ≤ z → z ≤ n → dn a z = dn b z := by
      intro n
      induction n with
      | zero => intro _ _ z h1 h2; omega
      | succ n ih =>
        intro h1 h2 z k1 k2
        by_cases hz : z ≤ n
        · exact ih (by omega) (by omega) z k1 hz
        · have hzn : z = ((n + 1 : Nat) : Int) := by omega
          by_cases q : dn a z = dn b z
          · exact q
          · exact absurd (h z (by omega)) (parts_at ha hb k1 (by omega) (by omega) (fun y y1 y2 => ih (by omega) (by omega) y y1 (by omega)) q)
    exact absurd (h _ (by omega)) (parts_end ha hb hne rfl fun z k1 k2 => key (if mx b < mx a then mx b else mx a).toNat (by omega) (by omega) z k1 (by omega))
end Q

set_option linter.all false
set_option maxRecDepth 100000
namespace Q
structure Cl where
  a : Int
  z : Int
  d : Bool
/-- the cells as they are told, from m + 1 on -/
def cel (m : Int) : List Int → List Cl
  | [] => []
  | t :: r => if m < ab t then ⟨m + 1, ab t, decide (0 < t)⟩ :: cel (ab t) r else cel m r
def flags (s : Int) (cs : List Cl) : List Bool := (cs.filter fun c => decide (c.a ≤ s) && decide (s ≤ c.z)).map (·.d)
theorem cel_low : ∀ (r : List Int) {m s : Int}, s ≤ m → flags s (cel m r) = []
  | [], m, s, _ => rfl
  | t :: r, m, s, h => by
    unfold cel
    split
    · unfold flags
      rw [List.filter_cons_of_neg (by simp; omega)]
      exact cel_low r (by omega)
    · exact cel_low r h
theorem cel_flags : ∀ (r : List Int) {m s : Int}, 0 ≤ m → m < s → flags s (cel m r) = if s ≤ mx r then [dn r s] else []
  | [], m, s, h0, h => by
    have z : mx ([] : List Int) = 0 := rfl
    show [] = if s ≤ mx [] then [dn [] s] else []
    rw [z, if_neg (by omega)]
  | t :: r, m, s, h0, h => by
    have hm := mx_cons t r
    unfold cel
    by_cases h1 : m < ab t
    · rw [if_pos h1]
      by_cases h2 : s ≤ ab t
      · rw [dn_le h2, if_pos (by rw [hm]; split <;> omega)]
        unfold flags
        rw [List.filter_cons_of_pos (by simp; omega)]
        have := cel_low r (m := ab t) h2
        unfold flags at this
        rw [List.map_cons, this]
      · rw [dn_gt h2]
        have ih := cel_flags r (m := ab t) (s := s) (by omega) (by omega)
        unfold flags at ih ⊢
        rw [List.filter_cons_of_neg (by simp; omega), ih]
        by_cases h3 : s ≤ mx r
        · rw [if_pos h3, if_pos (by rw [hm]; split <;> omega)]
        · rw [if_neg h3, if_neg (by rw [hm]; split <;> omega)]
    · rw [if_neg h1, cel_flags r h0 h, dn_gt (by omega)]
      by_cases h3 : s ≤ mx r
      · rw [if_pos h3, if_pos (by rw [hm]; split <;> omega)]
      · rw [if_neg h3, if_neg (by rw [hm]; split <;> omega)]
def starts (cs : List Cl) : List Int := cs.map (·.a)
theorem cel_gt : ∀ (r : List Int) {m : Int}, ∀ x ∈ starts (cel m r), m < x
  | [], m, x, h => nomatch h
  | t :: r, m, x, h => by
    unfold cel at h
    split at h
    · rcases List.mem_cons.mp h with rfl | h
      · show m < m + 1
        omega
      · have := cel_gt r x h
        omega
    · exact cel_gt r x h
theorem cel_first : ∀ (r : List Int) {m : Int}, 0 ≤ m → m < mx r → (m + 1) ∈ starts (cel m r)
  | [], m, h0, h => by
    have z : mx ([] : List Int) = 0 := rfl
    omega
  | t :: r, m, h0, h => by
    rw [mx_cons] at h
    unfold cel
    by_cases h1 : m < ab t
    · rw [if_pos h1]
      exact List.mem_cons_self
    · rw [if_neg h1]
      exact cel_first r h0 (by split at h <;> omega)
theorem cel_mid : ∀ (r : List Int) {m s : Int}, 0 ≤ m → m + 1 < s → s ≤ mx r → s ∉ starts (cel m r) → dn r s = dn r (s - 1)
  | [], m, s, h0, h, h2, _ => rfl
  | t :: r, m, s, h0, h, h2, hn => by
    rw [mx_cons] at h2
    unfold cel at hn
    by_cases h1 : m < ab t
    · rw [if_pos h1] at hn
      have hn2 : s ∉ starts (cel (ab t) r) := fun z => hn (List.mem_cons_of_mem _ z)
      by_cases h3 : s ≤ ab t
      · rw [dn_le h3, dn_le (by omega)]
      · by_cases h4 : s = ab t + 1
        · exact absurd (by rw [h4]; exact cel_first r (by omega) (by split at h2 <;> omega)) hn2
        · rw [dn_gt h3, dn_gt (by omega)]
          exact cel_mid r (by omega) (by omega) (by split at h2 <;> omega) hn2
    · rw [if_neg h1] at hn
      rw [dn_gt (by omega), dn_gt (by omega)]
      exact cel_mid r h0 h (by split at h2 <;> omega) hn
/-- the least cell, up to e, in which they part is a start -/
theorem start_of {a b : List Int} {e : Int} (he1 : e ≤ mx a) (he2 : e ≤ mx b) : ∀ n : Nat, (n : Int) ≤ e → 1 ≤ n → dn a n ≠ dn b n → (∀ z : Int, 1 ≤ z → z < n → dn a z = dn b z) → (n : Int) ∈ starts (cel 0 a) ++ starts (cel 0 b) := fun n h1 h2 hd hb => by
  rw [List.mem_append]
  by_cases h3 : n = 1
  · subst h3
    exact .inl (cel_first a (m := 0) (Int.le_refl 0) (by omega))
  · by_cases h4 : (n : Int) ∈ starts (cel 0 a)
    · exact .inl h4
    · by_cases h5 : (n : Int) ∈ starts (cel 0 b)
      · exact .inr h5
      · have e1 := cel_mid a (m := 0) (s := n) (Int.le_refl 0) (by omega) (by omega) h4
        have e2 := cel_mid b (m := 0) (s := n) (Int.le_refl 0) (by omega) (by omega) h5
        exact absurd (by rw [e1, e2, hb _ (by omega) (by omega)]) hd
/-- what size_apart tells -/
structure SizeA (a b : List Int) (e S : Int) : Prop where
  of : (1 ≤ S ∧ S ≤ e ∧ dn a S ≠ dn b S ∧ ∀ z : Int, 1 ≤ z → z < S → dn a z = dn b z) ∨ (S = e + 1 ∧ ∀ z : Int, 1 ≤ z → z ≤ e → dn a z = dn b z)
theorem size_least {a b : List Int} (ha : NR a) (hb : NR b) (hne : a ≠ b) {e S : Int} (he : e = if mx b < mx a then mx b else mx a) (h : SizeA a b e S) : 1 ≤ S ∧ (∀ s, 0 ≤ s → s < S → Same a b s) ∧ ¬ Same a b S ∧ S ≤ e + 1 := by
  have za := mx_nonneg a
  have zb := mx_nonneg b
  have l1 : e ≤ mx a ∧ e ≤ mx b := by split at he <;> omega
  rcases h.of with ⟨h1, h2, h3, h4⟩ | ⟨rfl, h4⟩
  · exact ⟨h1, fun s k1 k2 => same_to ha hb k1 (by omega) (by omega) fun z z1 z2 => h4 z z1 (by omega), parts_at ha hb h1 (by omega) (by omega) h4 h3, by omega⟩
  · have : 0 ≤ e := by split at he <;> omega
    exact ⟨by omega, fun s k1 k2 => same_to ha hb k1 (by omega) (by omega) fun z z1 z2 => h4 z z1 (by omega), parts_end ha hb hne he h4, by omega⟩
/-- the search through ascending starts -/
theorem size_search {a b : List Int} {e : Int} (he1 : e ≤ mx a) (he2 : e ≤ mx b) (L : List Int) (hL : ∀ x, x ∈ L ↔ x ∈ starts (cel 0 a) ++ starts (cel 0 b)) (hs : L.Pairwise (· ≤ ·)) :
    (∃ p, L.find? (fun p => decide (p ≤ e) && decide (dn a p ≠ dn b p)) = some p ∧ SizeA a b e p) ∨ (L.find? (fun p => decide (p ≤ e) && decide (dn a p ≠ dn b p)) = none ∧ SizeA a b e (e + 1)) := by
  have pos : ∀ x ∈ L, 1 ≤ x := fun x hx => by
    rcases List.mem_append.mp ((hL x).mp hx) with h | h
    · have := cel_gt a x h
      omega
    · have := cel_gt b x h
      omega
  -- the first of all
  have key : ∀ n : Nat, (n : Int) ≤ e → (∃ z : Int, 1 ≤ z ∧ z ≤ n ∧ dn a z ≠ dn b z) → ∃ z : Int, 1 ≤ z ∧ z ≤ n ∧ dn a z ≠ dn b z ∧ ∀ y : Int, 1 ≤ y → y < z → dn a y = dn b y := by
    intro n
    induction n with
    | zero => rintro _ ⟨z, h1, h2, _⟩; omega
    | succ n ih =>
      rintro hn ⟨z, h1, h2, h3⟩
      by_cases q : ∃ z : Int, 1 ≤ z ∧ z ≤ n ∧ dn a z ≠ dn b z
      · obtain ⟨z, k1, k2, k3, k4⟩ := ih (by omega) q
        exact ⟨z, k1, by omega, k3, k4⟩
      · refine ⟨z, h1, h2, h3, fun y y1 y2 => ?_⟩
        by_cases k : dn a y = dn b y
        · exact k
        · exact absurd ⟨y, y1, by omega, k⟩ q
  by_cases q : ∃ z : Int, 1 ≤ z ∧ z ≤ (e.toNat : Int) ∧ dn a z ≠ dn b z
  · obtain ⟨z, k1, k2, k3, k4⟩ := key e.toNat (by obtain ⟨z, h1, h2, _⟩ := q; omega) q
    have hz : z ∈ L := (hL z).mpr (by
      have := start_of he1 he2 z.toNat (by omega) (by omega) (by rw [show ((z.toNat : Nat) : Int) = z by omega]; exact k3) fun y y1 y2 => k4 y y1 (by omega)
      rwa [show ((z.toNat : Nat) : Int) = z by omega] at this)
    left
    cases hf : L.find? (fun p => decide (p ≤ e) && decide (dn a p ≠ dn b p)) with
    | none =>
      have := List.find?_eq_none.mp hf z hz
      exact absurd (by simp; exact ⟨by omega, k3⟩) this
    | some p =>
      refine ⟨p, rfl, ⟨.inl ?_⟩⟩
      have hp := List.find?_some hf
      simp only [Bool.and_eq_true, decide_eq_true_eq] at hp
      have hm := List.mem_of_find?_eq_some hf
      have hpz : p = z := by
        by_cases h1 : p < z
        · exact absurd (k4 p (pos p hm) h1) hp.2
        · by_cases h2 : z < p
          · -- z stands ahead of p, and would have been found
            obtain ⟨xs, ys, rfl, hx⟩ := (List.find?_eq_some_iff_append.mp hf).2
            have hpw := List.pairwise_append.mp hs
            rcases List.mem_append.mp hz with h | h
            · have := hx z h
              simp only [Bool.not_eq_true', Bool.and_eq_false_iff, decide_eq_false_iff_not] at this
              rcases this with h | h
              · omega
              · exact absurd k3 (by simpa using h)
            · rcases List.mem_cons.mp h with rfl | h
              · omega
              · have := (List.pairwise_cons.mp hpw.2.1).1 z h
                omega
          · omega
      subst hpz
      exact ⟨k1, hp.1, k3, k4⟩
  · right
    have all : ∀ z : Int, 1 ≤ z → z ≤ e → dn a z = dn b z := fun z h1 h2 => by
      by_cases k : dn a z = dn b z
      · exact k
      · exact absurd ⟨z, h1, by omega, k⟩ q
    refine ⟨List.find?_eq_none.mpr fun x hx => ?_, ⟨.inr ⟨rfl, all⟩⟩⟩
    simp
    intro h
    exact all x (pos x hx) h
def riseA (s sh l h : Int) : Int := if l < h then l - sh else s
def effSh (sh l h : Int) : Int := if l < h then sh else 0
def scrollA (s : Int) (sa la ha sb lb hb : Int) : Int :=
  if la ≠ lb then 0 else if riseA s (effSh sa la ha) la ha ≠ riseA s (effSh sb lb hb) lb hb then (if riseA s (effSh sb lb hb) lb hb < riseA s (effSh sa la ha) la ha then riseA s (effSh sb lb hb) lb hb else riseA s (effSh sa la ha) la ha) + 1
  else (if hb < ha then hb else ha) - effSh sa la ha + 1
theorem scroll_least {a b : List Int} {s : Int} (h0 : 0 ≤ s) (h : ¬ Same a b s) : ∃ x, x = scrollA s (sm a) (back s a 0) (back s a s) (sm b) (back s b 0) (back s b s) ∧ 0 ≤ x ∧ x ≤ s ∧ back s a x ≠ back s b x ∧ ∀ y, 0 ≤ y → y < x → back s a y = back s b y := by
  have hy : ∃ y, 0 ≤ y ∧ y ≤ s ∧ back s a y ≠ back s b y := by
    by_cases q : ∃ y, 0 ≤ y ∧ y ≤ s ∧ back s a y ≠ back s b y
    · exact q
    · exact absurd (fun x h1 h2 => by
        by_cases k : back s a x = back s b x
        · exact k
        · exact absurd ⟨x, h1, h2, k⟩ q) h
  obtain ⟨y0, y1, y2, y3⟩ := hy
  have la := (form_of a (s := s) (x := 0) h0 (Int.le_refl 0) h0).1
  have lb := (form_of b (s := s) (x := 0) h0 (Int.le_refl 0) h0).1
  have fa := fun x h1 h2 => (form_of a (s := s) (x := x) h0 h1 h2).2
  have fb := fun x h1 h2 => (form_of b (s := s) (x := x) h0 h1 h2).2
  have a0 := fa 0 (Int.le_refl 0) h0
  have a1 := fa s h0 (Int.le_refl s)
  have b0 := fb 0 (Int.le_refl 0) h0
  have b1 := fb s h0 (Int.le_refl s)
  have ry := y3
  rw [fa y0 y1 y2, fb y0 y1 y2] at ry
  refine ⟨_, rfl, ?_⟩
  generalize back s a 0 = l1 at *
  generalize back s a s = k1 at *
  generalize back s b 0 = l2 at *
  generalize back s b s = k2 at *
  generalize sm a = s1 at *
  generalize sm b = s2 at *
  generalize hx : scrollA s s1 l1 k1 s2 l2 k2 = x
  have A : l1 < k1 → s1 ≤ l1 ∧ k1 ≤ s + s1 := by unfold cl2 at a0 a1; omega
  have B : l2 < k2 → s2 ≤ l2 ∧ k2 ≤ s + s2 := by unfold cl2 at b0 b1; omega
  have C : l1 = k1 → ∀ y, cl2 l1 k1 y = l1 := fun h y => by unfold cl2; omega
  have D : l2 = k2 → ∀ y, cl2 l2 k2 y = l2 := fun h y => by unfold cl2; omega
  have main : 0 ≤ x ∧ x ≤ s ∧ cl2 l1 k1 (x + s1) ≠ cl2 l2 k2 (x + s2) ∧ ∀ y, 0 ≤ y → y < x → cl2 l1 k1 (y + s1) = cl2 l2 k2 (y + s2) := by
    by_cases e1 : l1 = l2
    · subst e1
      unfold scrollA at hx
      rw [if_neg (by simp)] at hx
      by_cases q1 : l1 < k1
      · have A := A q1
        by_cases q2 : l1 < k2
        · have B := B q2
          have r1 : riseA s (effSh s1 l1 k1) l1 k1 = l1 - s1 := by unfold riseA effSh; rw [if_pos q1, if_pos q1]
          have r2 : riseA s (effSh s2 l1 k2) l1 k2 = l1 - s2 := by unfold riseA effSh; rw [if_pos q2, if_pos q2]
          have r3 : effSh s1 l1 k1 = s1 := if_pos q1
          rw [r1, r2, r3] at hx
          clear a0 a1 b0 b1 C D r1 r2 r3
          by_cases q3 : s1 = s2
          · subst q3
            rw [if_neg (by simp)] at hx
            unfold cl2 at ry
            refine ⟨by omega, by omega, by unfold cl2; omega, fun y z1 z2 => by unfold cl2; omega⟩
          · rw [if_pos (by omega)] at hx
            refine ⟨by omega, by omega, by unfold cl2; omega, fun y z1 z2 => by unfold cl2; omega⟩
        · have D := D (by omega)
          have r1 : riseA s (effSh s1 l1 k1) l1 k1 = l1 - s1 := by unfold riseA effSh; rw [if_pos q1, if_pos q1]
          have r2 : riseA s (effSh s2 l1 k2) l1 k2 = s := by unfold riseA; rw [if_neg q2]
          rw [r1, r2, if_pos (by omega)] at hx
          clear a0 a1 b0 b1
          refine ⟨by omega, by omega, by rw [D]; unfold cl2; omega, fun y z1 z2 => by rw [D]; unfold cl2; omega⟩
      · have C := C (by omega)
        by_cases q2 : l1 < k2
        · have B := B q2
          have r1 : riseA s (effSh s1 l1 k1) l1 k1 = s := by unfold riseA; rw [if_neg q1]
          have r2 : riseA s (effSh s2 l1 k2) l1 k2 = l1 - s2 := by unfold riseA effSh; rw [if_pos q2, if_pos q2]
          rw [r1, r2, if_pos (by omega)] at hx
          clear a0 a1 b0 b1
          refine ⟨by omega, by omega, by rw [C]; unfold cl2; omega, fun y z1 z2 => by rw [C]; unfold cl2; omega⟩
        · rw [C, D (by omega)] at ry
          exact absurd rfl ry
    · unfold scrollA at hx
      rw [if_pos e1] at hx
      subst hx
      exact ⟨Int.le_refl 0, h0, by rw [← a0, ← b0]; exact e1, fun y z1 z2 => by omega⟩
  refine ⟨main.1, main.2.1, ?_, fun y z1 z2 => ?_⟩
  · rw [fa x main.1 main.2.1, fb x main.1 main.2.1]
    exact main.2.2.1
  · rw [fa y z1 (by omega), fb y z1 (by omega)]
    exact main.2.2.2 y z1 z2
end Q

set_option linter.all false
set_option maxRecDepth 100000
namespace Q
def gat : List Int → List Int → List Int
  | acc, [] => acc
  | acc, t :: ts => if t = 0 then gat acc ts else match acc with
    | [] => gat [t] ts
    | h :: r => if (h > 0) = (t > 0) then gat ((h + t) :: r) ts else gat (t :: h :: r) ts
def AltR : List Int → Prop
  | [] => True
  | [a] => a ≠ 0
  | a :: b :: r => Op a b ∧ AltR (b :: r)
theorem AltR.tail : ∀ {a : Int} {r : List Int}, AltR (a :: r) → AltR r
  | _, [], _ => trivial
  | _, _ :: _, h => h.2
theorem AltR.ne : ∀ {a : Int} {r : List Int}, AltR (a :: r) → a ≠ 0
  | _, [], h => h
  | a, b :: r, h => by
    rcases h.1 with h | h <;> omega
theorem AltR.app : ∀ {xs ys : List Int}, AltR (xs ++ ys) → AltR ys
  | [], ys, h => h
  | x :: xs, ys, h => AltR.app (xs := xs) h.tail
theorem NR.alt : ∀ {r : List Int}, NR r → AltR r
  | [], _ => trivial
  | [a], h => h
  | [a, b], h => ⟨h, by
      rcases h with h | h
      · show b ≠ 0
        omega
      · show b ≠ 0
        omega⟩
  | a :: b :: c :: r, h => ⟨h.1, NR.alt h.2.2⟩
theorem not_same {h t : Int} (hh : h ≠ 0) (ht : t ≠ 0) (n : ¬ (h > 0) = (t > 0)) : Op t h := by
  have : ¬ (h > 0 ↔ t > 0) := fun z => n (propext z)
  unfold Op
  omega
theorem gat_ok : ∀ (ts : List Int) {acc : List Int}, AltR acc → AltR (gat acc ts) ∧ (gat acc ts).length ≤ acc.length + ts.length ∧ ∀ {s x : Int}, 0 ≤ s → 0 ≤ x → x ≤ s → back s (gat acc ts) x = led s ts (back s acc x)
  | [], acc, h => ⟨h, by unfold gat; exact Nat.le_refl _, fun {s x} _ _ _ => by unfold gat; rfl⟩
  | t :: ts, acc, h => by
    unfold gat
    by_cases ht : t = 0
    · rw [if_pos ht]
      obtain ⟨k1, k2, k3⟩ := gat_ok ts h
      refine ⟨k1, by rw [List.length_cons]; omega, fun {s x} h0 h1 h2 => ?_⟩
      rw [k3 h0 h1 h2]
      show _ = led s ts (cl s (back s acc x + t))
      have := back_in h0 acc h1 h2
      congr 1
      subst ht
      unfold cl
      omega
    · rw [if_neg ht]
      cases acc with
      | nil =>
        obtain ⟨k1, k2, k3⟩ := gat_ok ts (acc := [t]) ht
        exact ⟨k1, by simp at k2 ⊢; omega, fun {s x} h0 h1 h2 => k3 h0 h1 h2⟩
      | cons a r =>
        simp only []
        by_cases hs : (a > 0) = (t > 0)
        · rw [if_pos hs]
          have ha := h.ne
          obtain ⟨k1, k2, k3⟩ := gat_ok ts (acc := (a + t) :: r) (by
            have hs' : a > 0 ↔ t > 0 := by rw [hs]
            cases r with
            | nil =>
              show a + t ≠ 0
              omega
            | cons b r' =>
              refine ⟨?_, h.2⟩
              have := h.1
              unfold Op at this ⊢
              omega)
          refine ⟨k1, by simp at k2 ⊢; omega, fun {s x} h0 h1 h2 => ?_⟩
          rw [k3 h0 h1 h2]
          show led s ts (cl s (back s r x + (a + t))) = led s ts (cl s (cl s (back s r x + a) + t))
          have i := back_in h0 r h1 h2
          rw [join1 i.1 i.2 hs ha ht, Int.add_comm t a]
        · rw [if_neg hs]
          obtain ⟨k1, k2, k3⟩ := gat_ok ts (acc := t :: a :: r) ⟨not_same h.ne ht hs, h⟩
          exact ⟨k1, by simp at k2 ⊢; omega, fun {s x} h0 h1 h2 => k3 h0 h1 h2⟩
theorem gat_fix : ∀ (ts : List Int) {acc : List Int}, AltR (ts.reverse ++ acc) → gat acc ts = ts.reverse ++ acc
  | [], acc, _ => by
    unfold gat
    rfl
  | t :: ts, acc, h => by
    rw [List.reverse_cons, List.append_assoc] at h ⊢
    have h2 : AltR (t :: acc) := h.app
    unfold gat
    rw [if_neg h2.ne]
    cases acc with
    | nil => exact gat_fix ts (acc := [t]) h
    | cons a r =>
      simp only []
      rw [if_neg]
      · exact gat_fix ts (acc := t :: a :: r) h
      · intro e
        have op := h2.1
        have e' : a > 0 ↔ t > 0 := by rw [e]
        unfold Op at op
        omega
def at_ (F : List Int) (k : Nat) : Int := F.getD k 0
def Jn (F : List Int) (k : Nat) : Prop := 1 ≤ k ∧ k + 1 < F.length ∧ ab (at_ F k) ≤ ab (at_ F (k - 1)) ∧ ab (at_ F k) ≤ ab (at_ F (k + 1))
def J0 (F : List Int) : Prop := 2 < F.length ∧ ab (at_ F 0) < ab (at_ F 1) ∧ ab (at_ F 1) ≤ ab (at_ F 2)
theorem at_rev (F : List Int) {i : Nat} (h : i < F.length) : at_ F.reverse i = at_ F (F.length - 1 - i) := by
  unfold at_
  rw [List.getD_eq_getElem?_getD, List.getD_eq_getElem?_getD, List.getElem?_reverse h]
theorem nr_idx : ∀ {r : List Int}, AltR r → (∀ i, i + 2 < r.length → ab (at_ r i) < ab (at_ r (i + 1))) → NR r
  | [], _, _ => trivial
  | [a], h, _ => h
  | [a, b], h, _ => h.1
  | a :: b :: c :: r, h, hd => ⟨h.1, hd 0 (by simp), nr_idx h.2 fun i hi => hd (i + 1) (by simp at hi ⊢; omega)⟩
theorem idx_nr : ∀ {r : List Int}, NR r → ∀ i, i + 2 < r.length → ab (at_ r i) < ab (at_ r (i + 1))
  | [], _, i, hi => absurd hi (by simp)
  | [a], _, i, hi => absurd hi (by simp)
  | [a, b], _, i, hi => absurd hi (by simp)
  | a :: b :: c :: r, h, 0, hi => h.2.1
  | a :: b :: c :: r, h, i + 1, hi => idx_nr h.2.2 i (by simp at hi ⊢; omega)
/-- from the third turn on each is lesser -/
theorem falls {F : List Int} (hJ : ∀ k, ¬ Jn F k) (h0 : ¬ J0 F) : ∀ i, 2 ≤ i → i < F.length → ab (at_ F i) < ab (at_ F (i - 1))
  | 0, h, _ => absurd h (by decide)
  | 1, h, _ => absurd h (by decide)
  | 2, _, h => by
    by_cases q : ab (at_ F 2) < ab (at_ F 1)
    · exact q
    · exfalso
      by_cases q2 : ab (at_ F 0) < ab (at_ F 1)
      · exact h0 ⟨h, q2, by omega⟩
      · exact hJ 1 ⟨Nat.le_refl 1, h, by show ab (at_ F 1) ≤ ab (at_ F 0); omega, by show ab (at_ F 1) ≤ ab (at_ F 2); omega⟩
  | i + 3, _, h => by
    have ih := falls hJ h0 (i + 2) (by omega) (by omega)
    by_cases q : ab (at_ F (i + 3)) < ab (at_ F (i + 2))
    · exact q
    · exfalso
      have ih : ab (at_ F (i + 2)) < ab (at_ F (i + 1)) := ih
      exact hJ (i + 2) ⟨by omega, h, by show ab (at_ F (i + 2)) ≤ ab (at_ F (i + 1)); omega, by show ab (at_ F (i + 2)) ≤ ab (at_ F (i + 3)); omega⟩
theorem nr_of {F : List Int} (hA : AltR F.reverse) (hJ : ∀ k, ¬ Jn F k) (h0 : ¬ J0 F) : NR F.reverse := nr_idx hA fun i hi => by
  rw [List.length_reverse] at hi
  rw [at_rev F (by omega), at_rev F (by omega)]
  have := falls hJ h0 (F.length - 1 - i) (by omega) (by omega)
  rw [show F.length - 1 - (i + 1) = F.length - 1 - i - 1 by omega]
  exact this
theorem falls_nr {F : List Int} (h : NR F.reverse) {i : Nat} (h1 : 2 ≤ i) (h2 : i < F.length) : ab (at_ F i) < ab (at_ F (i - 1)) := by
  have := idx_nr h (F.length - 1 - i) (by rw [List.length_reverse]; omega)
  rw [at_rev F (by omega), at_rev F (by omega)] at this
  rw [show F.length - 1 - (F.length - 1 - i) = i by omega, show F.length - 1 - (F.length - 1 - i + 1) = i - 1 by omega] at this
  exact this
theorem of_nr {F : List Int} (h : NR F.reverse) : (∀ k, ¬ Jn F k) ∧ ¬ J0 F := by
  refine ⟨fun k hk => ?_, fun hk => ?_⟩
  · obtain ⟨h1, h2, h3, h4⟩ := hk
    have := falls_nr h (i := k + 1) (by omega) h2
    have this : ab (at_ F (k + 1)) < ab (at_ F k) := this
    omega
  · obtain ⟨h1, h2, h3⟩ := hk
    have := falls_nr h (i := 2) (Nat.le_refl 2) h1
    have this : ab (at_ F 2) < ab (at_ F 1) := this
    omega
def joinF (F : List Int) (k : Nat) : List Int := F.take (k - 1) ++ [at_ F (k - 1) + at_ F k + at_ F (k + 1)] ++ F.drop (k + 2)
def join0 (F : List Int) : List Int := (at_ F 0 + at_ F 1) :: F.drop 2
theorem split3 {F : List Int} {k : Nat} (h1 : 1 ≤ k) (h2 : k + 1 < F.length) : F = F.take (k - 1) ++ at_ F (k - 1) :: at_ F k :: at_ F (k + 1) :: F.drop (k + 2) := by
  have g : ∀ i, i < F.length → F.drop i = at_ F i :: F.drop (i + 1) := fun i hi => by
    rw [List.drop_eq_getElem_cons hi]
    unfold at_
    rw [List.getD_eq_getElem?_getD, List.getElem?_eq_getElem hi]
    rfl
  have e1 := g (k - 1) (by omega)
  have e2 := g k (by omega)
  have e3 := g (k + 1) h2
  rw [show k - 1 + 1 = k by omega] at e1
  rw [← e3, ← e2, ← e1, List.take_append_drop]
theorem joinF_led {F : List Int} {k : Nat} (hA : AltR F.reverse) (h : Jn F k) {s x : Int} (h0 : 0 ≤ s) (hx : 0 ≤ x) (hx2 : x ≤ s) : led s (joinF F k) x = led s F x := by
  obtain ⟨h1, h2, h3, h4⟩ := h
  have e := split3 h1 h2
  have hA2 : AltR (at_ F (k + 1) :: at_ F k :: at_ F (k - 1) :: (F.take (k - 1)).reverse) := by
    have hA3 := hA
    rw [e] at hA3
    rw [List.reverse_append, List.reverse_cons, List.reverse_cons, List.reverse_cons, List.append_assoc, List.append_assoc, List.append_assoc] at hA3
    exact hA3.app
  have e2 : led s F x = led s (F.take (k - 1) ++ at_ F (k - 1) :: at_ F k :: at_ F (k + 1) :: F.drop (k + 2)) x := congrArg (fun z => led s z x) e
  rw [e2, led_app]
  unfold joinF
  rw [led_app, led_app]
  have i := led_in h0 (F.take (k - 1)) hx hx2
  show led s (F.drop (k + 2)) (cl s (led s (F.take (k - 1)) x + _)) = led s (F.drop (k + 2)) (cl s (cl s (cl s (led s (F.take (k - 1)) x + at_ F (k - 1)) + at_ F k) + at_ F (k + 1)))
  rw [join3 i.1 i.2 hA2.2.1 hA2.1 h3 h4]
  congr 2
  omega
theorem join0_led {F : List Int} (hA : AltR F.reverse) (h : J0 F) {s x : Int} (h0 : 0 ≤ s) (hx : 0 ≤ x) (hx2 : x ≤ s) : led s (join0 F) x = led s F x := by
  obtain ⟨h1, h2, h3⟩ := h
  have e := split3 (F := F) (k := 1) (Nat.le_refl 1) h1
  have e : F = at_ F 0 :: at_ F 1 :: at_ F 2 :: F.drop 3 := e
  have hA2 : AltR [at_ F 2, at_ F 1, at_ F 0] := by
    have hA3 := hA
    rw [e] at hA3
    rw [List.reverse_cons, List.reverse_cons, List.reverse_cons, List.append_assoc, List.append_assoc] at hA3
    exact hA3.app
  have e2 : led s F x = led s (at_ F 0 :: at_ F 1 :: at_ F 2 :: F.drop 3) x := congrArg (fun z => led s z x) e
  have e3 : F.drop 2 = at_ F 2 :: F.drop 3 := congrArg (List.drop 2) e
  rw [e2]
  unfold join0
  rw [e3]
  show led s (F.drop 3) (cl s (cl s (x + (at_ F 0 + at_ F 1)) + at_ F 2)) = led s (F.drop 3) (cl s (cl s (cl s (x + at_ F 0) + at_ F 1) + at_ F 2))
  rw [join2 hx hx2 hA2.2.1 hA2.1 (by omega) h3]
theorem joinF_len {F : List Int} {k : Nat} (h : Jn F k) : (joinF F k).length + 2 = F.length := by
  obtain ⟨h1, h2, _⟩ := h
  unfold joinF
  simp
  omega
theorem join0_len {F : List Int} (h : J0 F) : (join0 F).length + 1 = F.length := by
  obtain ⟨h1, _⟩ := h
  unfold join0
  simp
  omega
/-- what is left of joinings is the short form -/
theorem done_ {F ts : List Int} (hA : AltR F.reverse) (hJ : ∀ k, ¬ Jn F k) (h0 : ¬ J0 F) (h : ∀ s x, 0 ≤ s → 0 ≤ x → x ≤ s → led s F x = led s ts x) : F.reverse = form ts :=
  same_eq (nr_of hA hJ h0) (form_nr ts) fun s hs x h1 h2 => by
    rw [back_led, List.reverse_reverse, form_led ts hs h1 h2]
    exact h s x hs h1 h2
theorem ab_mul {g : Int} (hg : 0 < g) (a : Int) : ab (a * g) = ab a * g := by
  unfold ab
  by_cases h : a < 0
  · rw [if_pos h, if_pos (Int.mul_neg_of_neg_of_pos h hg), Int.neg_mul]
  · rw [if_neg h, if_neg (by have := Int.mul_nonneg (show 0 ≤ a by omega) (Int.le_of_lt hg); omega)]
theorem pos_mul {g : Int} (hg : 0 < g) (a : Int) : (a * g > 0) = (a > 0) := propext ⟨fun h => by
  by_cases q : a > 0
  · exact q
  · have := Int.mul_nonneg (show 0 ≤ -a by omega) (Int.le_of_lt hg)
    rw [Int.neg_mul] at this
    omega, fun h => Int.mul_pos h hg⟩
theorem le_mul {g : Int} (hg : 0 < g) (a b : Int) : a * g ≤ b * g ↔ a ≤ b := ⟨fun h => Int.le_of_mul_le_mul_right h hg, fun h => Int.mul_le_mul_of_nonneg_right h (Int.le_of_lt hg)⟩
theorem add_mul_ {g : Int} (hg : 0 < g) : ∀ (n : Nat) (fs : List Int) (w : Int), add n (fs.map (· * g)) (w * g) = (add n fs w).map (· * g)
  | 0, fs, w => rfl
  | n + 1, fs, w => by
    unfold add
    by_cases hw : w = 0
    · rw [if_pos hw, if_pos (by rw [hw, Int.zero_mul])]
    · rw [if_neg hw, if_neg (fun h => hw ((Int.mul_eq_zero.mp h).resolve_right (by omega)))]
      cases fs with
      | nil => rfl
      | cons f r =>
        simp only [List.map_cons, pos_mul hg]
        by_cases hs : (f > 0) = (w > 0)
        · rw [if_pos hs, if_pos hs, ← Int.add_mul, add_mul_ hg n r]
        · rw [if_neg hs, if_neg hs]
          cases r with
          | nil => rfl
          | cons b r' =>
            simp only [List.map_cons, ab_mul hg]
            by_cases h1 : ab f ≤ ab w
            · rw [if_pos h1, if_pos ((le_mul hg _ _).mpr h1)]
              by_cases h2 : ab f ≤ ab b
              · rw [if_pos h2, if_pos ((le_mul hg _ _).mpr h2), ← Int.add_mul, ← Int.add_mul, add_mul_ hg n r']
              · rw [if_neg h2, if_neg fun z => h2 ((le_mul hg _ _).mp z), ← Int.add_mul]
                exact add_mul_ hg n ((b + f) :: r') w
            · rw [if_neg h1, if_neg fun z => h1 ((le_mul hg _ _).mp z)]
              simp
theorem formR_mul {g : Int} (hg : 0 < g) : ∀ (ts acc : List Int), formR (acc.map (· * g)) (ts.map (· * g)) = (formR acc ts).map (· * g)
  | [], acc => rfl
  | t :: ts, acc => by
    show formR (addW (acc.map (· * g)) (t * g)) (ts.map (· * g)) = (formR (addW acc t) ts).map (· * g)
    have : addW (acc.map (· * g)) (t * g) = (addW acc t).map (· * g) := by
      unfold addW
      rw [List.length_map]
      exact add_mul_ hg _ acc t
    rw [this]
    exact formR_mul hg ts _
theorem form_mul {g : Int} (hg : 0 < g) (ts : List Int) : form (ts.map (· * g)) = (form ts).map (· * g) := formR_mul hg ts []
end Q

set_option Elab.async false
set_option linter.all false
set_option maxRecDepth 100000
set_option maxHeartbeats 0
namespace LW
open PySem PySem.Spec PyProof.Rows L2 VL
def topS (i : Nat) : Stmt := PySem.Challenge.pw_listworks_k38_whole_short_forms_joined_i.main.body.getD i (.Pass ⟨0, 0, 0, 0⟩)
abbrev s_l_law_well : Stmt := topS 18
theorem sc_l_law_well : FnScope ["script", "greats", "mixed", "at", "cell"] ["script"] (defScope s_l_law_well) := ⟨rfl, rfl, rfl, by decide +kernel, rfl, by decide +kernel, by decide +kernel⟩
abbrev s_l_law_dip : Stmt := topS 19
theorem sc_l_law_dip : FnScope ["well", "many", "greats", "one"] ["well", "many"] (defScope s_l_law_dip) := ⟨rfl, rfl, rfl, by decide +kernel, rfl, by decide +kernel, by decide +kernel⟩
abbrev s_l_law_one : Stmt := topS 20
theorem sc_l_law_one : FnScope ["well", "items"] ["well", "items"] (defScope s_l_law_one) := ⟨rfl, rfl, rfl, by decide +kernel, rfl, by decide +kernel, by decide +kernel⟩
abbrev s_l_law_turned : Stmt := topS 26
theorem sc_l_law_turned : FnScope ["well", "turns", "at", "way", "part", "sign", "back"] ["well", "turns"] (defScope s_l_law_turned) := ⟨rfl, rfl, rfl, by decide +kernel, rfl, by decide +kernel, by decide +kernel⟩
abbrev s_l_law_led : Stmt := topS 22
theorem sc_l_law_led : FnScope ["size", "turns", "scroll", "turn"] ["size", "turns", "scroll"] (defScope s_l_law_led) := ⟨rfl, rfl, rfl, by decide +kernel, rfl, by decide +kernel, by decide +kernel⟩
abbrev s_l_law_is_like : Stmt := topS 27
theorem sc_l_law_is_like : FnScope ["one", "other", "size", "room", "scroll"] ["one", "other", "size"] (defScope s_l_law_is_like) := ⟨rfl, rfl, rfl, by decide +kernel, rfl, by decide +kernel, by decide +kernel⟩
abbrev s_l_law_gathered : Stmt := topS 23
theorem sc_l_law_gathered : FnScope ["turns", "found", "turn"] ["turns"] (defScope s_l_law_gathered) := ⟨rfl, rfl, rfl, by decide +kernel, rfl, by decide +kernel, by decide +kernel⟩
abbrev s_l_law_joinings : Stmt := topS 24
theorem sc_l_law_joinings : FnScope ["turns", "found", "at"] ["turns"] (defScope s_l_law_joinings) := ⟨rfl, rfl, rfl, by decide +kernel, rfl, by decide +kernel, by decide +kernel⟩
abbrev s_l_law_short : Stmt := topS 25
theorem sc_l_law_short : FnScope ["well", "turns", "found", "at"] ["well", "turns"] (defScope s_l_law_short) := ⟨rfl, rfl, rfl, by decide +kernel, rfl, by decide +kernel, by decide +kernel⟩
abbrev s_add_turn : Stmt := topS 5
theorem sc_add_turn : FnScope ["form", "turn", "waiting", "middle"] ["form", "turn"] (defScope s_add_turn) := ⟨rfl, rfl, rfl, by decide +kernel, rfl, by decide +kernel, by decide +kernel⟩
abbrev s_form_in : Stmt := topS 6
theorem sc_form_in : FnScope ["turns", "found", "turn"] ["turns"] (defScope s_form_in) := ⟨rfl, rfl, rfl, by decide +kernel, rfl, by decide +kernel, by decide +kernel⟩
abbrev s_short_form : Stmt := topS 7
theorem sc_short_form : FnScope ["turns"] ["turns"] (defScope s_short_form) := ⟨rfl, rfl, rfl, by decide +kernel, rfl, by decide +kernel, by decide +kernel⟩
abbrev s_l_law_alike : Stmt := topS 21
theorem sc_l_law_alike : FnScope ["found", "due", "at", "one"] ["found", "due"] (defScope s_l_law_alike) := ⟨rfl, rfl, rfl, by decide +kernel, rfl, by decide +kernel, by decide +kernel⟩
abbrev s_turns_alike : Stmt := topS 9
theorem sc_turns_alike : FnScope ["one", "other"] ["one", "other"] (defScope s_turns_alike) := ⟨rfl, rfl, rfl, by decide +kernel, rfl, by decide +kernel, by decide +kernel⟩
abbrev s_cells_of : Stmt := topS 10
theorem sc_cells_of : FnScope ["form", "found", "reached", "turn"] ["form"] (defScope s_cells_of) := ⟨rfl, rfl, rfl, by decide +kernel, rfl, by decide +kernel, by decide +kernel⟩
abbrev s_last_cell : Stmt := topS 11
theorem sc_last_cell : FnScope ["cells"] ["cells"] (defScope s_last_cell) := ⟨rfl, rfl, rfl, by decide +kernel, rfl, by decide +kernel, by decide +kernel⟩
abbrev s_is_down_at : Stmt := topS 12
theorem sc_is_down_at : FnScope ["cells", "place", "first", "last", "is_down"] ["cells", "place"] (defScope s_is_down_at) := ⟨rfl, rfl, rfl, by decide +kernel, rfl, by decide +kernel, by decide +kernel⟩
abbrev s_size_apart : Stmt := topS 13
theorem sc_size_apart : FnScope ["one", "other", "first", "second", "end", "place", "cell"] ["one", "other"] (defScope s_size_apart) := ⟨rfl, rfl, rfl, by decide +kernel, rfl, by decide +kernel, by decide +kernel⟩
abbrev s_rise_of : Stmt := topS 14
theorem sc_rise_of : FnScope ["size", "effect", "shift", "low", "high"] ["size", "effect"] (defScope s_rise_of) := ⟨rfl, rfl, rfl, by decide +kernel, rfl, by decide +kernel, by decide +kernel⟩
abbrev s_scroll_apart : Stmt := topS 15
theorem sc_scroll_apart : FnScope ["size", "one", "other", "first", "second"] ["size", "one", "other"] (defScope s_scroll_apart) := ⟨rfl, rfl, rfl, by decide +kernel, rfl, by decide +kernel, by decide +kernel⟩
abbrev s_effect_from : Stmt := topS 2
theorem sc_effect_from : FnScope ["shift", "low", "high"] ["shift", "low", "high"] (defScope s_effect_from) := ⟨rfl, rfl, rfl, by decide +kernel, rfl, by decide +kernel, by decide +kernel⟩
abbrev s_between : Stmt := topS 1
theorem sc_between : FnScope ["number", "least", "greatest"] ["number", "least", "greatest"] (defScope s_between) := ⟨rfl, rfl, rfl, by decide +kernel, rfl, by decide +kernel, by decide +kernel⟩
abbrev s_effect_in : Stmt := topS 3
theorem sc_effect_in : FnScope ["size", "turns", "low", "high", "turn"] ["size", "turns"] (defScope s_effect_in) := ⟨rfl, rfl, rfl, by decide +kernel, rfl, by decide +kernel, by decide +kernel⟩
abbrev s_room_apart : Stmt := topS 16
theorem sc_room_apart : FnScope ["one", "other", "first", "second", "size"] ["one", "other"] (defScope s_room_apart) := ⟨rfl, rfl, rfl, by decide +kernel, rfl, by decide +kernel, by decide +kernel⟩
abbrev s_is_short : Stmt := topS 8
theorem sc_is_short : FnScope ["turns"] ["turns"] (defScope s_is_short) := ⟨rfl, rfl, rfl, by decide +kernel, rfl, by decide +kernel, by decide +kernel⟩
abbrev s_l_law_right : Stmt := topS 28
theorem sc_l_law_right : FnScope ["well", "most", "one", "other", "turns", "due", "told", "is_due", "apart", "is_like", "great", "far", "wide", "turn", "at"] ["well"] (defScope s_l_law_right) := ⟨rfl, rfl, rfl, by decide +kernel, rfl, by decide +kernel, by decide +kernel⟩
abbrev s_law : Stmt := topS 29
theorem sc_law : FnScope ["script", "well", "turn", "far", "great"] ["script"] (defScope s_law) := ⟨rfl, rfl, rfl, by decide +kernel, rfl, by decide +kernel, by decide +kernel⟩
structure Txt (P : Program) (K : PySem.W.Frag) (mg : Str → Option Value) where
  l_law_well : Fnt K mg "_law_well" s_l_law_well ["script"]
  l_law_dip : Fnt K mg "_law_dip" s_l_law_dip ["well", "many"]
  l_law_one : Fnt K mg "_law_one" s_l_law_one ["well", "items"]
  l_law_turned : Fnt K mg "_law_turned" s_l_law_turned ["well", "turns"]
  l_law_led : Fnt K mg "_law_led" s_l_law_led ["size", "turns", "scroll"]
  l_law_is_like : Fnt K mg "_law_is_like" s_l_law_is_like ["one", "other", "size"]
  l_law_gathered : Fnt K mg "_law_gathered" s_l_law_gathered ["turns"]
  l_law_joinings : Fnt K mg "_law_joinings" s_l_law_joinings ["turns"]
  l_law_short : Fnt K mg "_law_short" s_l_law_short ["well", "turns"]
  add_turn : Fnt K mg "add_turn" s_add_turn ["form", "turn"]
  form_in : Fnt K mg "form_in" s_form_in ["turns"]
  short_form : Fnt K mg "short_form" s_short_form ["turns"]
  l_law_alike : Fnt K mg "_law_alike" s_l_law_alike ["found", "due"]
  turns_alike : Fnt K mg "turns_alike" s_turns_alike ["one", "other"]
  cells_of : Fnt K mg "cells_of" s_cells_of ["form"]
  last_cell : Fnt K mg "last_cell" s_last_cell ["cells"]
  is_down_at : Fnt K mg "is_down_at" s_is_down_at ["cells", "place"]
  size_apart : Fnt K mg "size_apart" s_size_apart ["one", "other"]
  rise_of : Fnt K mg "rise_of" s_rise_of ["size", "effect"]
  scroll_apart : Fnt K mg "scroll_apart" s_scroll_apart ["size", "one", "other"]
  effect_from : Fnt K mg "effect_from" s_effect_from ["shift", "low", "high"]
  between : Fnt K mg "between" s_between ["number", "least", "greatest"]
  effect_in : Fnt K mg "effect_in" s_effect_in ["size", "turns"]
  room_apart : Fnt K mg "room_apart" s_room_apart ["one", "other"]
  is_short : Fnt K mg "is_short" s_is_short ["turns"]
  l_law_right : Fnt K mg "_law_right" s_l_law_right ["well"]
  law : Fnt K mg "law" s_law ["script"]
  n_abs : mg "abs" = none
  n_all : mg "all" = none
  n_bool : mg "bool" = none
  n_dict : mg "dict" = none
  n_enumerate : mg "enumerate" = none
  n_int : mg "int" = none
  n_isinstance : mg "isinstance" = none
  n_len : mg "len" = none
  n_list : mg "list" = none
  n_max : mg "max" = none
  n_min : mg "min" = none
  n_range : mg "range" = none
  n_sorted : mg "sorted" = none
  n_str : mg "str" = none
  n_sum : mg "sum" = none
  n_tuple : mg "tuple" = none
def S_l_law_well_1 : Fs := (asgS 1 (lcE [4] (srcC anyLD [(.pk 0)]) (nameG 4) (tstE (op2 (cmpI fun i j => decide (j ≤ i)) (.val (opN absD [(.val (opN intD [(.pk 4)]))])) (.val (op2 powD (.val (cE (.int 10))) (.val (cE (.int 18))))))) (op2 subD (.val (opN absD [(.val (opN intD [(.pk 4)]))])) (.val (op2 powD (.val (cE (.int 10))) (.val (cE (.int 18))))))))
def S_l_law_well_2 : Fs := (asgZ 2 (cE (.int 11)))
def S_l_law_well_3_1 : Fs := (asgZ 2 (op2 modD (.val (opN intD [(.val (op2 addD (.val (op2 addD (.val (op2 mulD (.val (op2 addD (.pk 2) (.val (opN intD [(.pk 4)])))) (.val (cE (.int 2862933555777941757))))) (.val (op2 mulD (.val (op2 addD (.pk 3) (.val (cE (.int 5))))) (.val (opN intD [(.pk 4)])))))) (.val (cE (.int 3037)))))])) (.val (op2 addD (.val (op2 powD (.val (cE (.int 10))) (.val (cE (.int 41))))) (.val (cE (.int 3)))))))
def S_l_law_well_3 : Fs := (forS (srcC enumSD [(.pk 0)]) (tupG [3, 4])
  S_l_law_well_3_1)
def S_l_law_well_4 : Fs := (retS (lstO (.val (mvE 1) :: [(.pk 2), (.val (cE (.int 0)))])))
def B_l_law_well : Fs := (seqS S_l_law_well_1 (seqS S_l_law_well_2 (seqS S_l_law_well_3 S_l_law_well_4)))
def F_l_law_well : Fe := bodyF [] 4 B_l_law_well
theorem ok_l_law_well {P : Program} {w : World} {K : PySem.W.Frag} {mg : Str → Option Value} {base : Heap} (T : Txt P K mg) : FnV P w K mg base 1 T.l_law_well.f T.l_law_well.fd ["script"] F_l_law_well :=
  fn_mk T.l_law_well.F sc_l_law_well rfl fun cdv A outer s H E hr =>
    (b_cons (s_setLc (i := 1) (own := [("cell", 4)]) (pn := [0, 1, 2, 3]) (vs := [4]) rfl sc_l_law_well.nd rfl rfl (by rfl) (sw_true rfl rfl rfl (by decide +kernel)) (i_any (v_pk 0 (pv 0))) (blkOk_by (own := [("cell", 4)]) (N := ["script", "greats", "mixed", "at", "cell"]) (sc := (defScope s_l_law_well)) (by decide +kernel)) (fun _ _ _ _ _ => (g_name (pg_name (i := 4) sc_l_law_well.nd rfl (by first | exact .inl rfl | exact .inr rfl)) (by rfl))) (fun _ _ _ _ _ => (ts_one (t_cmp op_geD (v_val (v_callB cr_abs (by rfl) T.n_abs (by decide +kernel) (va_cons (v_val (v_callTy cr_int (by rfl) T.n_int (by decide +kernel) (va_cons (v_pk 4 (pv 4)) va_nil))) va_nil))) (v_val (v_bin op_powD (v_val v_int) (v_val v_int)))))) (fun _ _ _ _ _ => (v_bin op_subD (v_val (v_callB cr_abs (by rfl) T.n_abs (by decide +kernel) (va_cons (v_val (v_callTy cr_int (by rfl) T.n_int (by decide +kernel) (va_cons (v_pk 4 (pv 4)) va_nil))) va_nil))) (v_val (v_bin op_powD (v_val v_int) (v_val v_int))))) rfl (by decide) (by rfl))
    (b_cons (s_setZ (i := 2) sc_l_law_well.nd rfl (.inl rfl) (by rfl) v_int)
    (b_cons (s_for (passes_of rfl) (by rfl) (i_enumS (by rfl) T.n_enumerate (va_cons (v_pk 0 (pv 0)) va_nil)) (g_tup (by rfl) (gs_cons (pg_name (i := 3) sc_l_law_well.nd rfl (by first | exact .inl rfl | exact .inr rfl)) (by rfl) (gs_cons (pg_name (i := 4) sc_l_law_well.nd rfl (by first | exact .inl rfl | exact .inr rfl)) (by rfl) gs_nil)))
    (b_one (s_setZ (i := 2) sc_l_law_well.nd rfl (.inl rfl) (by rfl) (v_bin op_modD (v_val (v_callTy cr_int (by rfl) T.n_int (by decide +kernel) (va_cons (v_val (v_bin op_addD (v_val (v_bin op_addD (v_val (v_bin op_mulD (v_val (v_bin op_addD (v_pk 2 (pv 2)) (v_val (v_callTy cr_int (by rfl) T.n_int (by decide +kernel) (va_cons (v_pk 4 (pv 4)) va_nil))))) (v_val v_int))) (v_val (v_bin op_mulD (v_val (v_bin op_addD (v_pk 3 (pv 3)) (v_val v_int))) (v_val (v_callTy cr_int (by rfl) T.n_int (by decide +kernel) (va_cons (v_pk 4 (pv 4)) va_nil))))))) (v_val v_int))) va_nil))) (v_val (v_bin op_addD (v_val (v_bin op_powD (v_val v_int) (v_val v_int))) (v_val v_int)))))))
    (b_one (s_ret (v_lstO (va_cons (v_val (v_mv (pv 1))) (va_cons (v_pk 2 (pv 2)) (va_cons (v_val v_int) va_nil)))))))))
def S_l_law_dip_1a_1 : Fs := (asgZ 3 (opN intD [(.val (op2 ixD (.pk 2) (.val (cE (.int 0)))))]))
def S_l_law_dip_1a_2 : Fs := (setI 2 (op2 fdivD (.pk 3) (.pk 1)) (cE (.int 0)))
def S_l_law_dip_1a_3 : Fs := (ifS (tstE (op2 ltD (.val (op2 ixD (.pk 2) (.val (cE (.int 0))))) (.val (cE (.int 2)))))
  (dropS (mutE 2 popAtD [(.val (cE (.int 0)))]))
  nilS)
def S_l_law_dip_1a_4 : Fs := (retS (op2 modD (.pk 3) (.pk 1)))
def S_l_law_dip_1 : Fs := (ifS (tstE (op2 neD (.pk 2) (.val (opC lstC []))))
  (seqS S_l_law_dip_1a_1 (seqS S_l_law_dip_1a_2 (seqS S_l_law_dip_1a_3 S_l_law_dip_1a_4)))
  nilS)
def S_l_law_dip_2 : Fs := (setI 0 (op2 addD (.val (op2 ixD (.pk 0) (.val (cE (.int 2))))) (.val (cE (.int 1)))) (cE (.int 2)))
def S_l_law_dip_3 : Fs := (asgZ 3 (op2 modD (.val (opN intD [(.val (op2 mulD (.val (op2 addD (.val (op2 ixD (.pk 0) (.val (cE (.int 1))))) (.val (op2 mulD (.val (cE (.int 32452867))) (.val (op2 ixD (.pk 0) (.val (cE (.int 2))))))))) (.val (op2 addD (.val (op2 modD (.val (op2 ixD (.pk 0) (.val (cE (.int 1))))) (.val (cE (.int 1000003))))) (.val (op2 mulD (.val (cE (.int 7))) (.val (op2 ixD (.pk 0) (.val (cE (.int 2)))))))))))])) (.val (op2 addD (.val (op2 powD (.val (cE (.int 10))) (.val (cE (.int 37))))) (.val (cE (.int 43)))))))
def S_l_law_dip_4 : Fs := (asgZ 3 (op2 modD (.val (opN intD [(.val (op2 addD (.val (op2 addD (.val (op2 mulD (.pk 3) (.pk 3))) (.val (op2 ixD (.pk 0) (.val (cE (.int 1))))))) (.val (op2 ixD (.pk 0) (.val (cE (.int 2)))))))])) (.val (op2 addD (.val (op2 powD (.val (cE (.int 10))) (.val (cE (.int 31))))) (.val (cE (.int 33)))))))
def S_l_law_dip_5 : Fs := (retS (op2 modD (.val (opN intD [(.val (op2 fdivD (.pk 3) (.val (cE (.int 100003)))))])) (.pk 1)))
def B_l_law_dip : Fs := (seqS S_l_law_dip_1 (seqS S_l_law_dip_2 (seqS S_l_law_dip_3 (seqS S_l_law_dip_4 S_l_law_dip_5))))
def F_l_law_dip : Fe := dipF
theorem D_l_law_dip : DipOk dipF B_l_law_dip := dip_of (fun b m c many hm h1 h2 => by
    have hf : fOk 100003 = true := by decide
    unfold dipOne at h2
    refine ⟨.d (.int (dipTwo m (c + 1))), ?_⟩
    have h3 : mulOk ((m + 32452867 * (c + 1)) * (m % 1000003 + 7 * (c + 1)) % 10000000000000000000000000000000000043) ((m + 32452867 * (c + 1)) * (m % 1000003 + 7 * (c + 1)) % 10000000000000000000000000000000000043) = true := h2
    simp only [dipTwo, dipOne]
    simp [B_l_law_dip, S_l_law_dip_1, S_l_law_dip_2, S_l_law_dip_3, S_l_law_dip_4, S_l_law_dip_5, hm, h1, h3, hf, mulOk_l, mulOk_r]) fun b m c many g rest hm h1 hn => by
    by_cases hg : g / many < 2
    · exact ⟨.d (.int g), by simp [B_l_law_dip, S_l_law_dip_1, S_l_law_dip_1a_1, S_l_law_dip_1a_2, S_l_law_dip_1a_3, S_l_law_dip_1a_4, hm, h1, hg, hn]⟩
    · exact ⟨.d (.int g), by simp [B_l_law_dip, S_l_law_dip_1, S_l_law_dip_1a_1, S_l_law_dip_1a_2, S_l_law_dip_1a_3, S_l_law_dip_1a_4, hm, h1, hg, hn]⟩
theorem ok_l_law_dip {P : Program} {w : World} {K : PySem.W.Frag} {mg : Str → Option Value} {base : Heap} (T : Txt P K mg) : FnV P w K mg base 1 T.l_law_dip.f T.l_law_dip.fd ["well", "many"] F_l_law_dip :=
  (fn_dip T.l_law_dip.F sc_l_law_dip D_l_law_dip rfl (fun cdv A outer s H E hr => ps_set (i := 2) sc_l_law_dip.nd rfl (.inl rfl) (pe_ix ix_list (pv 0) pe_int (fun _ _ => rfl))) fun cdv A outer s H E hr =>
    (b_cons (s_if (t_cmp (op_neDD hr.units) (v_pk 2 (pv 2)) (v_val (v_lst (va_nil))))
    (b_cons (s_setZ (i := 3) sc_l_law_dip.nd rfl (.inl rfl) (by rfl) (v_callTy cr_int (by rfl) T.n_int (by decide +kernel) (va_cons (v_val (v_ix (v_pk 2 (pv 2)) (v_val v_int))) va_nil)))
    (b_cons (s_setI (i := 2) (v_bin op_fdivD (v_pk 3 (pv 3)) (v_pk 1 (pv 1))) (pv 2) v_int)
    (b_cons (s_if (t_cmp op_ltD (v_val (v_ix (v_pk 2 (pv 2)) (v_val v_int))) (v_val v_int))
    (b_one (s_expr (v_popAt (pv 2) (va_cons (v_val v_int) va_nil))))
    b_nil)
    (b_one (s_ret (v_bin op_modD (v_pk 3 (pv 3)) (v_pk 1 (pv 1))))))))
    b_nil)
    (b_cons (s_setI (i := 0) (v_bin op_addD (v_val (v_ix (v_pk 0 (pv 0)) (v_val v_int))) (v_val v_int)) (pv 0) v_int)
    (b_cons (s_setZ (i := 3) sc_l_law_dip.nd rfl (.inl rfl) (by rfl) (v_bin op_modD (v_val (v_callTy cr_int (by rfl) T.n_int (by decide +kernel) (va_cons (v_val (v_bin op_mulD (v_val (v_bin op_addD (v_val (v_ix (v_pk 0 (pv 0)) (v_val v_int))) (v_val (v_bin op_mulD (v_val v_int) (v_val (v_ix (v_pk 0 (pv 0)) (v_val v_int))))))) (v_val (v_bin op_addD (v_val (v_bin op_modD (v_val (v_ix (v_pk 0 (pv 0)) (v_val v_int))) (v_val v_int))) (v_val (v_bin op_mulD (v_val v_int) (v_val (v_ix (v_pk 0 (pv 0)) (v_val v_int))))))))) va_nil))) (v_val (v_bin op_addD (v_val (v_bin op_powD (v_val v_int) (v_val v_int))) (v_val v_int)))))
    (b_cons (s_setZ (i := 3) sc_l_law_dip.nd rfl (.inl rfl) (by rfl) (v_bin op_modD (v_val (v_callTy cr_int (by rfl) T.n_int (by decide +kernel) (va_cons (v_val (v_bin op_addD (v_val (v_bin op_addD (v_val (v_bin op_mulD (v_pk 3 (pv 3)) (v_pk 3 (pv 3)))) (v_val (v_ix (v_pk 0 (pv 0)) (v_val v_int))))) (v_val (v_ix (v_pk 0 (pv 0)) (v_val v_int))))) va_nil))) (v_val (v_bin op_addD (v_val (v_bin op_powD (v_val v_int) (v_val v_int))) (v_val v_int)))))
    (b_one (s_ret (v_bin op_modD (v_val (v_callTy cr_int (by rfl) T.n_int (by decide +kernel) (va_cons (v_val (v_bin op_fdivD (v_pk 3 (pv 3)) (v_val v_int))) va_nil))) (v_pk 1 (pv 1))))))))))

def B_l_law_one : Fs := (retS (op2 ixD (.pk 1) (.val (callE F_l_law_dip (some 0) [(.pk 0), (.val (opN lenD [(.pk 1)]))]))))
def F_l_law_one : Fe := bodyF [0] 0 B_l_law_one
theorem ok_l_law_one {P : Program} {w : World} {K : PySem.W.Frag} {mg : Str → Option Value} {base : Heap} (T : Txt P K mg) : FnV P w K mg base 2 T.l_law_one.f T.l_law_one.fd ["well", "items"] F_l_law_one :=
  fn_mk T.l_law_one.F sc_l_law_one rfl fun cdv A outer s H E hr =>
    (b_one (s_ret (v_ix (v_pk 1 (pv 1)) (v_val (v_call (some 0) (FnOk.mono (k := 1) (ok_l_law_dip T) (by decide)) hr (by rfl) T.l_law_dip.g T.l_law_dip.F.kp T.l_law_dip.b (takes_of rfl rfl rfl rfl) (va_cons (v_pk 0 (pv 0)) (va_cons (v_val (v_callB cr_len (by rfl) T.n_len PySem.boot_len (va_cons (v_pk 1 (pv 1)) va_nil))) va_nil)))))))
def S_l_law_turned_1 : Fs := (parS 2 3 true true (callE F_l_law_dip (some 0) [(.pk 0), (.val (op2 addD (.val (opN lenD [(.pk 1)])) (.val (cE (.int 1)))))]) (callE F_l_law_dip (some 0) [(.pk 0), (.val (cE (.int 6)))]))
def S_l_law_turned_2 : Fs := (ifS (tstE (op2 eqD (.pk 3) (.val (cE (.int 0)))))
  (retS (op2 addD (.val (op2 addD (.val (opN (slD false true) [(.pk 1), (.pk 2)])) (.val (opC lstC [(.val (cE (.int 0)))])))) (.val (opN (slD true false) [(.pk 1), (.pk 2)]))))
  nilS)
def S_l_law_turned_3a_1 : Fs := (asgZ 4 (op2 mulD (.val (callE F_l_law_dip (some 0) [(.pk 0), (.val (op2 addD (.val (opN absD [(.val (op2 ixD (.pk 1) (.val (op2 subD (.pk 2) (.val (cE (.int 1)))))))])) (.val (cE (.int 1)))))])) (.val (ifE (tstE (op2 (cmpI fun i j => decide (j < i)) (.val (op2 ixD (.pk 1) (.val (op2 subD (.pk 2) (.val (cE (.int 1))))))) (.val (cE (.int 0))))) (cE (.int 1)) (op1 negD (.val (cE (.int 1))))))))
def S_l_law_turned_3a_2 : Fs := (retS (op2 addD (.val (op2 addD (.val (opN (slD false true) [(.pk 1), (.val (op2 subD (.pk 2) (.val (cE (.int 1)))))])) (.val (opC lstC [(.pk 4), (.val (op2 subD (.val (op2 ixD (.pk 1) (.val (op2 subD (.pk 2) (.val (cE (.int 1))))))) (.pk 4)))])))) (.val (opN (slD true false) [(.pk 1), (.pk 2)]))))
def S_l_law_turned_3 : Fs := (ifS (andT (tstE (op2 eqD (.pk 3) (.val (cE (.int 1))))) (tstE (op2 (cmpI fun i j => decide (j < i)) (.pk 2) (.val (cE (.int 0))))))
  (seqS S_l_law_turned_3a_1 S_l_law_turned_3a_2)
  nilS)
def S_l_law_turned_4a_1 : Fs := (asgZ 5 (ifE (tstE (op2 (cmpI fun i j => decide (j < i)) (.val (op2 ixD (.pk 1) (.val (op2 subD (.pk 2) (.val (cE (.int 1))))))) (.val (cE (.int 0))))) (cE (.int 1)) (op1 negD (.val (cE (.int 1))))))
def S_l_law_turned_4a_2 : Fs := (asgZ 6 (op2 mulD (.val (callE F_l_law_dip (some 0) [(.pk 0), (.val (op2 addD (.val (opN absD [(.val (op2 ixD (.pk 1) (.val (op2 subD (.pk 2) (.val (cE (.int 1)))))))])) (.val (cE (.int 1)))))])) (.pk 5)))
def S_l_law_turned_4a_3 : Fs := (retS (op2 addD (.val (op2 addD (.val (opN (slD false true) [(.pk 1), (.pk 2)])) (.val (opC lstC [(.val (op1 negD (.pk 6))), (.pk 6)])))) (.val (opN (slD true false) [(.pk 1), (.pk 2)]))))
def S_l_law_turned_4 : Fs := (ifS (andT (tstE (op2 eqD (.pk 3) (.val (cE (.int 2))))) (andT (tstE (op2 (cmpI fun i j => decide (j < i)) (.pk 2) (.val (cE (.int 0))))) (tstE (op2 neD (.val (op2 ixD (.pk 1) (.val (op2 subD (.pk 2) (.val (cE (.int 1))))))) (.val (cE (.int 0)))))))
  (seqS S_l_law_turned_4a_1 (seqS S_l_law_turned_4a_2 S_l_law_turned_4a_3))
  nilS)
def S_l_law_turned_5 : Fs := (ifS (andT (tstE (op2 eqD (.pk 3) (.val (cE (.int 3))))) (tstE (op2 (cmpI fun i j => decide (j < i)) (.pk 2) (.val (cE (.int 0))))))
  (retS (op2 addD (.val (opN (slD false true) [(.pk 1), (.val (op2 subD (.pk 2) (.val (cE (.int 1)))))])) (.val (opN (slD true false) [(.pk 1), (.pk 2)]))))
  nilS)
def S_l_law_turned_6 : Fs := (retS (op2 addD (.val (op2 addD (.val (opN (slD false true) [(.pk 1), (.pk 2)])) (.val (opC lstC [(.val (op2 subD (.val (callE F_l_law_dip (some 0) [(.pk 0), (.val (cE (.int 9)))])) (.val (cE (.int 4)))))])))) (.val (opN (slD true false) [(.pk 1), (.pk 2)]))))
def B_l_law_turned : Fs := (seqS S_l_law_turned_1 (seqS S_l_law_turned_2 (seqS S_l_law_turned_3 (seqS S_l_law_turned_4 (seqS S_l_law_turned_5 S_l_law_turned_6)))))
def F_l_law_turned : Fe := bodyF [0] 5 B_l_law_turned
theorem ok_l_law_turned {P : Program} {w : World} {K : PySem.W.Frag} {mg : Str → Option Value} {base : Heap} (T : Txt P K mg) : FnV P w K mg base 2 T.l_law_turned.f T.l_law_turned.fd ["well", "turns"] F_l_law_turned :=
  fn_mk T.l_law_turned.F sc_l_law_turned rfl fun cdv A outer s H E hr =>
    (b_cons (s_par (i := 2) (j := 3) (zi := true) (zj := true) (by rfl) sc_l_law_turned.nd rfl rfl (by decide) rfl rfl (by rfl) (by rfl) (v_call (some 0) (FnOk.mono (k := 1) (ok_l_law_dip T) (by decide)) hr (by rfl) T.l_law_dip.g T.l_law_dip.F.kp T.l_law_dip.b (takes_of rfl rfl rfl rfl) (va_cons (v_pk 0 (pv 0)) (va_cons (v_val (v_bin op_addD (v_val (v_callB cr_len (by rfl) T.n_len PySem.boot_len (va_cons (v_pk 1 (pv 1)) va_nil))) (v_val v_int))) va_nil))) (v_call (some 0) (FnOk.mono (k := 1) (ok_l_law_dip T) (by decide)) hr (by rfl) T.l_law_dip.g T.l_law_dip.F.kp T.l_law_dip.b (takes_of rfl rfl rfl rfl) (va_cons (v_pk 0 (pv 0)) (va_cons (v_val v_int) va_nil))) (by rfl))
    (b_cons (s_if (t_cmp (op_eqDD hr.units) (v_pk 3 (pv 3)) (v_val v_int))
    (b_one (s_ret (v_bin op_addD (v_val (v_bin op_addD (v_val (v_sl2 (v_pk 1 (pv 1)) (v_pk 2 (pv 2)))) (v_val (v_lst (va_cons (v_val v_int) va_nil))))) (v_val (v_sl1 (v_pk 1 (pv 1)) (v_pk 2 (pv 2)))))))
    b_nil)
    (b_cons (s_if (t_w (w_and (t_cmp (op_eqDD hr.units) (v_pk 3 (pv 3)) (v_val v_int)) (w_and1 (t_cmp op_gtD (v_pk 2 (pv 2)) (v_val v_int)))))
    (b_cons (s_setZ (i := 4) sc_l_law_turned.nd rfl (.inl rfl) (by rfl) (v_bin op_mulD (v_val (v_call (some 0) (FnOk.mono (k := 1) (ok_l_law_dip T) (by decide)) hr (by rfl) T.l_law_dip.g T.l_law_dip.F.kp T.l_law_dip.b (takes_of rfl rfl rfl rfl) (va_cons (v_pk 0 (pv 0)) (va_cons (v_val (v_bin op_addD (v_val (v_callB cr_abs (by rfl) T.n_abs (by decide +kernel) (va_cons (v_val (v_ix (v_pk 1 (pv 1)) (v_val (v_bin op_subD (v_pk 2 (pv 2)) (v_val v_int))))) va_nil))) (v_val v_int))) va_nil)))) (v_val (v_if (t_cmp op_gtD (v_val (v_ix (v_pk 1 (pv 1)) (v_val (v_bin op_subD (v_pk 2 (pv 2)) (v_val v_int))))) (v_val v_int)) v_int (v_un un_negD (v_val v_int))))))
    (b_one (s_ret (v_bin op_addD (v_val (v_bin op_addD (v_val (v_sl2 (v_pk 1 (pv 1)) (v_val (v_bin op_subD (v_pk 2 (pv 2)) (v_val v_int))))) (v_val (v_lst (va_cons (v_pk 4 (pv 4)) (va_cons (v_val (v_bin op_subD (v_val (v_ix (v_pk 1 (pv 1)) (v_val (v_bin op_subD (v_pk 2 (pv 2)) (v_val v_int))))) (v_pk 4 (pv 4)))) va_nil)))))) (v_val (v_sl1 (v_pk 1 (pv 1)) (v_pk 2 (pv 2))))))))
    b_nil)
    (b_cons (s_if (t_w (w_and (t_cmp (op_eqDD hr.units) (v_pk 3 (pv 3)) (v_val v_int)) (w_and (t_cmp op_gtD (v_pk 2 (pv 2)) (v_val v_int)) (w_and1 (t_cmp (op_neDD hr.units) (v_val (v_ix (v_pk 1 (pv 1)) (v_val (v_bin op_subD (v_pk 2 (pv 2)) (v_val v_int))))) (v_val v_int))))))
    (b_cons (s_setZ (i := 5) sc_l_law_turned.nd rfl (.inl rfl) (by rfl) (v_if (t_cmp op_gtD (v_val (v_ix (v_pk 1 (pv 1)) (v_val (v_bin op_subD (v_pk 2 (pv 2)) (v_val v_int))))) (v_val v_int)) v_int (v_un un_negD (v_val v_int))))
    (b_cons (s_setZ (i := 6) sc_l_law_turned.nd rfl (.inl rfl) (by rfl) (v_bin op_mulD (v_val (v_call (some 0) (FnOk.mono (k := 1) (ok_l_law_dip T) (by decide)) hr (by rfl) T.l_law_dip.g T.l_law_dip.F.kp T.l_law_dip.b (takes_of rfl rfl rfl rfl) (va_cons (v_pk 0 (pv 0)) (va_cons (v_val (v_bin op_addD (v_val (v_callB cr_abs (by rfl) T.n_abs (by decide +kernel) (va_cons (v_val (v_ix (v_pk 1 (pv 1)) (v_val (v_bin op_subD (v_pk 2 (pv 2)) (v_val v_int))))) va_nil))) (v_val v_int))) va_nil)))) (v_pk 5 (pv 5))))
    (b_one (s_ret (v_bin op_addD (v_val (v_bin op_addD (v_val (v_sl2 (v_pk 1 (pv 1)) (v_pk 2 (pv 2)))) (v_val (v_lst (va_cons (v_val (v_un un_negD (v_pk 6 (pv 6)))) (va_cons (v_pk 6 (pv 6)) va_nil)))))) (v_val (v_sl1 (v_pk 1 (pv 1)) (v_pk 2 (pv 2)))))))))
    b_nil)
    (b_cons (s_if (t_w (w_and (t_cmp (op_eqDD hr.units) (v_pk 3 (pv 3)) (v_val v_int)) (w_and1 (t_cmp op_gtD (v_pk 2 (pv 2)) (v_val v_int)))))
    (b_one (s_ret (v_bin op_addD (v_val (v_sl2 (v_pk 1 (pv 1)) (v_val (v_bin op_subD (v_pk 2 (pv 2)) (v_val v_int))))) (v_val (v_sl1 (v_pk 1 (pv 1)) (v_pk 2 (pv 2)))))))
    b_nil)
    (b_one (s_ret (v_bin op_addD (v_val (v_bin op_addD (v_val (v_sl2 (v_pk 1 (pv 1)) (v_pk 2 (pv 2)))) (v_val (v_lst (va_cons (v_val (v_bin op_subD (v_val (v_call (some 0) (FnOk.mono (k := 1) (ok_l_law_dip T) (by decide)) hr (by rfl) T.l_law_dip.g T.l_law_dip.F.kp T.l_law_dip.b (takes_of rfl rfl rfl rfl) (va_cons (v_pk 0 (pv 0)) (va_cons (v_val v_int) va_nil)))) (v_val v_int))) va_nil))))) (v_val (v_sl1 (v_pk 1 (pv 1)) (v_pk 2 (pv 2))))))))))))
def S_l_law_led_1_1 : Fs := (asgZ 2 (opN maxD [(.val (cE (.int 0))), (.val (opN minD [(.pk 0), (.val (op2 addD (.pk 2) (.pk 3)))]))]))
def S_l_law_led_1 : Fs := (forS (srcC anyLD [(.pk 1)]) (nameG 3)
  S_l_law_led_1_1)
def S_l_law_led_2 : Fs := (retS (varE 2))
def B_l_law_led : Fs := (seqS S_l_law_led_1 S_l_law_led_2)
def F_l_law_led : Fe := bodyF [] 1 B_l_law_led
theorem ok_l_law_led {P : Program} {w : World} {K : PySem.W.Frag} {mg : Str → Option Value} {base : Heap} (T : Txt P K mg) : FnV P w K mg base 1 T.l_law_led.f T.l_law_led.fd ["size", "turns", "scroll"] F_l_law_led :=
  fn_mk T.l_law_led.F sc_l_law_led rfl fun cdv A outer s H E hr =>
    (b_cons (s_for (passes_of rfl) (by rfl) (i_any (v_pk 1 (pv 1))) (g_name (pg_name (i := 3) sc_l_law_led.nd rfl (by first | exact .inl rfl | exact .inr rfl)) (by rfl))
    (b_one (s_setZ (i := 2) sc_l_law_led.nd rfl (.inl rfl) (by rfl) (v_callB (cr_maxD rfl) (by rfl) T.n_max (by decide +kernel) (va_cons (v_val v_int) (va_cons (v_val (v_callB (cr_minD rfl) (by rfl) T.n_min (by decide +kernel) (va_cons (v_pk 0 (pv 0)) (va_cons (v_val (v_bin op_addD (v_pk 2 (pv 2)) (v_pk 3 (pv 3)))) va_nil)))) va_nil))))))
    (b_one (s_ret (v_var 2 (pv 2)))))
def S_l_law_is_like_1_1_1 : Fs := (ifS (tstE (op2 neD (.val (callE F_l_law_led none [(.pk 3), (.pk 0), (.pk 4)])) (.val (callE F_l_law_led none [(.pk 3), (.pk 1), (.pk 4)]))))
  (retS (opC tupC [(.pk 3), (.pk 4)]))
  nilS)
def S_l_law_is_like_1_1 : Fs := (forS (srcN rangeD1 [(.val (op2 addD (.pk 3) (.val (cE (.int 1)))))]) (nameG 4)
  S_l_law_is_like_1_1_1)
def S_l_law_is_like_1 : Fs := (forS (srcN rangeD1 [(.val (op2 addD (.pk 2) (.val (cE (.int 1)))))]) (nameG 3)
  S_l_law_is_like_1_1)
def S_l_law_is_like_2 : Fs := (retS (cE .non))
def B_l_law_is_like : Fs := (seqS S_l_law_is_like_1 S_l_law_is_like_2)
def F_l_law_is_like : Fe := bodyF [] 2 B_l_law_is_like
theorem ok_l_law_is_like {P : Program} {w : World} {K : PySem.W.Frag} {mg : Str → Option Value} {base : Heap} (T : Txt P K mg) : FnV P w K mg base 2 T.l_law_is_like.f T.l_law_is_like.fd ["one", "other", "size"] F_l_law_is_like :=
  fn_mk T.l_law_is_like.F sc_l_law_is_like rfl fun cdv A outer s H E hr =>
    (b_cons (s_for (passes_of rfl) (by rfl) (i_range1 (by rfl) T.n_range (va_cons (v_val (v_bin op_addD (v_pk 2 (pv 2)) (v_val v_int))) va_nil)) (g_name (pg_name (i := 3) sc_l_law_is_like.nd rfl (by first | exact .inl rfl | exact .inr rfl)) (by rfl))
    (b_one (s_for (passes_of rfl) (by rfl) (i_range1 (by rfl) T.n_range (va_cons (v_val (v_bin op_addD (v_pk 3 (pv 3)) (v_val v_int))) va_nil)) (g_name (pg_name (i := 4) sc_l_law_is_like.nd rfl (by first | exact .inl rfl | exact .inr rfl)) (by rfl))
    (b_one (s_if (t_cmp (op_neDD hr.units) (v_val (v_call none (FnOk.mono (k := 1) (ok_l_law_led T) (by decide)) hr (by rfl) T.l_law_led.g T.l_law_led.F.kp T.l_law_led.b (takes_of rfl rfl rfl rfl) (va_cons (v_pk 3 (pv 3)) (va_cons (v_pk 0 (pv 0)) (va_cons (v_pk 4 (pv 4)) va_nil))))) (v_val (v_call none (FnOk.mono (k := 1) (ok_l_law_led T) (by decide)) hr (by rfl) T.l_law_led.g T.l_law_led.F.kp T.l_law_led.b (takes_of rfl rfl rfl rfl) (va_cons (v_pk 3 (pv 3)) (va_cons (v_pk 1 (pv 1)) (va_cons (v_pk 4 (pv 4)) va_nil))))))
    (b_one (s_ret (v_tup (va_cons (v_pk 3 (pv 3)) (va_cons (v_pk 4 (pv 4)) va_nil)))))
    b_nil)))))
    (b_one (s_ret v_none)))
def S_l_law_gathered_1 : Fs := (asgS 1 (opC lstC []))
def S_l_law_gathered_2_1 : Fs := (ifS (andT (tstE (op2 neD (.pk 1) (.val (opC lstC [])))) (andT (tstE (op2 neD (.pk 2) (.val (cE (.int 0))))) (tstE (op2 eqD (.val (op2 (cmpI fun i j => decide (j < i)) (.val (op2 ixD (.pk 1) (.val (op1 negD (.val (cE (.int 1))))))) (.val (cE (.int 0))))) (.val (op2 (cmpI fun i j => decide (j < i)) (.pk 2) (.val (cE (.int 0)))))))))
  (setI 1 (op2 addD (.val (op2 ixD (.pk 1) (.val (op1 negD (.val (cE (.int 1))))))) (.pk 2)) (op1 negD (.val (cE (.int 1)))))
  (ifS (tstE (op2 neD (.pk 2) (.val (cE (.int 0)))))
  (dropS (mutE 1 appD [(.pk 2)]))
  nilS))
def S_l_law_gathered_2 : Fs := (forS (srcC anyLD [(.pk 0)]) (nameG 2)
  S_l_law_gathered_2_1)
def S_l_law_gathered_3 : Fs := (retO 1)
def B_l_law_gathered : Fs := (seqS S_l_law_gathered_1 (seqS S_l_law_gathered_2 S_l_law_gathered_3))
def F_l_law_gathered : Fe := bodyF [] 2 B_l_law_gathered
theorem ok_l_law_gathered {P : Program} {w : World} {K : PySem.W.Frag} {mg : Str → Option Value} {base : Heap} (T : Txt P K mg) : FnV P w K mg base 1 T.l_law_gathered.f T.l_law_gathered.fd ["turns"] F_l_law_gathered :=
  fn_mk T.l_law_gathered.F sc_l_law_gathered rfl fun cdv A outer s H E hr =>
    (b_cons (s_set (i := 1) sc_l_law_gathered.nd rfl (.inl rfl) (by rfl) (v_lst (va_nil)))
    (b_cons (s_for (passes_of rfl) (by rfl) (i_any (v_pk 0 (pv 0))) (g_name (pg_name (i := 2) sc_l_law_gathered.nd rfl (by first | exact .inl rfl | exact .inr rfl)) (by rfl))
    (b_one (s_if (t_w (w_and (t_cmp (op_neDD hr.units) (v_pk 1 (pv 1)) (v_val (v_lst (va_nil)))) (w_and (t_cmp (op_neDD hr.units) (v_pk 2 (pv 2)) (v_val v_int)) (w_and1 (t_cmp (op_eqDD hr.units) (v_val (v_cmp op_gtD (v_val (v_ix (v_pk 1 (pv 1)) (v_val (v_un un_negD (v_val v_int))))) (v_val v_int))) (v_val (v_cmp op_gtD (v_pk 2 (pv 2)) (v_val v_int))))))))
    (b_one (s_setI (i := 1) (v_bin op_addD (v_val (v_ix (v_pk 1 (pv 1)) (v_val (v_un un_negD (v_val v_int))))) (v_pk 2 (pv 2))) (pv 1) (v_un un_negD (v_val v_int))))
    (b_one (s_if (t_cmp (op_neDD hr.units) (v_pk 2 (pv 2)) (v_val v_int))
    (b_one (s_expr (v_append (pv 1) (va_cons (v_pk 2 (pv 2)) va_nil))))
    b_nil)))))
    (b_one (s_retO (pv 1)))))
def S_l_law_joinings_1 : Fs := (asgZ 1 (lcE [2] (srcN rangeD2 [(.val (cE (.int 1))), (.val (op2 subD (.val (opN lenD [(.pk 0)])) (.val (cE (.int 1)))))]) (nameG 2) (andT (tstE (op2 (cmpI fun i j => decide (i ≤ j)) (.val (opN absD [(.val (op2 ixD (.pk 0) (.pk 2)))])) (.val (opN absD [(.val (op2 ixD (.pk 0) (.val (op2 subD (.pk 2) (.val (cE (.int 1)))))))])))) (tstE (op2 (cmpI fun i j => decide (i ≤ j)) (.val (opN absD [(.val (op2 ixD (.pk 0) (.pk 2)))])) (.val (opN absD [(.val (op2 ixD (.pk 0) (.val (op2 addD (.pk 2) (.val (cE (.int 1)))))))]))))) (varE 2)))
def S_l_law_joinings_2 : Fs := (retS (op2 addD (.pk 1) (.val (op2 mulSD (.val (opC lstC [(.val (cE (.int 0)))])) (.val (opN intD [(.val (andE (op2 (cmpI fun i j => decide (j < i)) (.val (opN lenD [(.pk 0)])) (.val (cE (.int 2)))) (chE (fun i j => decide (i < j)) (fun i j => decide (i ≤ j)) (opN absD [(.val (op2 ixD (.pk 0) (.val (cE (.int 0)))))]) (opN absD [(.val (op2 ixD (.pk 0) (.val (cE (.int 1)))))]) (opN absD [(.val (op2 ixD (.pk 0) (.val (cE (.int 2)))))]))))]))))))
def B_l_law_joinings : Fs := (seqS S_l_law_joinings_1 S_l_law_joinings_2)
def F_l_law_joinings : Fe := bodyF [] 2 B_l_law_joinings
theorem ok_l_law_joinings {P : Program} {w : World} {K : PySem.W.Frag} {mg : Str → Option Value} {base : Heap} (T : Txt P K mg) : FnV P w K mg base 1 T.l_law_joinings.f T.l_law_joinings.fd ["turns"] F_l_law_joinings :=
  fn_mk T.l_law_joinings.F sc_l_law_joinings rfl fun cdv A outer s H E hr =>
    (b_cons (s_setLcZ (i := 1) (own := [("at", 2)]) (pn := [0, 1]) (vs := [2]) rfl sc_l_law_joinings.nd rfl rfl (by rfl) (sw_true rfl rfl rfl (by decide +kernel)) (i_range2 (by rfl) T.n_range (va_cons (v_val v_int) (va_cons (v_val (v_bin op_subD (v_val (v_callB cr_len (by rfl) T.n_len PySem.boot_len (va_cons (v_pk 0 (pv 0)) va_nil))) (v_val v_int))) va_nil))) (blkOk_by (own := [("at", 2)]) (N := ["turns", "found", "at"]) (sc := (defScope s_l_law_joinings)) (by decide +kernel)) (fun _ _ _ _ _ => (g_name (pg_name (i := 2) sc_l_law_joinings.nd rfl (by first | exact .inl rfl | exact .inr rfl)) (by rfl))) (fun _ _ _ _ _ => (ts_one (t_w (w_and (t_cmp op_leD (v_val (v_callB cr_abs (by rfl) T.n_abs (by decide +kernel) (va_cons (v_val (v_ix (v_pk 0 (pv 0)) (v_pk 2 (pv 2)))) va_nil))) (v_val (v_callB cr_abs (by rfl) T.n_abs (by decide +kernel) (va_cons (v_val (v_ix (v_pk 0 (pv 0)) (v_val (v_bin op_subD (v_pk 2 (pv 2)) (v_val v_int))))) va_nil)))) (w_and1 (t_cmp op_leD (v_val (v_callB cr_abs (by rfl) T.n_abs (by decide +kernel) (va_cons (v_val (v_ix (v_pk 0 (pv 0)) (v_pk 2 (pv 2)))) va_nil))) (v_val (v_callB cr_abs (by rfl) T.n_abs (by decide +kernel) (va_cons (v_val (v_ix (v_pk 0 (pv 0)) (v_val (v_bin op_addD (v_pk 2 (pv 2)) (v_val v_int))))) va_nil))))))))) (fun _ _ _ _ _ => (v_var 2 (pv 2))) rfl (by decide) (by rfl))
    (b_one (s_ret (v_bin op_addD (v_pk 1 (pv 1)) (v_val (v_bin op_mulSD (v_val (v_lst (va_cons (v_val v_int) va_nil))) (v_val (v_callTy cr_int (by rfl) T.n_int (by decide +kernel) (va_cons (v_val (v_and (v_cmp op_gtD (v_val (v_callB cr_len (by rfl) T.n_len PySem.boot_len (va_cons (v_pk 0 (pv 0)) va_nil))) (v_val v_int)) (v_one (v_chain op_lt op_le (v_callB cr_abs (by rfl) T.n_abs (by decide +kernel) (va_cons (v_val (v_ix (v_pk 0 (pv 0)) (v_val v_int))) va_nil)) (v_callB cr_abs (by rfl) T.n_abs (by decide +kernel) (va_cons (v_val (v_ix (v_pk 0 (pv 0)) (v_val v_int))) va_nil)) (v_callB cr_abs (by rfl) T.n_abs (by decide +kernel) (va_cons (v_val (v_ix (v_pk 0 (pv 0)) (v_val v_int))) va_nil)))))) va_nil)))))))))
def S_l_law_short_1 : Fs := (asgZ 2 (callE F_l_law_gathered none [(.pk 1)]))
def S_l_law_short_2_1 : Fs := (asgZ 3 (callE F_l_law_one (some 0) [(.pk 0), (.val (callE F_l_law_joinings none [(.pk 2)]))]))
def S_l_law_short_2_2 : Fs := (asgZ 2 (callE F_l_law_gathered none [(.val (ifE (tstE (op2 (cmpI fun i j => decide (j < i)) (.pk 3) (.val (cE (.int 0))))) (op2 addD (.val (op2 addD (.val (opN (slD false true) [(.pk 2), (.val (op2 subD (.pk 3) (.val (cE (.int 1)))))])) (.val (opC lstC [(.val (opN sumD [(.val (opN (slD true true) [(.pk 2), .val (intE (op2 subD (.pk 3) (.val (cE (.int 1))))), .val (intE (op2 addD (.pk 3) (.val (cE (.int 2)))))]))]))])))) (.val (opN (slD true false) [(.pk 2), (.val (op2 addD (.pk 3) (.val (cE (.int 2)))))]))) (op2 addD (.val (opC lstC [(.val (op2 addD (.val (op2 ixD (.pk 2) (.val (cE (.int 0))))) (.val (op2 ixD (.pk 2) (.val (cE (.int 1)))))))])) (.val (opN (slD true false) [(.pk 2), (.val (cE (.int 2)))])))))]))
def S_l_law_short_2L : Fs := (seqS S_l_law_short_2_1 S_l_law_short_2_2)
def S_l_law_short_2 : Fs := (fun env => whileF (tstE (op2 neD (.val (callE F_l_law_joinings none [(.pk 2)])) (.val (opC lstC []))))
  S_l_law_short_2L 1000000 env)
def S_l_law_short_3 : Fs := (retS (varE 2))
def B_l_law_short : Fs := (seqS S_l_law_short_1 (seqS S_l_law_short_2 S_l_law_short_3))
def F_l_law_short : Fe := bodyF [0] 2 B_l_law_short
theorem ok_l_law_short {P : Program} {w : World} {K : PySem.W.Frag} {mg : Str → Option Value} {base : Heap} (T : Txt P K mg) : FnV P w K mg base 3 T.l_law_short.f T.l_law_short.fd ["well", "turns"] F_l_law_short :=
  fn_mk T.l_law_short.F sc_l_law_short rfl fun cdv A outer s H E hr =>
    (b_cons (s_setZ (i := 2) sc_l_law_short.nd rfl (.inl rfl) (by rfl) (v_call none (FnOk.mono (k := 2) (ok_l_law_gathered T) (by decide)) hr (by rfl) T.l_law_gathered.g T.l_law_gathered.F.kp T.l_law_gathered.b (takes_of rfl rfl rfl rfl) (va_cons (v_pk 1 (pv 1)) va_nil)))
    (b_cons (s_while (n := fun _ => 1000000) (passes_of rfl) (t_cmp (op_neDD hr.units) (v_val (v_call none (FnOk.mono (k := 2) (ok_l_law_joinings T) (by decide)) hr (by rfl) T.l_law_joinings.g T.l_law_joinings.F.kp T.l_law_joinings.b (takes_of rfl rfl rfl rfl) (va_cons (v_pk 2 (pv 2)) va_nil))) (v_val (v_lst (va_nil))))
    (b_cons (s_setZ (i := 3) sc_l_law_short.nd rfl (.inl rfl) (by rfl) (v_call (some 0) (FnOk.mono (k := 2) (ok_l_law_one T) (by decide)) hr (by rfl) T.l_law_one.g T.l_law_one.F.kp T.l_law_one.b (takes_of rfl rfl rfl rfl) (va_cons (v_pk 0 (pv 0)) (va_cons (v_val (v_call none (FnOk.mono (k := 2) (ok_l_law_joinings T) (by decide)) hr (by rfl) T.l_law_joinings.g T.l_law_joinings.F.kp T.l_law_joinings.b (takes_of rfl rfl rfl rfl) (va_cons (v_pk 2 (pv 2)) va_nil))) va_nil))))
    (b_one (s_setZ (i := 2) sc_l_law_short.nd rfl (.inl rfl) (by rfl) (v_call none (FnOk.mono (k := 2) (ok_l_law_gathered T) (by decide)) hr (by rfl) T.l_law_gathered.g T.l_law_gathered.F.kp T.l_law_gathered.b (takes_of rfl rfl rfl rfl) (va_cons (v_val (v_if (t_cmp op_gtD (v_pk 3 (pv 3)) (v_val v_int)) (v_bin op_addD (v_val (v_bin op_addD (v_val (v_sl2 (v_pk 2 (pv 2)) (v_val (v_bin op_subD (v_pk 3 (pv 3)) (v_val v_int))))) (v_val (v_lst (va_cons (v_val (v_callB (cr_sumD rfl) (by rfl) T.n_sum (by decide +kernel) (va_cons (v_val (v_sl3 (v_pk 2 (pv 2)) (v_bin op_subD (v_pk 3 (pv 3)) (v_val v_int)) (v_bin op_addD (v_pk 3 (pv 3)) (v_val v_int)))) va_nil))) va_nil))))) (v_val (v_sl1 (v_pk 2 (pv 2)) (v_val (v_bin op_addD (v_pk 3 (pv 3)) (v_val v_int)))))) (v_bin op_addD (v_val (v_lst (va_cons (v_val (v_bin op_addD (v_val (v_ix (v_pk 2 (pv 2)) (v_val v_int))) (v_val (v_ix (v_pk 2 (pv 2)) (v_val v_int))))) va_nil))) (v_val (v_sl1 (v_pk 2 (pv 2)) (v_val v_int)))))) va_nil))))))
    (b_one (s_ret (v_var 2 (pv 2))))))
def S_add_turn_1 : Fs := (asgZ 2 (varE 1))
def S_add_turn_2_1b_1a_1 : Fs := (asgZ 3 (mutE 0 popD []))
def S_add_turn_2_1b_1a_2 : Fs := (ifS (tstE (op2 (cmpI fun i j => decide (i ≤ j)) (.val (opN absD [(.pk 3)])) (.val (opN absD [(.val (op2 ixD (.pk 0) (.val (op1 negD (.val (cE (.int 1)))))))]))))
  (asgZ 2 (op2 addD (.val (op2 addD (.pk 2) (.pk 3))) (.val (mutE 0 popD []))))
  (setI 0 (op2 addD (.val (op2 ixD (.pk 0) (.val (op1 negD (.val (cE (.int 1))))))) (.pk 3)) (op1 negD (.val (cE (.int 1))))))
def S_add_turn_2_1b_1b_1 : Fs := (dropS (mutE 0 appD [(.pk 2)]))
def S_add_turn_2_1b_1b_2 : Fs := (asgZ 2 (cE (.int 0)))
def S_add_turn_2_1 : Fs := (ifS (andT (tstE (op2 neD (.pk 0) (.val (opC lstC [])))) (tstE (op2 eqD (.val (op2 (cmpI fun i j => decide (j < i)) (.val (op2 ixD (.pk 0) (.val (op1 negD (.val (cE (.int 1))))))) (.val (cE (.int 0))))) (.val (op2 (cmpI fun i j => decide (j < i)) (.pk 2) (.val (cE (.int 0))))))))
  (asgZ 2 (op2 addD (.pk 2) (.val (mutE 0 popD []))))
  (ifS (andT (tstE (op2 (cmpI fun i j => decide (j < i)) (.val (opN lenD [(.pk 0)])) (.val (cE (.int 1))))) (tstE (op2 (cmpI fun i j => decide (j ≤ i)) (.val (opN absD [(.pk 2)])) (.val (opN absD [(.val (op2 ixD (.pk 0) (.val (op1 negD (.val (cE (.int 1)))))))])))))
  (seqS S_add_turn_2_1b_1a_1 S_add_turn_2_1b_1a_2)
  (seqS S_add_turn_2_1b_1b_1 S_add_turn_2_1b_1b_2)))
def S_add_turn_2 : Fs := (fun env => whileF (tstE (op2 neD (.pk 2) (.val (cE (.int 0)))))
  S_add_turn_2_1 1000000 env)
def B_add_turn : Fs := (seqS S_add_turn_1 S_add_turn_2)
def F_add_turn : Fe := bodyF [0] 2 B_add_turn
theorem ok_add_turn {P : Program} {w : World} {K : PySem.W.Frag} {mg : Str → Option Value} {base : Heap} (T : Txt P K mg) : FnV P w K mg base 1 T.add_turn.f T.add_turn.fd ["form", "turn"] F_add_turn :=
  fn_mk T.add_turn.F sc_add_turn rfl fun cdv A outer s H E hr =>
    (b_cons (s_setZ (i := 2) sc_add_turn.nd rfl (.inl rfl) (by rfl) (v_var 1 (pv 1)))
    (b_one (s_while (n := fun _ => 1000000) (passes_of rfl) (t_cmp (op_neDD hr.units) (v_pk 2 (pv 2)) (v_val v_int))
    (b_one (s_if (t_w (w_and (t_cmp (op_neDD hr.units) (v_pk 0 (pv 0)) (v_val (v_lst (va_nil)))) (w_and1 (t_cmp (op_eqDD hr.units) (v_val (v_cmp op_gtD (v_val (v_ix (v_pk 0 (pv 0)) (v_val (v_un un_negD (v_val v_int))))) (v_val v_int))) (v_val (v_cmp op_gtD (v_pk 2 (pv 2)) (v_val v_int)))))))
    (b_one (s_setZ (i := 2) sc_add_turn.nd rfl (.inl rfl) (by rfl) (v_bin op_addD (v_pk 2 (pv 2)) (v_val (v_pop (pv 0))))))
    (b_one (s_if (t_w (w_and (t_cmp op_gtD (v_val (v_callB cr_len (by rfl) T.n_len PySem.boot_len (va_cons (v_pk 0 (pv 0)) va_nil))) (v_val v_int)) (w_and1 (t_cmp op_geD (v_val (v_callB cr_abs (by rfl) T.n_abs (by decide +kernel) (va_cons (v_pk 2 (pv 2)) va_nil))) (v_val (v_callB cr_abs (by rfl) T.n_abs (by decide +kernel) (va_cons (v_val (v_ix (v_pk 0 (pv 0)) (v_val (v_un un_negD (v_val v_int))))) va_nil)))))))
    (b_cons (s_setZ (i := 3) sc_add_turn.nd rfl (.inl rfl) (by rfl) (v_pop (pv 0)))
    (b_one (s_if (t_cmp op_leD (v_val (v_callB cr_abs (by rfl) T.n_abs (by decide +kernel) (va_cons (v_pk 3 (pv 3)) va_nil))) (v_val (v_callB cr_abs (by rfl) T.n_abs (by decide +kernel) (va_cons (v_val (v_ix (v_pk 0 (pv 0)) (v_val (v_un un_negD (v_val v_int))))) va_nil))))
    (b_one (s_setZ (i := 2) sc_add_turn.nd rfl (.inl rfl) (by rfl) (v_bin op_addD (v_val (v_bin op_addD (v_pk 2 (pv 2)) (v_pk 3 (pv 3)))) (v_val (v_pop (pv 0))))))
    (b_one (s_setI (i := 0) (v_bin op_addD (v_val (v_ix (v_pk 0 (pv 0)) (v_val (v_un un_negD (v_val v_int))))) (v_pk 3 (pv 3))) (pv 0) (v_un un_negD (v_val v_int)))))))
    (b_cons (s_expr (v_append (pv 0) (va_cons (v_pk 2 (pv 2)) va_nil)))
    (b_one (s_setZ (i := 2) sc_add_turn.nd rfl (.inl rfl) (by rfl) v_int))))))))))
def S_form_in_1 : Fs := (asgS 1 (opC lstC []))
def S_form_in_2_1 : Fs := (dropS (callE F_add_turn (some 0) [(.pk 1), (.pk 2)]))
def S_form_in_2 : Fs := (forS (srcC anyLD [(.pk 0)]) (nameG 2)
  S_form_in_2_1)
def S_form_in_3 : Fs := (retO 1)
def B_form_in : Fs := (seqS S_form_in_1 (seqS S_form_in_2 S_form_in_3))
def F_form_in : Fe := bodyF [] 2 B_form_in
theorem ok_form_in {P : Program} {w : World} {K : PySem.W.Frag} {mg : Str → Option Value} {base : Heap} (T : Txt P K mg) : FnV P w K mg base 2 T.form_in.f T.form_in.fd ["turns"] F_form_in :=
  fn_mk T.form_in.F sc_form_in rfl fun cdv A outer s H E hr =>
    (b_cons (s_set (i := 1) sc_form_in.nd rfl (.inl rfl) (by rfl) (v_lst (va_nil)))
    (b_cons (s_for (passes_of rfl) (by rfl) (i_any (v_pk 0 (pv 0))) (g_name (pg_name (i := 2) sc_form_in.nd rfl (by first | exact .inl rfl | exact .inr rfl)) (by rfl))
    (b_one (s_expr (v_call (some 0) (FnOk.mono (k := 1) (ok_add_turn T) (by decide)) hr (by rfl) T.add_turn.g T.add_turn.F.kp T.add_turn.b (takes_of rfl rfl rfl rfl) (va_cons (v_pk 1 (pv 1)) (va_cons (v_pk 2 (pv 2)) va_nil))))))
    (b_one (s_retO (pv 1)))))

def B_short_form : Fs := (retS (callE F_form_in none [(.pk 0)]))
def F_short_form : Fe := bodyF [] 0 B_short_form
theorem ok_short_form {P : Program} {w : World} {K : PySem.W.Frag} {mg : Str → Option Value} {base : Heap} (T : Txt P K mg) : FnV P w K mg base 3 T.short_form.f T.short_form.fd ["turns"] F_short_form :=
  fn_mk T.short_form.F sc_short_form rfl fun cdv A outer s H E hr =>
    (b_one (s_ret (v_call none (FnOk.mono (k := 2) (ok_form_in T) (by decide)) hr (by rfl) T.form_in.g T.form_in.F.kp T.form_in.b (takes_of rfl rfl rfl rfl) (va_cons (v_pk 0 (pv 0)) va_nil))))
def S_l_law_alike_1a_1 (F_l_law_alike : Fe) : Fs := noS
def S_l_law_alike_1a_2 (F_l_law_alike : Fe) : Fs := noS
def S_l_law_alike_1 (F_l_law_alike : Fe) : Fs := (ifS (tstE (opN isiD [(.pk 1), (.val (cE (.ty "dict")))]))
  (seqS (S_l_law_alike_1a_1 F_l_law_alike) (S_l_law_alike_1a_2 F_l_law_alike))
  nilS)
def S_l_law_alike_2a_1 (F_l_law_alike : Fe) : Fs := (ifS (orT (tstE (op2 neD (.val (opN isiD [(.pk 0), (.val (cE (.ty "list")))])) (.val (opN isiD [(.pk 1), (.val (cE (.ty "list")))])))) (tstE (op2 neD (.val (opN isiD [(.pk 0), (.val (cE (.ty "tuple")))])) (.val (opN isiD [(.pk 1), (.val (cE (.ty "tuple")))])))))
  (retS (cE (.bl false)))
  nilS)
def S_l_law_alike_2a_2 (F_l_law_alike : Fe) : Fs := (retS (andE (op2 eqD (.val (opN lenD [(.pk 0)])) (.val (opN lenD [(.pk 1)]))) (opN allD [(.val (lcE [2, 3] (srcC enumSD [(.pk 1)]) (tupG [2, 3]) yesT (callE F_l_law_alike none [(.val (op2 ixD (.pk 0) (.pk 2))), (.pk 3)])))])))
def S_l_law_alike_2 (F_l_law_alike : Fe) : Fs := (ifS (orT (tstE (opN isiD [(.pk 1), (.val (cE (.ty "list")))])) (tstE (opN isiD [(.pk 1), (.val (cE (.ty "tuple")))])))
  (seqS (S_l_law_alike_2a_1 F_l_law_alike) (S_l_law_alike_2a_2 F_l_law_alike))
  nilS)
def S_l_law_alike_3 (F_l_law_alike : Fe) : Fs := (ifS (tstE (op2 isNonD (.pk 1) (.val (cE .non))))
  (retS (op2 isNonD (.pk 0) (.val (cE .non))))
  nilS)
def S_l_law_alike_4 (F_l_law_alike : Fe) : Fs := (ifS (orT (tstE (opN isiD [(.pk 1), (.val (cE (.ty "bool")))])) (tstE (opN isiD [(.pk 0), (.val (cE (.ty "bool")))])))
  (retS (andE (opN isiD [(.pk 1), (.val (cE (.ty "bool")))]) (andE (opN isiD [(.pk 0), (.val (cE (.ty "bool")))]) (op2 eqD (.pk 0) (.pk 1)))))
  nilS)
def S_l_law_alike_5 (F_l_law_alike : Fe) : Fs := (ifS (tstE (opN isiD [(.pk 1), (.val (cE (.ty "int")))]))
  (retS (andE (opN isiD [(.pk 0), (.val (cE (.ty "int")))]) (op2 eqD (.pk 0) (.pk 1))))
  nilS)
def S_l_law_alike_6 (F_l_law_alike : Fe) : Fs := (retS (andE (opN isiD [(.pk 0), (.val (cE (.ty "str")))]) (andE (opN isiD [(.pk 1), (.val (cE (.ty "str")))]) (op2 eqD (.pk 0) (.pk 1)))))
def B_l_law_alike (F_l_law_alike : Fe) : Fs := (seqS (S_l_law_alike_1 F_l_law_alike) (seqS (S_l_law_alike_2 F_l_law_alike) (seqS (S_l_law_alike_3 F_l_law_alike) (seqS (S_l_law_alike_4 F_l_law_alike) (seqS (S_l_law_alike_5 F_l_law_alike) (S_l_law_alike_6 F_l_law_alike))))))
def F_l_law_alike : Nat → Fe
  | 0 => fun _ => .st
  | n + 1 => bodyF [] 2 (B_l_law_alike (F_l_law_alike n))
theorem E_l_law_alike (n : Nat) : F_l_law_alike (n + 1) = bodyF [] 2 (B_l_law_alike (F_l_law_alike n)) := rfl
theorem ok_l_law_alike {P : Program} {w : World} {K : PySem.W.Frag} {mg : Str → Option Value} {base : Heap} (T : Txt P K mg) : ∀ n : Nat, FnV P w K mg base (0 + n) T.l_law_alike.f T.l_law_alike.fd ["found", "due"] (F_l_law_alike n)
  | 0 => fn_st
  | n + 1 => by
    have ih := ok_l_law_alike (P := P) (w := w) (base := base) T n
    exact fn_mk T.l_law_alike.F sc_l_law_alike rfl fun cdv A outer s H E hr =>
    (b_cons (s_if (t_val (v_callB cr_isi (by rfl) T.n_isinstance (by decide +kernel) (va_cons (v_pk 1 (pv 1)) (va_cons (v_val (v_type (by rfl) T.n_dict (by decide +kernel))) va_nil))))
    (b_cons s_dead
    (b_one s_dead))
    b_nil)
    (b_cons (s_if (t_w (w_or (t_val (v_callB cr_isi (by rfl) T.n_isinstance (by decide +kernel) (va_cons (v_pk 1 (pv 1)) (va_cons (v_val (v_type (by rfl) T.n_list (by decide +kernel))) va_nil)))) (w_or1 (t_val (v_callB cr_isi (by rfl) T.n_isinstance (by decide +kernel) (va_cons (v_pk 1 (pv 1)) (va_cons (v_val (v_type (by rfl) T.n_tuple (by decide +kernel))) va_nil)))))))
    (b_cons (s_if (t_w (w_or (t_cmp (op_neDD hr.units) (v_val (v_callB cr_isi (by rfl) T.n_isinstance (by decide +kernel) (va_cons (v_pk 0 (pv 0)) (va_cons (v_val (v_type (by rfl) T.n_list (by decide +kernel))) va_nil)))) (v_val (v_callB cr_isi (by rfl) T.n_isinstance (by decide +kernel) (va_cons (v_pk 1 (pv 1)) (va_cons (v_val (v_type (by rfl) T.n_list (by decide +kernel))) va_nil))))) (w_or1 (t_cmp (op_neDD hr.units) (v_val (v_callB cr_isi (by rfl) T.n_isinstance (by decide +kernel) (va_cons (v_pk 0 (pv 0)) (va_cons (v_val (v_type (by rfl) T.n_tuple (by decide +kernel))) va_nil)))) (v_val (v_callB cr_isi (by rfl) T.n_isinstance (by decide +kernel) (va_cons (v_pk 1 (pv 1)) (va_cons (v_val (v_type (by rfl) T.n_tuple (by decide +kernel))) va_nil))))))))
    (b_one (s_ret v_bool))
    b_nil)
    (b_one (s_ret (v_and (v_cmp (op_eqDD hr.units) (v_val (v_callB cr_len (by rfl) T.n_len PySem.boot_len (va_cons (v_pk 0 (pv 0)) va_nil))) (v_val (v_callB cr_len (by rfl) T.n_len PySem.boot_len (va_cons (v_pk 1 (pv 1)) va_nil)))) (v_one (v_callB (cr_allD rfl) (by rfl) T.n_all (by decide +kernel) (va_cons (v_val (v_lc (own := [("at", 2), ("one", 3)]) (pn := [0, 1]) (vs := [2, 3]) rfl sc_l_law_alike.nd (i_enumS (by rfl) T.n_enumerate (va_cons (v_pk 1 (pv 1)) va_nil)) (blkOk_by (own := [("at", 2), ("one", 3)]) (N := ["found", "due", "at", "one"]) (sc := (defScope s_l_law_alike)) (by decide +kernel)) (fun _ _ _ _ _ => (g_tup (by rfl) (gs_cons (pg_name (i := 2) sc_l_law_alike.nd rfl (by first | exact .inl rfl | exact .inr rfl)) (by rfl) (gs_cons (pg_name (i := 3) sc_l_law_alike.nd rfl (by first | exact .inl rfl | exact .inr rfl)) (by rfl) gs_nil)))) (fun _ _ _ _ _ => ts_nil) (fun _ _ _ _ _ => (v_call none ih hr (by rfl) T.l_law_alike.g T.l_law_alike.F.kp T.l_law_alike.b takes0 (va_cons (v_val (v_ix (v_pk 0 (pv 0)) (v_pk 2 (pv 2)))) (va_cons (v_pk 3 (pv 3)) va_nil)))) rfl (by decide) (by rfl))) va_nil)))))))
    b_nil)
    (b_cons (s_if (t_cmp op_isNonD (v_pk 1 (pv 1)) (v_val v_none))
    (b_one (s_ret (v_cmp op_isNonD (v_pk 0 (pv 0)) (v_val v_none))))
    b_nil)
    (b_cons (s_if (t_w (w_or (t_val (v_callB cr_isi (by rfl) T.n_isinstance (by decide +kernel) (va_cons (v_pk 1 (pv 1)) (va_cons (v_val (v_type (by rfl) T.n_bool (by decide +kernel))) va_nil)))) (w_or1 (t_val (v_callB cr_isi (by rfl) T.n_isinstance (by decide +kernel) (va_cons (v_pk 0 (pv 0)) (va_cons (v_val (v_type (by rfl) T.n_bool (by decide +kernel))) va_nil)))))))
    (b_one (s_ret (v_and (v_callB cr_isi (by rfl) T.n_isinstance (by decide +kernel) (va_cons (v_pk 1 (pv 1)) (va_cons (v_val (v_type (by rfl) T.n_bool (by decide +kernel))) va_nil))) (v_and (v_callB cr_isi (by rfl) T.n_isinstance (by decide +kernel) (va_cons (v_pk 0 (pv 0)) (va_cons (v_val (v_type (by rfl) T.n_bool (by decide +kernel))) va_nil))) (v_one (v_cmp (op_eqDD hr.units) (v_pk 0 (pv 0)) (v_pk 1 (pv 1))))))))
    b_nil)
    (b_cons (s_if (t_val (v_callB cr_isi (by rfl) T.n_isinstance (by decide +kernel) (va_cons (v_pk 1 (pv 1)) (va_cons (v_val (v_type (by rfl) T.n_int (by decide +kernel))) va_nil))))
    (b_one (s_ret (v_and (v_callB cr_isi (by rfl) T.n_isinstance (by decide +kernel) (va_cons (v_pk 0 (pv 0)) (va_cons (v_val (v_type (by rfl) T.n_int (by decide +kernel))) va_nil))) (v_one (v_cmp (op_eqDD hr.units) (v_pk 0 (pv 0)) (v_pk 1 (pv 1)))))))
    b_nil)
    (b_one (s_ret (v_and (v_callB cr_isi (by rfl) T.n_isinstance (by decide +kernel) (va_cons (v_pk 0 (pv 0)) (va_cons (v_val (v_type (by rfl) T.n_str (by decide +kernel))) va_nil))) (v_and (v_callB cr_isi (by rfl) T.n_isinstance (by decide +kernel) (va_cons (v_pk 1 (pv 1)) (va_cons (v_val (v_type (by rfl) T.n_str (by decide +kernel))) va_nil))) (v_one (v_cmp (op_eqDD hr.units) (v_pk 0 (pv 0)) (v_pk 1 (pv 1)))))))))))))

def B_turns_alike : Fs := (retS (op2 eqD (.val (callE F_form_in none [(.pk 0)])) (.val (callE F_form_in none [(.pk 1)]))))
def F_turns_alike : Fe := bodyF [] 0 B_turns_alike
theorem ok_turns_alike {P : Program} {w : World} {K : PySem.W.Frag} {mg : Str → Option Value} {base : Heap} (T : Txt P K mg) : FnV P w K mg base 3 T.turns_alike.f T.turns_alike.fd ["one", "other"] F_turns_alike :=
  fn_mk T.turns_alike.F sc_turns_alike rfl fun cdv A outer s H E hr =>
    (b_one (s_ret (v_cmp (op_eqDD hr.units) (v_val (v_call none (FnOk.mono (k := 2) (ok_form_in T) (by decide)) hr (by rfl) T.form_in.g T.form_in.F.kp T.form_in.b (takes_of rfl rfl rfl rfl) (va_cons (v_pk 0 (pv 0)) va_nil))) (v_val (v_call none (FnOk.mono (k := 2) (ok_form_in T) (by decide)) hr (by rfl) T.form_in.g T.form_in.F.kp T.form_in.b (takes_of rfl rfl rfl rfl) (va_cons (v_pk 1 (pv 1)) va_nil))))))
def S_cells_of_1 : Fs := (parS 1 2 false true (opC lstC []) (cE (.int 0)))
def S_cells_of_2_1a_1 : Fs := (dropS (mutE 1 appD [(.val (opC tupC [(.val (op2 addD (.pk 2) (.val (cE (.int 1))))), (.val (opN absD [(.pk 3)])), (.val (op2 (cmpI fun i j => decide (j < i)) (.pk 3) (.val (cE (.int 0)))))]))]))
def S_cells_of_2_1a_2 : Fs := (asgZ 2 (opN absD [(.pk 3)]))
def S_cells_of_2_1 : Fs := (ifS (tstE (op2 (cmpI fun i j => decide (j < i)) (.val (opN absD [(.pk 3)])) (.pk 2)))
  (seqS S_cells_of_2_1a_1 S_cells_of_2_1a_2)
  nilS)
def S_cells_of_2 : Fs := (forS (srcC anyLD [(.val (opN revD [(.pk 0)]))]) (nameG 3)
  S_cells_of_2_1)
def S_cells_of_3 : Fs := (retO 1)
def B_cells_of : Fs := (seqS S_cells_of_1 (seqS S_cells_of_2 S_cells_of_3))
def F_cells_of : Fe := bodyF [] 3 B_cells_of
theorem ok_cells_of {P : Program} {w : World} {K : PySem.W.Frag} {mg : Str → Option Value} {base : Heap} (T : Txt P K mg) : FnV P w K mg base 1 T.cells_of.f T.cells_of.fd ["form"] F_cells_of :=
  fn_mk T.cells_of.F sc_cells_of rfl fun cdv A outer s H E hr =>
    (b_cons (s_par (i := 1) (j := 2) (zi := false) (zj := true) (by rfl) sc_cells_of.nd rfl rfl (by decide) rfl rfl (by rfl) (by rfl) (v_lst (va_nil)) v_int (by rfl))
    (b_cons (s_for (passes_of rfl) (by rfl) (i_any (v_val (v_rev (v_pk 0 (pv 0))))) (g_name (pg_name (i := 3) sc_cells_of.nd rfl (by first | exact .inl rfl | exact .inr rfl)) (by rfl))
    (b_one (s_if (t_cmp op_gtD (v_val (v_callB cr_abs (by rfl) T.n_abs (by decide +kernel) (va_cons (v_pk 3 (pv 3)) va_nil))) (v_pk 2 (pv 2)))
    (b_cons (s_expr (v_append (pv 1) (va_cons (v_val (v_tup (va_cons (v_val (v_bin op_addD (v_pk 2 (pv 2)) (v_val v_int))) (va_cons (v_val (v_callB cr_abs (by rfl) T.n_abs (by decide +kernel) (va_cons (v_pk 3 (pv 3)) va_nil))) (va_cons (v_val (v_cmp op_gtD (v_pk 3 (pv 3)) (v_val v_int))) va_nil))))) va_nil)))
    (b_one (s_setZ (i := 2) sc_cells_of.nd rfl (.inl rfl) (by rfl) (v_callB cr_abs (by rfl) T.n_abs (by decide +kernel) (va_cons (v_pk 3 (pv 3)) va_nil)))))
    b_nil)))
    (b_one (s_retO (pv 1)))))

def B_last_cell : Fs := (retS (ifE (tstE (op2 neD (.pk 0) (.val (opC lstC [])))) (op2 ixD (.val (op2 ixD (.pk 0) (.val (op1 negD (.val (cE (.int 1))))))) (.val (cE (.int 1)))) (cE (.int 0))))
def F_last_cell : Fe := bodyF [] 0 B_last_cell
theorem ok_last_cell {P : Program} {w : World} {K : PySem.W.Frag} {mg : Str → Option Value} {base : Heap} (T : Txt P K mg) : FnV P w K mg base 1 T.last_cell.f T.last_cell.fd ["cells"] F_last_cell :=
  fn_mk T.last_cell.F sc_last_cell rfl fun cdv A outer s H E hr =>
    (b_one (s_ret (v_if (t_cmp (op_neDD hr.units) (v_pk 0 (pv 0)) (v_val (v_lst (va_nil)))) (v_ix (v_val (v_ix (v_pk 0 (pv 0)) (v_val (v_un un_negD (v_val v_int))))) (v_val v_int)) v_int)))

def B_is_down_at : Fs := (retS (op2 eqD (.val (lcE [2, 3, 4] (srcC anyLD [(.pk 0)]) (tupG [2, 3, 4]) (tstE (chE (fun i j => decide (i ≤ j)) (fun i j => decide (i ≤ j)) (varE 2) (varE 1) (varE 3))) (varE 4))) (.val (opC lstC [(.val (cE (.bl true)))]))))
def F_is_down_at : Fe := bodyF [] 3 B_is_down_at
theorem ok_is_down_at {P : Program} {w : World} {K : PySem.W.Frag} {mg : Str → Option Value} {base : Heap} (T : Txt P K mg) : FnV P w K mg base 1 T.is_down_at.f T.is_down_at.fd ["cells", "place"] F_is_down_at :=
  fn_mk T.is_down_at.F sc_is_down_at rfl fun cdv A outer s H E hr =>
    (b_one (s_ret (v_cmp (op_eqDD hr.units) (v_val (v_lc (own := [("first", 2), ("last", 3), ("is_down", 4)]) (pn := [0, 1]) (vs := [2, 3, 4]) rfl sc_is_down_at.nd (i_any (v_pk 0 (pv 0))) (blkOk_by (own := [("first", 2), ("last", 3), ("is_down", 4)]) (N := ["cells", "place", "first", "last", "is_down"]) (sc := (defScope s_is_down_at)) (by decide +kernel)) (fun _ _ _ _ _ => (g_tup (by rfl) (gs_cons (pg_name (i := 2) sc_is_down_at.nd rfl (by first | exact .inl rfl | exact .inr rfl)) (by rfl) (gs_cons (pg_name (i := 3) sc_is_down_at.nd rfl (by first | exact .inl rfl | exact .inr rfl)) (by rfl) (gs_cons (pg_name (i := 4) sc_is_down_at.nd rfl (by first | exact .inl rfl | exact .inr rfl)) (by rfl) gs_nil))))) (fun _ _ _ _ _ => (ts_one (t_chain op_le op_le (v_var 2 (pv 2)) (v_var 1 (pv 1)) (v_var 3 (pv 3))))) (fun _ _ _ _ _ => (v_var 4 (pv 4))) rfl (by decide) (by rfl))) (v_val (v_lst (va_cons (v_val v_bool) va_nil))))))
def S_size_apart_1 : Fs := (parS 2 3 true true (callE F_cells_of none [(.pk 0)]) (callE F_cells_of none [(.pk 1)]))
def S_size_apart_2 : Fs := (asgZ 4 (opN minD [(.val (callE F_last_cell none [(.pk 2)])), (.val (callE F_last_cell none [(.pk 3)]))]))
def S_size_apart_3_1 : Fs := (ifS (andT (tstE (op2 (cmpI fun i j => decide (i ≤ j)) (.pk 5) (.pk 4))) (tstE (op2 neD (.val (callE F_is_down_at none [(.pk 2), (.pk 5)])) (.val (callE F_is_down_at none [(.pk 3), (.pk 5)])))))
  (retS (varE 5))
  nilS)
def S_size_apart_3 : Fs := (forS (srcC anyLD [(.val (opN sortedD [(.val (lcE [6] (srcC anyLD [(.val (op2 addD (.pk 2) (.pk 3)))]) (nameG 6) yesT (op2 ixD (.pk 6) (.val (cE (.int 0))))))]))]) (nameG 5)
  S_size_apart_3_1)
def S_size_apart_4 : Fs := (retS (op2 addD (.pk 4) (.val (cE (.int 1)))))
def B_size_apart : Fs := (seqS S_size_apart_1 (seqS S_size_apart_2 (seqS S_size_apart_3 S_size_apart_4)))
def F_size_apart : Fe := bodyF [] 5 B_size_apart
theorem ok_size_apart {P : Program} {w : World} {K : PySem.W.Frag} {mg : Str → Option Value} {base : Heap} (T : Txt P K mg) : FnV P w K mg base 2 T.size_apart.f T.size_apart.fd ["one", "other"] F_size_apart :=
  fn_mk T.size_apart.F sc_size_apart rfl fun cdv A outer s H E hr =>
    (b_cons (s_par (i := 2) (j := 3) (zi := true) (zj := true) (by rfl) sc_size_apart.nd rfl rfl (by decide) rfl rfl (by rfl) (by rfl) (v_call none (FnOk.mono (k := 1) (ok_cells_of T) (by decide)) hr (by rfl) T.cells_of.g T.cells_of.F.kp T.cells_of.b (takes_of rfl rfl rfl rfl) (va_cons (v_pk 0 (pv 0)) va_nil)) (v_call none (FnOk.mono (k := 1) (ok_cells_of T) (by decide)) hr (by rfl) T.cells_of.g T.cells_of.F.kp T.cells_of.b (takes_of rfl rfl rfl rfl) (va_cons (v_pk 1 (pv 1)) va_nil)) (by rfl))
    (b_cons (s_setZ (i := 4) sc_size_apart.nd rfl (.inl rfl) (by rfl) (v_callB (cr_minD rfl) (by rfl) T.n_min (by decide +kernel) (va_cons (v_val (v_call none (FnOk.mono (k := 1) (ok_last_cell T) (by decide)) hr (by rfl) T.last_cell.g T.last_cell.F.kp T.last_cell.b (takes_of rfl rfl rfl rfl) (va_cons (v_pk 2 (pv 2)) va_nil))) (va_cons (v_val (v_call none (FnOk.mono (k := 1) (ok_last_cell T) (by decide)) hr (by rfl) T.last_cell.g T.last_cell.F.kp T.last_cell.b (takes_of rfl rfl rfl rfl) (va_cons (v_pk 3 (pv 3)) va_nil))) va_nil))))
    (b_cons (s_for (passes_of rfl) (by rfl) (i_any (v_val (v_callB cr_sortedD (by rfl) T.n_sorted (by decide +kernel) (va_cons (v_val (v_lc (own := [("cell", 6)]) (pn := [0, 1, 2, 3, 4, 5]) (vs := [6]) rfl sc_size_apart.nd (i_any (v_val (v_bin op_addD (v_pk 2 (pv 2)) (v_pk 3 (pv 3))))) (blkOk_by (own := [("cell", 6)]) (N := ["one", "other", "first", "second", "end", "place", "cell"]) (sc := (defScope s_size_apart)) (by decide +kernel)) (fun _ _ _ _ _ => (g_name (pg_name (i := 6) sc_size_apart.nd rfl (by first | exact .inl rfl | exact .inr rfl)) (by rfl))) (fun _ _ _ _ _ => ts_nil) (fun _ _ _ _ _ => (v_ix (v_pk 6 (pv 6)) (v_val v_int))) rfl (by decide) (by rfl))) va_nil)))) (g_name (pg_name (i := 5) sc_size_apart.nd rfl (by first | exact .inl rfl | exact .inr rfl)) (by rfl))
    (b_one (s_if (t_w (w_and (t_cmp op_leD (v_pk 5 (pv 5)) (v_pk 4 (pv 4))) (w_and1 (t_cmp (op_neDD hr.units) (v_val (v_call none (FnOk.mono (k := 1) (ok_is_down_at T) (by decide)) hr (by rfl) T.is_down_at.g T.is_down_at.F.kp T.is_down_at.b (takes_of rfl rfl rfl rfl) (va_cons (v_pk 2 (pv 2)) (va_cons (v_pk 5 (pv 5)) va_nil)))) (v_val (v_call none (FnOk.mono (k := 1) (ok_is_down_at T) (by decide)) hr (by rfl) T.is_down_at.g T.is_down_at.F.kp T.is_down_at.b (takes_of rfl rfl rfl rfl) (va_cons (v_pk 3 (pv 3)) (va_cons (v_pk 5 (pv 5)) va_nil))))))))
    (b_one (s_ret (v_var 5 (pv 5))))
    b_nil)))
    (b_one (s_ret (v_bin op_addD (v_pk 4 (pv 4)) (v_val v_int)))))))
def S_rise_of_1 : Fs := (unS [2, 3, 4] (varE 1))
def S_rise_of_2 : Fs := (retS (ifE (tstE (op2 ltD (.pk 3) (.pk 4))) (op2 subD (.pk 3) (.pk 2)) (varE 0)))
def B_rise_of : Fs := (seqS S_rise_of_1 S_rise_of_2)
def F_rise_of : Fe := bodyF [] 3 B_rise_of
theorem ok_rise_of {P : Program} {w : World} {K : PySem.W.Frag} {mg : Str → Option Value} {base : Heap} (T : Txt P K mg) : FnV P w K mg base 1 T.rise_of.f T.rise_of.fd ["size", "effect"] F_rise_of :=
  fn_mk T.rise_of.F sc_rise_of rfl fun cdv A outer s H E hr =>
    (b_cons (s_unpack (v_var 1 (pv 1)) (g_tup (by rfl) (gs_cons (pg_name (i := 2) sc_rise_of.nd rfl (by first | exact .inl rfl | exact .inr rfl)) (by rfl) (gs_cons (pg_name (i := 3) sc_rise_of.nd rfl (by first | exact .inl rfl | exact .inr rfl)) (by rfl) (gs_cons (pg_name (i := 4) sc_rise_of.nd rfl (by first | exact .inl rfl | exact .inr rfl)) (by rfl) gs_nil)))))
    (b_one (s_ret (v_if (t_cmp op_ltD (v_pk 3 (pv 3)) (v_pk 4 (pv 4))) (v_bin op_subD (v_pk 3 (pv 3)) (v_pk 2 (pv 2))) (v_var 0 (pv 0))))))
def S_scroll_apart_1 : Fs := (ifS (tstE (op2 neD (.val (op2 ixD (.pk 1) (.val (cE (.int 1))))) (.val (op2 ixD (.pk 2) (.val (cE (.int 1)))))))
  (retS (cE (.int 0)))
  nilS)
def S_scroll_apart_2 : Fs := (parS 3 4 true true (callE F_rise_of none [(.pk 0), (.pk 1)]) (callE F_rise_of none [(.pk 0), (.pk 2)]))
def S_scroll_apart_3 : Fs := (ifS (tstE (op2 neD (.pk 3) (.pk 4)))
  (retS (op2 addD (.val (opN minD [(.pk 3), (.pk 4)])) (.val (cE (.int 1)))))
  nilS)
def S_scroll_apart_4 : Fs := (retS (op2 addD (.val (op2 subD (.val (opN minD [(.val (op2 ixD (.pk 1) (.val (cE (.int 2))))), (.val (op2 ixD (.pk 2) (.val (cE (.int 2)))))])) (.val (op2 ixD (.pk 1) (.val (cE (.int 0))))))) (.val (cE (.int 1)))))
def B_scroll_apart : Fs := (seqS S_scroll_apart_1 (seqS S_scroll_apart_2 (seqS S_scroll_apart_3 S_scroll_apart_4)))
def F_scroll_apart : Fe := bodyF [] 2 B_scroll_apart
theorem ok_scroll_apart {P : Program} {w : World} {K : PySem.W.Frag} {mg : Str → Option Value} {base : Heap} (T : Txt P K mg) : FnV P w K mg base 2 T.scroll_apart.f T.scroll_apart.fd ["size", "one", "other"] F_scroll_apart :=
  fn_mk T.scroll_apart.F sc_scroll_apart rfl fun cdv A outer s H E hr =>
    (b_cons (s_if (t_cmp (op_neDD hr.units) (v_val (v_ix (v_pk 1 (pv 1)) (v_val v_int))) (v_val (v_ix (v_pk 2 (pv 2)) (v_val v_int))))
    (b_one (s_ret v_int))
    b_nil)
    (b_cons (s_par (i := 3) (j := 4) (zi := true) (zj := true) (by rfl) sc_scroll_apart.nd rfl rfl (by decide) rfl rfl (by rfl) (by rfl) (v_call none (FnOk.mono (k := 1) (ok_rise_of T) (by decide)) hr (by rfl) T.rise_of.g T.rise_of.F.kp T.rise_of.b (takes_of rfl rfl rfl rfl) (va_cons (v_pk 0 (pv 0)) (va_cons (v_pk 1 (pv 1)) va_nil))) (v_call none (FnOk.mono (k := 1) (ok_rise_of T) (by decide)) hr (by rfl) T.rise_of.g T.rise_of.F.kp T.rise_of.b (takes_of rfl rfl rfl rfl) (va_cons (v_pk 0 (pv 0)) (va_cons (v_pk 2 (pv 2)) va_nil))) (by rfl))
    (b_cons (s_if (t_cmp (op_neDD hr.units) (v_pk 3 (pv 3)) (v_pk 4 (pv 4)))
    (b_one (s_ret (v_bin op_addD (v_val (v_callB (cr_minD rfl) (by rfl) T.n_min (by decide +kernel) (va_cons (v_pk 3 (pv 3)) (va_cons (v_pk 4 (pv 4)) va_nil)))) (v_val v_int))))
    b_nil)
    (b_one (s_ret (v_bin op_addD (v_val (v_bin op_subD (v_val (v_callB (cr_minD rfl) (by rfl) T.n_min (by decide +kernel) (va_cons (v_val (v_ix (v_pk 1 (pv 1)) (v_val v_int))) (va_cons (v_val (v_ix (v_pk 2 (pv 2)) (v_val v_int))) va_nil)))) (v_val (v_ix (v_pk 1 (pv 1)) (v_val v_int))))) (v_val v_int)))))))

def B_effect_from : Fs := (retS (opC tupC [(.val (ifE (tstE (op2 ltD (.pk 1) (.pk 2))) (varE 0) (cE (.int 0)))), (.pk 1), (.pk 2)]))
def F_effect_from : Fe := bodyF [] 0 B_effect_from
theorem ok_effect_from {P : Program} {w : World} {K : PySem.W.Frag} {mg : Str → Option Value} {base : Heap} (T : Txt P K mg) : FnV P w K mg base 1 T.effect_from.f T.effect_from.fd ["shift", "low", "high"] F_effect_from :=
  fn_mk T.effect_from.F sc_effect_from rfl fun cdv A outer s H E hr =>
    (b_one (s_ret (v_tup (va_cons (v_val (v_if (t_cmp op_ltD (v_pk 1 (pv 1)) (v_pk 2 (pv 2))) (v_var 0 (pv 0)) v_int)) (va_cons (v_pk 1 (pv 1)) (va_cons (v_pk 2 (pv 2)) va_nil))))))

def B_between : Fs := (retS (opN maxD [(.pk 1), (.val (opN minD [(.pk 2), (.pk 0)]))]))
def F_between : Fe := bodyF [] 0 B_between
theorem ok_between {P : Program} {w : World} {K : PySem.W.Frag} {mg : Str → Option Value} {base : Heap} (T : Txt P K mg) : FnV P w K mg base 1 T.between.f T.between.fd ["number", "least", "greatest"] F_between :=
  fn_mk T.between.F sc_between rfl fun cdv A outer s H E hr =>
    (b_one (s_ret (v_callB (cr_maxD rfl) (by rfl) T.n_max (by decide +kernel) (va_cons (v_pk 1 (pv 1)) (va_cons (v_val (v_callB (cr_minD rfl) (by rfl) T.n_min (by decide +kernel) (va_cons (v_pk 2 (pv 2)) (va_cons (v_pk 0 (pv 0)) va_nil)))) va_nil)))))
def S_effect_in_1 : Fs := (parS 2 3 true true (cE (.int 0)) (varE 0))
def S_effect_in_2_1 : Fs := (parS 2 3 true true (callE F_between none [(.val (op2 addD (.pk 2) (.pk 4))), (.val (cE (.int 0))), (.pk 0)]) (callE F_between none [(.val (op2 addD (.pk 3) (.pk 4))), (.val (cE (.int 0))), (.pk 0)]))
def S_effect_in_2 : Fs := (forS (srcC anyLD [(.pk 1)]) (nameG 4)
  S_effect_in_2_1)
def S_effect_in_3 : Fs := (retS (callE F_effect_from none [(.val (opN sumD [(.pk 1)])), (.pk 2), (.pk 3)]))
def B_effect_in : Fs := (seqS S_effect_in_1 (seqS S_effect_in_2 S_effect_in_3))
def F_effect_in : Fe := bodyF [] 3 B_effect_in
theorem ok_effect_in {P : Program} {w : World} {K : PySem.W.Frag} {mg : Str → Option Value} {base : Heap} (T : Txt P K mg) : FnV P w K mg base 2 T.effect_in.f T.effect_in.fd ["size", "turns"] F_effect_in :=
  fn_mk T.effect_in.F sc_effect_in rfl fun cdv A outer s H E hr =>
    (b_cons (s_par (i := 2) (j := 3) (zi := true) (zj := true) (by rfl) sc_effect_in.nd rfl rfl (by decide) rfl rfl (by rfl) (by rfl) v_int (v_var 0 (pv 0)) (by rfl))
    (b_cons (s_for (passes_of rfl) (by rfl) (i_any (v_pk 1 (pv 1))) (g_name (pg_name (i := 4) sc_effect_in.nd rfl (by first | exact .inl rfl | exact .inr rfl)) (by rfl))
    (b_one (s_par (i := 2) (j := 3) (zi := true) (zj := true) (by rfl) sc_effect_in.nd rfl rfl (by decide) rfl rfl (by rfl) (by rfl) (v_call none (FnOk.mono (k := 1) (ok_between T) (by decide)) hr (by rfl) T.between.g T.between.F.kp T.between.b (takes_of rfl rfl rfl rfl) (va_cons (v_val (v_bin op_addD (v_pk 2 (pv 2)) (v_pk 4 (pv 4)))) (va_cons (v_val v_int) (va_cons (v_pk 0 (pv 0)) va_nil)))) (v_call none (FnOk.mono (k := 1) (ok_between T) (by decide)) hr (by rfl) T.between.g T.between.F.kp T.between.b (takes_of rfl rfl rfl rfl) (va_cons (v_val (v_bin op_addD (v_pk 3 (pv 3)) (v_pk 4 (pv 4)))) (va_cons (v_val v_int) (va_cons (v_pk 0 (pv 0)) va_nil)))) (by rfl))))
    (b_one (s_ret (v_call none (FnOk.mono (k := 1) (ok_effect_from T) (by decide)) hr (by rfl) T.effect_from.g T.effect_from.F.kp T.effect_from.b (takes_of rfl rfl rfl rfl) (va_cons (v_val (v_callB (cr_sumD rfl) (by rfl) T.n_sum (by decide +kernel) (va_cons (v_pk 1 (pv 1)) va_nil))) (va_cons (v_pk 2 (pv 2)) (va_cons (v_pk 3 (pv 3)) va_nil))))))))
def S_room_apart_1 : Fs := (parS 2 3 true true (callE F_form_in none [(.pk 0)]) (callE F_form_in none [(.pk 1)]))
def S_room_apart_2 : Fs := (ifS (tstE (op2 eqD (.pk 2) (.pk 3)))
  (retS (cE .non))
  nilS)
def S_room_apart_3 : Fs := (asgZ 4 (callE F_size_apart none [(.pk 2), (.pk 3)]))
def S_room_apart_4 : Fs := (retS (opC tupC [(.pk 4), (.val (callE F_scroll_apart none [(.pk 4), (.val (callE F_effect_in none [(.pk 4), (.pk 2)])), (.val (callE F_effect_in none [(.pk 4), (.pk 3)]))]))]))
def B_room_apart : Fs := (seqS S_room_apart_1 (seqS S_room_apart_2 (seqS S_room_apart_3 S_room_apart_4)))
def F_room_apart : Fe := bodyF [] 3 B_room_apart
theorem ok_room_apart {P : Program} {w : World} {K : PySem.W.Frag} {mg : Str → Option Value} {base : Heap} (T : Txt P K mg) : FnV P w K mg base 3 T.room_apart.f T.room_apart.fd ["one", "other"] F_room_apart :=
  fn_mk T.room_apart.F sc_room_apart rfl fun cdv A outer s H E hr =>
    (b_cons (s_par (i := 2) (j := 3) (zi := true) (zj := true) (by rfl) sc_room_apart.nd rfl rfl (by decide) rfl rfl (by rfl) (by rfl) (v_call none (FnOk.mono (k := 2) (ok_form_in T) (by decide)) hr (by rfl) T.form_in.g T.form_in.F.kp T.form_in.b (takes_of rfl rfl rfl rfl) (va_cons (v_pk 0 (pv 0)) va_nil)) (v_call none (FnOk.mono (k := 2) (ok_form_in T) (by decide)) hr (by rfl) T.form_in.g T.form_in.F.kp T.form_in.b (takes_of rfl rfl rfl rfl) (va_cons (v_pk 1 (pv 1)) va_nil)) (by rfl))
    (b_cons (s_if (t_cmp (op_eqDD hr.units) (v_pk 2 (pv 2)) (v_pk 3 (pv 3)))
    (b_one (s_ret v_none))
    b_nil)
    (b_cons (s_setZ (i := 4) sc_room_apart.nd rfl (.inl rfl) (by rfl) (v_call none (FnOk.mono (k := 2) (ok_size_apart T) (by decide)) hr (by rfl) T.size_apart.g T.size_apart.F.kp T.size_apart.b (takes_of rfl rfl rfl rfl) (va_cons (v_pk 2 (pv 2)) (va_cons (v_pk 3 (pv 3)) va_nil))))
    (b_one (s_ret (v_tup (va_cons (v_pk 4 (pv 4)) (va_cons (v_val (v_call none (FnOk.mono (k := 2) (ok_scroll_apart T) (by decide)) hr (by rfl) T.scroll_apart.g T.scroll_apart.F.kp T.scroll_apart.b (takes_of rfl rfl rfl rfl) (va_cons (v_pk 4 (pv 4)) (va_cons (v_val (v_call none (FnOk.mono (k := 2) (ok_effect_in T) (by decide)) hr (by rfl) T.effect_in.g T.effect_in.F.kp T.effect_in.b (takes_of rfl rfl rfl rfl) (va_cons (v_pk 4 (pv 4)) (va_cons (v_pk 2 (pv 2)) va_nil)))) (va_cons (v_val (v_call none (FnOk.mono (k := 2) (ok_effect_in T) (by decide)) hr (by rfl) T.effect_in.g T.effect_in.F.kp T.effect_in.b (takes_of rfl rfl rfl rfl) (va_cons (v_pk 4 (pv 4)) (va_cons (v_pk 3 (pv 3)) va_nil)))) va_nil))))) va_nil))))))))

def B_is_short : Fs := (retS (op2 eqD (.val (callE F_form_in none [(.pk 0)])) (.pk 0)))
def F_is_short : Fe := bodyF [] 0 B_is_short
theorem ok_is_short {P : Program} {w : World} {K : PySem.W.Frag} {mg : Str → Option Value} {base : Heap} (T : Txt P K mg) : FnV P w K mg base 3 T.is_short.f T.is_short.fd ["turns"] F_is_short :=
  fn_mk T.is_short.F sc_is_short rfl fun cdv A outer s H E hr =>
    (b_one (s_ret (v_cmp (op_eqDD hr.units) (v_val (v_call none (FnOk.mono (k := 2) (ok_form_in T) (by decide)) hr (by rfl) T.form_in.g T.form_in.F.kp T.form_in.b (takes_of rfl rfl rfl rfl) (va_cons (v_pk 0 (pv 0)) va_nil))) (v_pk 0 (pv 0)))))
def S_l_law_right_1 : Fs := (asgZ 1 (callE F_l_law_one (some 0) [(.pk 0), (.val (opC lstC [(.val (cE (.int 2))), (.val (cE (.int 3))), (.val (cE (.int 7)))]))]))
def S_l_law_right_2 : Fs := (asgZ 2 (lcE [13] (srcN rangeD1 [(.val (callE F_l_law_dip (some 0) [(.pk 0), (.val (cE (.int 10)))]))]) (nameG 13) yesT (op2 subD (.val (callE F_l_law_dip (some 0) [(.pk 0), (.val (op2 addD (.val (op2 mulD (.val (cE (.int 2))) (.pk 1))) (.val (cE (.int 1)))))])) (.pk 1))))
def S_l_law_right_3 : Fs := (asgZ 3 (callE F_l_law_turned (some 0) [(.pk 0), (.pk 2)]))
def S_l_law_right_4 : Fs := (asgZ 3 (ifE (tstE (op2 eqD (.val (callE F_l_law_dip (some 0) [(.pk 0), (.val (cE (.int 2)))])) (.val (cE (.int 0))))) (callE F_l_law_turned (some 0) [(.pk 0), (.pk 3)]) (varE 3)))
def S_l_law_right_5_1 : Fs := (asgZ 5 (callE F_l_law_short (some 0) [(.pk 0), (.pk 4)]))
def S_l_law_right_5_2 : Fs := (asgS 6 (callE F_short_form none [(.pk 4)]))
def S_l_law_right_5_3 : Fs := (ifS (notT (tstE (callLL (F_l_law_alike 70) [(.disp [(.pk 6), (.val (callKE F_short_form [0] [(.pk 4)])), (.val (callE F_short_form none [(.pk 5)]))]), (.disp [(.pk 5), (.pk 5), (.pk 5)])])))
  (retS (cE (.bl false)))
  nilS)
def S_l_law_right_5_4 : Fs := (asgZ 7 (op2 eqD (.pk 5) (.pk 4)))
def S_l_law_right_5_5 : Fs := (ifS (orT (notT (tstE (callE (F_l_law_alike 70) none [(.val (opC lstC [(.val (callE F_is_short none [(.pk 4)])), (.val (callKE F_is_short [0] [(.pk 4)])), (.val (callE F_is_short none [(.pk 5)]))])), (.val (opC lstC [(.pk 7), (.pk 7), (.val (cE (.bl true)))]))]))) (tstE (op2 neD (.pk 7) (.val (andE (op2 eqD (.val (callE F_l_law_gathered none [(.pk 4)])) (.pk 4)) (op2 eqD (.val (callE F_l_law_joinings none [(.pk 4)])) (.val (opC lstC []))))))))
  (retS (cE (.bl false)))
  nilS)
def S_l_law_right_5_6 : Fs := (ifS (tstE (op2 neD (.val (lcE [14] (srcN rangeD2 [(.val (cE (.int 2))), (.val (opN lenD [(.pk 5)]))]) (nameG 14) (tstE (op2 (cmpI fun i j => decide (j ≤ i)) (.val (opN absD [(.val (op2 ixD (.pk 5) (.pk 14)))])) (.val (opN absD [(.val (op2 ixD (.pk 5) (.val (op2 subD (.pk 14) (.val (cE (.int 1)))))))])))) (varE 14))) (.val (opC lstC []))))
  (retS (cE (.bl false)))
  nilS)
def S_l_law_right_5_7 : Fs := (dropS (mutE 6 appD [(.val (cE (.int 0)))]))
def S_l_law_right_5L : Fs := (seqS S_l_law_right_5_1 (seqS S_l_law_right_5_2 (seqS S_l_law_right_5_3 (seqS S_l_law_right_5_4 (seqS S_l_law_right_5_5 (seqS S_l_law_right_5_6 S_l_law_right_5_7))))))
def S_l_law_right_5 : Fs := (forS (srcC anyLD [(.val (opC lstC [(.pk 2), (.pk 3)]))]) (nameG 4)
  S_l_law_right_5L)
def S_l_law_right_6 : Fs := (asgZ 8 (callE F_l_law_is_like none [(.pk 2), (.pk 3), (.val (op2 addD (.val (cE (.int 1))) (.val (opN maxD [(.val (opN sumD [(.val (lcE [13] (srcC anyLD [(.val (callE F_short_form none [(.pk 2)]))]) (nameG 13) yesT (opN absD [(.pk 13)])))])), (.val (opN sumD [(.val (lcE [13] (srcC anyLD [(.val (callE F_short_form none [(.pk 3)]))]) (nameG 13) yesT (opN absD [(.pk 13)])))]))]))))]))
def S_l_law_right_7 : Fs := (asgZ 9 (op2 eqD (.val (callE F_l_law_short (some 0) [(.pk 0), (.pk 2)])) (.val (callE F_l_law_short (some 0) [(.pk 0), (.pk 3)]))))
def S_l_law_right_8 : Fs := (ifS (orT (tstE (op2 neD (.val (op2 isNonD (.pk 8) (.val (cE .non)))) (.pk 9))) (notT (tstE (callE (F_l_law_alike 70) none [(.val (opC lstC [(.val (callE F_turns_alike none [(.pk 2), (.pk 3)])), (.val (callKE F_turns_alike [1, 0] [(.pk 3), (.pk 2)]))])), (.val (opC lstC [(.pk 9), (.pk 9)]))]))))
  (retS (cE (.bl false)))
  nilS)
def S_l_law_right_9 : Fs := (ifS (notT (tstE (callE (F_l_law_alike 70) none [(.val (opC lstC [(.val (callE F_room_apart none [(.pk 2), (.pk 3)])), (.val (callKE F_room_apart [1, 0] [(.pk 3), (.pk 2)]))])), (.val (opC lstC [(.pk 8), (.pk 8)]))])))
  (retS (cE (.bl false)))
  nilS)
def S_l_law_right_10 : Fs := (asgZ 10 (op2 addD (.val (op2 powD (.val (cE (.int 10))) (.val (cE (.int 28))))) (.val (cE (.int 3)))))
def S_l_law_right_11 : Fs := (parS 11 12 true true (lcE [13] (srcC anyLD [(.pk 2)]) (nameG 13) yesT (op2 mulD (.pk 13) (.pk 10))) (lcE [13] (srcC anyLD [(.pk 3)]) (nameG 13) yesT (op2 mulD (.pk 13) (.pk 10))))
def S_l_law_right_12 : Fs := (retS (andE (op2 eqD (.val (callE F_short_form none [(.pk 11)])) (.val (lcE [13] (srcC anyLD [(.val (callE F_l_law_short (some 0) [(.pk 0), (.pk 2)]))]) (nameG 13) yesT (op2 mulD (.pk 13) (.pk 10))))) (callE (F_l_law_alike 70) none [(.val (callE F_turns_alike none [(.pk 11), (.pk 12)])), (.pk 9)])))
def B_l_law_right : Fs := (seqS S_l_law_right_1 (seqS S_l_law_right_2 (seqS S_l_law_right_3 (seqS S_l_law_right_4 (seqS S_l_law_right_5 (seqS S_l_law_right_6 (seqS S_l_law_right_7 (seqS S_l_law_right_8 (seqS S_l_law_right_9 (seqS S_l_law_right_10 (seqS S_l_law_right_11 S_l_law_right_12)))))))))))
def F_l_law_right : Fe := bodyF [0] 14 B_l_law_right
theorem ok_l_law_right {P : Program} {w : World} {K : PySem.W.Frag} {mg : Str → Option Value} {base : Heap} (T : Txt P K mg) : FnV P w K mg base 71 T.l_law_right.f T.l_law_right.fd ["well"] F_l_law_right :=
  fn_mk T.l_law_right.F sc_l_law_right rfl fun cdv A outer s H E hr =>
    (b_cons (s_setZ (i := 1) sc_l_law_right.nd rfl (.inr rfl) (by rfl) (v_call (some 0) (FnOk.mono (k := 70) (ok_l_law_one T) (by decide)) hr (by rfl) T.l_law_one.g T.l_law_one.F.kp T.l_law_one.b (takes_of rfl rfl rfl rfl) (va_cons (v_pk 0 (pv 0)) (va_cons (v_val (v_lst (va_cons (v_val v_int) (va_cons (v_val v_int) (va_cons (v_val v_int) va_nil))))) va_nil))))
    (b_cons (s_setLcZ (i := 2) (own := [("turn", 13)]) (pn := [0, 1, 2, 3, 4, 5, 6, 7, 8, 9, 10, 11, 12, 14]) (vs := [13]) rfl sc_l_law_right.nd rfl rfl (by rfl) (sw_true rfl rfl rfl (by decide +kernel)) (i_range1 (by rfl) T.n_range (va_cons (v_val (v_call (some 0) (FnOk.mono (k := 70) (ok_l_law_dip T) (by decide)) hr (by rfl) T.l_law_dip.g T.l_law_dip.F.kp T.l_law_dip.b (takes_of rfl rfl rfl rfl) (va_cons (v_pk 0 (pv 0)) (va_cons (v_val v_int) va_nil)))) va_nil)) (blkOk_by (own := [("turn", 13)]) (N := ["well", "most", "one", "other", "turns", "due", "told", "is_due", "apart", "is_like", "great", "far", "wide", "turn", "at"]) (sc := (defScope s_l_law_right)) (by decide +kernel)) (fun _ _ _ _ _ => (g_name (pg_name (i := 13) sc_l_law_right.nd rfl (by first | exact .inl rfl | exact .inr rfl)) (by rfl))) (fun _ _ _ _ _ => ts_nil) (fun _ _ _ _ _ => (v_bin op_subD (v_val (v_call (some 0) (FnOk.mono (k := 70) (ok_l_law_dip T) (by decide)) hr (by rfl) T.l_law_dip.g T.l_law_dip.F.kp T.l_law_dip.b takes0 (va_cons (v_pk 0 (pv 0)) (va_cons (v_val (v_bin op_addD (v_val (v_bin op_mulD (v_val v_int) (v_pk 1 (pv 1)))) (v_val v_int))) va_nil)))) (v_pk 1 (pv 1)))) rfl (by decide) (by rfl))
    (b_cons (s_setZ (i := 3) sc_l_law_right.nd rfl (.inl rfl) (by rfl) (v_call (some 0) (FnOk.mono (k := 70) (ok_l_law_turned T) (by decide)) hr (by rfl) T.l_law_turned.g T.l_law_turned.F.kp T.l_law_turned.b (takes_of rfl rfl rfl rfl) (va_cons (v_pk 0 (pv 0)) (va_cons (v_pk 2 (pv 2)) va_nil))))
    (b_cons (s_setZ (i := 3) sc_l_law_right.nd rfl (.inl rfl) (by rfl) (v_if (t_cmp (op_eqDD hr.units) (v_val (v_call (some 0) (FnOk.mono (k := 70) (ok_l_law_dip T) (by decide)) hr (by rfl) T.l_law_dip.g T.l_law_dip.F.kp T.l_law_dip.b (takes_of rfl rfl rfl rfl) (va_cons (v_pk 0 (pv 0)) (va_cons (v_val v_int) va_nil)))) (v_val v_int)) (v_call (some 0) (FnOk.mono (k := 70) (ok_l_law_turned T) (by decide)) hr (by rfl) T.l_law_turned.g T.l_law_turned.F.kp T.l_law_turned.b (takes_of rfl rfl rfl rfl) (va_cons (v_pk 0 (pv 0)) (va_cons (v_pk 3 (pv 3)) va_nil))) (v_var 3 (pv 3))))
    (b_cons (s_for (passes_of rfl) (by rfl) (i_any (v_val (v_lst (va_cons (v_pk 2 (pv 2)) (va_cons (v_pk 3 (pv 3)) va_nil))))) (g_name (pg_name (i := 4) sc_l_law_right.nd rfl (by first | exact .inl rfl | exact .inr rfl)) (by rfl))
    (b_cons (s_setZ (i := 5) sc_l_law_right.nd rfl (.inr rfl) (by rfl) (v_call (some 0) (FnOk.mono (k := 70) (ok_l_law_short T) (by decide)) hr (by rfl) T.l_law_short.g T.l_law_short.F.kp T.l_law_short.b (takes_of rfl rfl rfl rfl) (va_cons (v_pk 0 (pv 0)) (va_cons (v_pk 4 (pv 4)) va_nil))))
    (b_cons (s_set (i := 6) sc_l_law_right.nd rfl (.inl rfl) (by rfl) (v_call none (FnOk.mono (k := 70) (ok_short_form T) (by decide)) hr (by rfl) T.short_form.g T.short_form.F.kp T.short_form.b (takes_of rfl rfl rfl rfl) (va_cons (v_pk 4 (pv 4)) va_nil)))
    (b_cons (s_if (t_not (t_val (v_callLL (FnOk.mono (k := 70) (ok_l_law_alike T 70) (by decide)) hr (by rfl) T.l_law_alike.g T.l_law_alike.F.kp T.l_law_alike.b (takes_of rfl rfl rfl rfl) (la_disp (va_cons (v_pk 6 (pv 6)) (va_cons (v_val (v_callK0 (ks := ["turns"]) [0] (FnOk.mono (k := 70) (ok_short_form T) (by decide)) hr (by rfl) T.short_form.g T.short_form.F.kp (Fun.kbinds 0 [0] T.short_form.F (by decide) fun _ _ _ _ _ _ us ws hu hw => match us, ws, hu, hw with | [], [_], _, _ => rfl) (takes_of rfl rfl rfl rfl) (vk_cons (v_pk 4 (pv 4)) vk_nil))) (va_cons (v_val (v_call none (FnOk.mono (k := 70) (ok_short_form T) (by decide)) hr (by rfl) T.short_form.g T.short_form.F.kp T.short_form.b (takes_of rfl rfl rfl rfl) (va_cons (v_pk 5 (pv 5)) va_nil))) va_nil))) (la_disp (va_cons (v_pk 5 (pv 5)) (va_cons (v_pk 5 (pv 5)) (va_cons (v_pk 5 (pv 5)) va_nil))) la_nil)))))
    (b_one (s_ret v_bool))
    b_nil)
    (b_cons (s_setZ (i := 7) sc_l_law_right.nd rfl (.inl rfl) (by rfl) (v_cmp (op_eqDD hr.units) (v_pk 5 (pv 5)) (v_pk 4 (pv 4))))
    (b_cons (s_if (t_w (w_or (t_not (t_val (v_call none (FnOk.mono (k := 70) (ok_l_law_alike T 70) (by decide)) hr (by rfl) T.l_law_alike.g T.l_law_alike.F.kp T.l_law_alike.b (takes_of rfl rfl rfl rfl) (va_cons (v_val (v_lst (va_cons (v_val (v_call none (FnOk.mono (k := 70) (ok_is_short T) (by decide)) hr (by rfl) T.is_short.g T.is_short.F.kp T.is_short.b (takes_of rfl rfl rfl rfl) (va_cons (v_pk 4 (pv 4)) va_nil))) (va_cons (v_val (v_callK0 (ks := ["turns"]) [0] (FnOk.mono (k := 70) (ok_is_short T) (by decide)) hr (by rfl) T.is_short.g T.is_short.F.kp (Fun.kbinds 0 [0] T.is_short.F (by decide) fun _ _ _ _ _ _ us ws hu hw => match us, ws, hu, hw with | [], [_], _, _ => rfl) (takes_of rfl rfl rfl rfl) (vk_cons (v_pk 4 (pv 4)) vk_nil))) (va_cons (v_val (v_call none (FnOk.mono (k := 70) (ok_is_short T) (by decide)) hr (by rfl) T.is_short.g T.is_short.F.kp T.is_short.b (takes_of rfl rfl rfl rfl) (va_cons (v_pk 5 (pv 5)) va_nil))) va_nil))))) (va_cons (v_val (v_lst (va_cons (v_pk 7 (pv 7)) (va_cons (v_pk 7 (pv 7)) (va_cons (v_val v_bool) va_nil))))) va_nil))))) (w_or1 (t_cmp (op_neDD hr.units) (v_pk 7 (pv 7)) (v_val (v_and (v_cmp (op_eqDD hr.units) (v_val (v_call none (FnOk.mono (k := 70) (ok_l_law_gathered T) (by decide)) hr (by rfl) T.l_law_gathered.g T.l_law_gathered.F.kp T.l_law_gathered.b (takes_of rfl rfl rfl rfl) (va_cons (v_pk 4 (pv 4)) va_nil))) (v_pk 4 (pv 4))) (v_one (v_cmp (op_eqDD hr.units) (v_val (v_call none (FnOk.mono (k := 70) (ok_l_law_joinings T) (by decide)) hr (by rfl) T.l_law_joinings.g T.l_law_joinings.F.kp T.l_law_joinings.b (takes_of rfl rfl rfl rfl) (va_cons (v_pk 4 (pv 4)) va_nil))) (v_val (v_lst (va_nil)))))))))))
    (b_one (s_ret v_bool))
    b_nil)
    (b_cons (s_if (t_cmp (op_neDD hr.units) (v_val (v_lc (own := [("at", 14)]) (pn := [0, 1, 2, 3, 4, 5, 6, 7, 8, 9, 10, 11, 12, 13]) (vs := [14]) rfl sc_l_law_right.nd (i_range2 (by rfl) T.n_range (va_cons (v_val v_int) (va_cons (v_val (v_callB cr_len (by rfl) T.n_len PySem.boot_len (va_cons (v_pk 5 (pv 5)) va_nil))) va_nil))) (blkOk_by (own := [("at", 14)]) (N := ["well", "most", "one", "other", "turns", "due", "told", "is_due", "apart", "is_like", "great", "far", "wide", "turn", "at"]) (sc := (defScope s_l_law_right)) (by decide +kernel)) (fun _ _ _ _ _ => (g_name (pg_name (i := 14) sc_l_law_right.nd rfl (by first | exact .inl rfl | exact .inr rfl)) (by rfl))) (fun _ _ _ _ _ => (ts_one (t_cmp op_geD (v_val (v_callB cr_abs (by rfl) T.n_abs (by decide +kernel) (va_cons (v_val (v_ix (v_pk 5 (pv 5)) (v_pk 14 (pv 14)))) va_nil))) (v_val (v_callB cr_abs (by rfl) T.n_abs (by decide +kernel) (va_cons (v_val (v_ix (v_pk 5 (pv 5)) (v_val (v_bin op_subD (v_pk 14 (pv 14)) (v_val v_int))))) va_nil)))))) (fun _ _ _ _ _ => (v_var 14 (pv 14))) rfl (by decide) (by rfl))) (v_val (v_lst (va_nil))))
    (b_one (s_ret v_bool))
    b_nil)
    (b_one (s_expr (v_append (pv 6) (va_cons (v_val v_int) va_nil)))))))))))
    (b_cons (s_setZ (i := 8) sc_l_law_right.nd rfl (.inl rfl) (by rfl) (v_call none (FnOk.mono (k := 70) (ok_l_law_is_like T) (by decide)) hr (by rfl) T.l_law_is_like.g T.l_law_is_like.F.kp T.l_law_is_like.b (takes_of rfl rfl rfl rfl) (va_cons (v_pk 2 (pv 2)) (va_cons (v_pk 3 (pv 3)) (va_cons (v_val (v_bin op_addD (v_val v_int) (v_val (v_callB (cr_maxD rfl) (by rfl) T.n_max (by decide +kernel) (va_cons (v_val (v_callB (cr_sumD rfl) (by rfl) T.n_sum (by decide +kernel) (va_cons (v_val (v_lc (own := [("turn", 13)]) (pn := [0, 1, 2, 3, 4, 5, 6, 7, 8, 9, 10, 11, 12, 14]) (vs := [13]) rfl sc_l_law_right.nd (i_any (v_val (v_call none (FnOk.mono (k := 70) (ok_short_form T) (by decide)) hr (by rfl) T.short_form.g T.short_form.F.kp T.short_form.b (takes_of rfl rfl rfl rfl) (va_cons (v_pk 2 (pv 2)) va_nil)))) (blkOk_by (own := [("turn", 13)]) (N := ["well", "most", "one", "other", "turns", "due", "told", "is_due", "apart", "is_like", "great", "far", "wide", "turn", "at"]) (sc := (defScope s_l_law_right)) (by decide +kernel)) (fun _ _ _ _ _ => (g_name (pg_name (i := 13) sc_l_law_right.nd rfl (by first | exact .inl rfl | exact .inr rfl)) (by rfl))) (fun _ _ _ _ _ => ts_nil) (fun _ _ _ _ _ => (v_callB cr_abs (by rfl) T.n_abs (by decide +kernel) (va_cons (v_pk 13 (pv 13)) va_nil))) rfl (by decide) (by rfl))) va_nil))) (va_cons (v_val (v_callB (cr_sumD rfl) (by rfl) T.n_sum (by decide +kernel) (va_cons (v_val (v_lc (own := [("turn", 13)]) (pn := [0, 1, 2, 3, 4, 5, 6, 7, 8, 9, 10, 11, 12, 14]) (vs := [13]) rfl sc_l_law_right.nd (i_any (v_val (v_call none (FnOk.mono (k := 70) (ok_short_form T) (by decide)) hr (by rfl) T.short_form.g T.short_form.F.kp T.short_form.b (takes_of rfl rfl rfl rfl) (va_cons (v_pk 3 (pv 3)) va_nil)))) (blkOk_by (own := [("turn", 13)]) (N := ["well", "most", "one", "other", "turns", "due", "told", "is_due", "apart", "is_like", "great", "far", "wide", "turn", "at"]) (sc := (defScope s_l_law_right)) (by decide +kernel)) (fun _ _ _ _ _ => (g_name (pg_name (i := 13) sc_l_law_right.nd rfl (by first | exact .inl rfl | exact .inr rfl)) (by rfl))) (fun _ _ _ _ _ => ts_nil) (fun _ _ _ _ _ => (v_callB cr_abs (by rfl) T.n_abs (by decide +kernel) (va_cons (v_pk 13 (pv 13)) va_nil))) rfl (by decide) (by rfl))) va_nil))) va_nil)))))) va_nil)))))
    (b_cons (s_setZ (i := 9) sc_l_law_right.nd rfl (.inl rfl) (by rfl) (v_cmp (op_eqDD hr.units) (v_val (v_call (some 0) (FnOk.mono (k := 70) (ok_l_law_short T) (by decide)) hr (by rfl) T.l_law_short.g T.l_law_short.F.kp T.l_law_short.b (takes_of rfl rfl rfl rfl) (va_cons (v_pk 0 (pv 0)) (va_cons (v_pk 2 (pv 2)) va_nil)))) (v_val (v_call (some 0) (FnOk.mono (k := 70) (ok_l_law_short T) (by decide)) hr (by rfl) T.l_law_short.g T.l_law_short.F.kp T.l_law_short.b (takes_of rfl rfl rfl rfl) (va_cons (v_pk 0 (pv 0)) (va_cons (v_pk 3 (pv 3)) va_nil))))))
    (b_cons (s_if (t_w (w_or (t_cmp (op_neDD hr.units) (v_val (v_cmp op_isNonD (v_pk 8 (pv 8)) (v_val v_none))) (v_pk 9 (pv 9))) (w_or1 (t_not (t_val (v_call none (FnOk.mono (k := 70) (ok_l_law_alike T 70) (by decide)) hr (by rfl) T.l_law_alike.g T.l_law_alike.F.kp T.l_law_alike.b (takes_of rfl rfl rfl rfl) (va_cons (v_val (v_lst (va_cons (v_val (v_call none (FnOk.mono (k := 70) (ok_turns_alike T) (by decide)) hr (by rfl) T.turns_alike.g T.turns_alike.F.kp T.turns_alike.b (takes_of rfl rfl rfl rfl) (va_cons (v_pk 2 (pv 2)) (va_cons (v_pk 3 (pv 3)) va_nil)))) (va_cons (v_val (v_callK0 (ks := ["other", "one"]) [1, 0] (FnOk.mono (k := 70) (ok_turns_alike T) (by decide)) hr (by rfl) T.turns_alike.g T.turns_alike.F.kp (Fun.kbinds 0 [1, 0] T.turns_alike.F (by decide) fun _ _ _ _ _ _ us ws hu hw => match us, ws, hu, hw with | [], [_, _], _, _ => rfl) (takes_of rfl rfl rfl rfl) (vk_cons (v_pk 3 (pv 3)) (vk_cons (v_pk 2 (pv 2)) vk_nil)))) va_nil)))) (va_cons (v_val (v_lst (va_cons (v_pk 9 (pv 9)) (va_cons (v_pk 9 (pv 9)) va_nil)))) va_nil))))))))
    (b_one (s_ret v_bool))
    b_nil)
    (b_cons (s_if (t_not (t_val (v_call none (FnOk.mono (k := 70) (ok_l_law_alike T 70) (by decide)) hr (by rfl) T.l_law_alike.g T.l_law_alike.F.kp T.l_law_alike.b (takes_of rfl rfl rfl rfl) (va_cons (v_val (v_lst (va_cons (v_val (v_call none (FnOk.mono (k := 70) (ok_room_apart T) (by decide)) hr (by rfl) T.room_apart.g T.room_apart.F.kp T.room_apart.b (takes_of rfl rfl rfl rfl) (va_cons (v_pk 2 (pv 2)) (va_cons (v_pk 3 (pv 3)) va_nil)))) (va_cons (v_val (v_callK0 (ks := ["other", "one"]) [1, 0] (FnOk.mono (k := 70) (ok_room_apart T) (by decide)) hr (by rfl) T.room_apart.g T.room_apart.F.kp (Fun.kbinds 0 [1, 0] T.room_apart.F (by decide) fun _ _ _ _ _ _ us ws hu hw => match us, ws, hu, hw with | [], [_, _], _, _ => rfl) (takes_of rfl rfl rfl rfl) (vk_cons (v_pk 3 (pv 3)) (vk_cons (v_pk 2 (pv 2)) vk_nil)))) va_nil)))) (va_cons (v_val (v_lst (va_cons (v_pk 8 (pv 8)) (va_cons (v_pk 8 (pv 8)) va_nil)))) va_nil)))))
    (b_one (s_ret v_bool))
    b_nil)
    (b_cons (s_setZ (i := 10) sc_l_law_right.nd rfl (.inr rfl) (by rfl) (v_bin op_addD (v_val (v_bin op_powD (v_val v_int) (v_val v_int))) (v_val v_int)))
    (b_cons (s_par (i := 11) (j := 12) (zi := true) (zj := true) (by rfl) sc_l_law_right.nd rfl rfl (by decide) rfl rfl (by rfl) (by rfl) (v_lc (own := [("turn", 13)]) (pn := [0, 1, 2, 3, 4, 5, 6, 7, 8, 9, 10, 11, 12, 14]) (vs := [13]) rfl sc_l_law_right.nd (i_any (v_pk 2 (pv 2))) (blkOk_by (own := [("turn", 13)]) (N := ["well", "most", "one", "other", "turns", "due", "told", "is_due", "apart", "is_like", "great", "far", "wide", "turn", "at"]) (sc := (defScope s_l_law_right)) (by decide +kernel)) (fun _ _ _ _ _ => (g_name (pg_name (i := 13) sc_l_law_right.nd rfl (by first | exact .inl rfl | exact .inr rfl)) (by rfl))) (fun _ _ _ _ _ => ts_nil) (fun _ _ _ _ _ => (v_bin op_mulD (v_pk 13 (pv 13)) (v_pk 10 (pv 10)))) rfl (by decide) (by rfl)) (v_lc (own := [("turn", 13)]) (pn := [0, 1, 2, 3, 4, 5, 6, 7, 8, 9, 10, 11, 12, 14]) (vs := [13]) rfl sc_l_law_right.nd (i_any (v_pk 3 (pv 3))) (blkOk_by (own := [("turn", 13)]) (N := ["well", "most", "one", "other", "turns", "due", "told", "is_due", "apart", "is_like", "great", "far", "wide", "turn", "at"]) (sc := (defScope s_l_law_right)) (by decide +kernel)) (fun _ _ _ _ _ => (g_name (pg_name (i := 13) sc_l_law_right.nd rfl (by first | exact .inl rfl | exact .inr rfl)) (by rfl))) (fun _ _ _ _ _ => ts_nil) (fun _ _ _ _ _ => (v_bin op_mulD (v_pk 13 (pv 13)) (v_pk 10 (pv 10)))) rfl (by decide) (by rfl)) (by rfl))
    (b_one (s_ret (v_and (v_cmp (op_eqDD hr.units) (v_val (v_call none (FnOk.mono (k := 70) (ok_short_form T) (by decide)) hr (by rfl) T.short_form.g T.short_form.F.kp T.short_form.b (takes_of rfl rfl rfl rfl) (va_cons (v_pk 11 (pv 11)) va_nil))) (v_val (v_lc (own := [("turn", 13)]) (pn := [0, 1, 2, 3, 4, 5, 6, 7, 8, 9, 10, 11, 12, 14]) (vs := [13]) rfl sc_l_law_right.nd (i_any (v_val (v_call (some 0) (FnOk.mono (k := 70) (ok_l_law_short T) (by decide)) hr (by rfl) T.l_law_short.g T.l_law_short.F.kp T.l_law_short.b (takes_of rfl rfl rfl rfl) (va_cons (v_pk 0 (pv 0)) (va_cons (v_pk 2 (pv 2)) va_nil))))) (blkOk_by (own := [("turn", 13)]) (N := ["well", "most", "one", "other", "turns", "due", "told", "is_due", "apart", "is_like", "great", "far", "wide", "turn", "at"]) (sc := (defScope s_l_law_right)) (by decide +kernel)) (fun _ _ _ _ _ => (g_name (pg_name (i := 13) sc_l_law_right.nd rfl (by first | exact .inl rfl | exact .inr rfl)) (by rfl))) (fun _ _ _ _ _ => ts_nil) (fun _ _ _ _ _ => (v_bin op_mulD (v_pk 13 (pv 13)) (v_pk 10 (pv 10)))) rfl (by decide) (by rfl)))) (v_one (v_call none (FnOk.mono (k := 70) (ok_l_law_alike T 70) (by decide)) hr (by rfl) T.l_law_alike.g T.l_law_alike.F.kp T.l_law_alike.b (takes_of rfl rfl rfl rfl) (va_cons (v_val (v_call none (FnOk.mono (k := 70) (ok_turns_alike T) (by decide)) hr (by rfl) T.turns_alike.g T.turns_alike.F.kp T.turns_alike.b (takes_of rfl rfl rfl rfl) (va_cons (v_pk 11 (pv 11)) (va_cons (v_pk 12 (pv 12)) va_nil)))) (va_cons (v_pk 9 (pv 9)) va_nil))))))))))))))))))
def S_law_1 : Fs := (asgS 1 (callE F_l_law_well none [(.pk 0)]))
def S_law_2_1 : Fs := (ifS (notT (tstE (callE F_l_law_right (some 0) [(.pk 1)])))
  (retS (cE (.bl false)))
  nilS)
def S_law_2 : Fs := (forS (srcN rangeD1 [(.val (cE (.int 16)))]) (nameG 2)
  S_law_2_1)
def S_law_3 : Fs := (asgZ 3 (lcE [2] (srcN rangeD1 [(.val (cE (.int 60)))]) (nameG 2) yesT (op2 subD (.val (callE F_l_law_dip (some 0) [(.pk 1), (.val (op2 mulD (.val (cE (.int 2))) (.val (op2 powD (.val (cE (.int 10))) (.val (cE (.int 29)))))))])) (.val (op2 powD (.val (cE (.int 10))) (.val (cE (.int 29))))))))
def S_law_4 : Fs := (ifS (orT (tstE (op2 neD (.val (callE F_short_form none [(.pk 3)])) (.val (callE F_l_law_short (some 0) [(.pk 1), (.pk 3)])))) (orT (tstE (op2 notBD (.val (callE F_is_short none [(.val (callE F_short_form none [(.pk 3)]))])) (.val (cE (.bl true))))) (tstE (op2 notNonD (.val (callE F_room_apart none [(.pk 3), (.val (callE F_short_form none [(.pk 3)]))])) (.val (cE .non))))))
  (retS (cE (.bl false)))
  nilS)
def S_law_5 : Fs := (asgZ 4 (op2 powD (.val (cE (.int 10))) (.val (cE (.int 29)))))
def S_law_6 : Fs := (retS (andE (op2 eqD (.val (callE F_room_apart none [(.val (opC lstC [(.pk 4)])), (.val (opC lstC [(.val (op2 addD (.pk 4) (.val (cE (.int 1)))))]))])) (.val (opC tupC [(.val (op2 addD (.pk 4) (.val (cE (.int 1))))), (.val (cE (.int 0)))]))) (andE (op2 isNonD (.val (callE F_room_apart none [(.val (opC lstC [])), (.val (opC lstC []))])) (.val (cE .non))) (andE (op2 eqD (.val (callE F_short_form none [(.val (opC lstC [(.val (cE (.int 0))), (.val (cE (.int 0)))]))])) (.val (opC lstC []))) (op2 eqD (.val (callE F_room_apart none [(.val (opC lstC [(.val (op1 negD (.val (cE (.int 1)))))])), (.val (opC lstC []))])) (.val (opC tupC [(.val (cE (.int 1))), (.val (cE (.int 1)))])))))))
def B_law : Fs := (seqS S_law_1 (seqS S_law_2 (seqS S_law_3 (seqS S_law_4 (seqS S_law_5 S_law_6)))))
def F_law : Fe := bodyF [] 4 B_law
theorem ok_law {P : Program} {w : World} {K : PySem.W.Frag} {mg : Str → Option Value} {base : Heap} (T : Txt P K mg) : FnV P w K mg base 72 T.law.f T.law.fd ["script"] F_law :=
  fn_mk T.law.F sc_law rfl fun cdv A outer s H E hr =>
    (b_cons (s_set (i := 1) sc_law.nd rfl (.inr rfl) (by rfl) (v_call none (FnOk.mono (k := 71) (ok_l_law_well T) (by decide)) hr (by rfl) T.l_law_well.g T.l_law_well.F.kp T.l_law_well.b (takes_of rfl rfl rfl rfl) (va_cons (v_pk 0 (pv 0)) va_nil)))
    (b_cons (s_for (passes_of rfl) (by rfl) (i_range1 (by rfl) T.n_range (va_cons (v_val v_int) va_nil)) (g_name (pg_name (i := 2) sc_law.nd rfl (by first | exact .inl rfl | exact .inr rfl)) (by rfl))
    (b_one (s_if (t_not (t_val (v_call (some 0) (FnOk.mono (k := 71) (ok_l_law_right T) (by decide)) hr (by rfl) T.l_law_right.g T.l_law_right.F.kp T.l_law_right.b (takes_of rfl rfl rfl rfl) (va_cons (v_pk 1 (pv 1)) va_nil))))
    (b_one (s_ret v_bool))
    b_nil)))
    (b_cons (s_setLcZ (i := 3) (own := [("turn", 2)]) (pn := [0, 1, 3, 4]) (vs := [2]) rfl sc_law.nd rfl rfl (by rfl) (sw_true rfl rfl rfl (by decide +kernel)) (i_range1 (by rfl) T.n_range (va_cons (v_val v_int) va_nil)) (blkOk_by (own := [("turn", 2)]) (N := ["script", "well", "turn", "far", "great"]) (sc := (defScope s_law)) (by decide +kernel)) (fun _ _ _ _ _ => (g_name (pg_name (i := 2) sc_law.nd rfl (by first | exact .inl rfl | exact .inr rfl)) (by rfl))) (fun _ _ _ _ _ => ts_nil) (fun _ _ _ _ _ => (v_bin op_subD (v_val (v_call (some 0) (FnOk.mono (k := 71) (ok_l_law_dip T) (by decide)) hr (by rfl) T.l_law_dip.g T.l_law_dip.F.kp T.l_law_dip.b takes0 (va_cons (v_pk 1 (pv 1)) (va_cons (v_val (v_bin op_mulD (v_val v_int) (v_val (v_bin op_powD (v_val v_int) (v_val v_int))))) va_nil)))) (v_val (v_bin op_powD (v_val v_int) (v_val v_int))))) rfl (by decide) (by rfl))
    (b_cons (s_if (t_w (w_or (t_cmp (op_neDD hr.units) (v_val (v_call none (FnOk.mono (k := 71) (ok_short_form T) (by decide)) hr (by rfl) T.short_form.g T.short_form.F.kp T.short_form.b (takes_of rfl rfl rfl rfl) (va_cons (v_pk 3 (pv 3)) va_nil))) (v_val (v_call (some 0) (FnOk.mono (k := 71) (ok_l_law_short T) (by decide)) hr (by rfl) T.l_law_short.g T.l_law_short.F.kp T.l_law_short.b (takes_of rfl rfl rfl rfl) (va_cons (v_pk 1 (pv 1)) (va_cons (v_pk 3 (pv 3)) va_nil))))) (w_or (t_cmp op_notBD (v_val (v_call none (FnOk.mono (k := 71) (ok_is_short T) (by decide)) hr (by rfl) T.is_short.g T.is_short.F.kp T.is_short.b (takes_of rfl rfl rfl rfl) (va_cons (v_val (v_call none (FnOk.mono (k := 71) (ok_short_form T) (by decide)) hr (by rfl) T.short_form.g T.short_form.F.kp T.short_form.b (takes_of rfl rfl rfl rfl) (va_cons (v_pk 3 (pv 3)) va_nil))) va_nil))) (v_val v_bool)) (w_or1 (t_cmp op_notNonD (v_val (v_call none (FnOk.mono (k := 71) (ok_room_apart T) (by decide)) hr (by rfl) T.room_apart.g T.room_apart.F.kp T.room_apart.b (takes_of rfl rfl rfl rfl) (va_cons (v_pk 3 (pv 3)) (va_cons (v_val (v_call none (FnOk.mono (k := 71) (ok_short_form T) (by decide)) hr (by rfl) T.short_form.g T.short_form.F.kp T.short_form.b (takes_of rfl rfl rfl rfl) (va_cons (v_pk 3 (pv 3)) va_nil))) va_nil)))) (v_val v_none))))))
    (b_one (s_ret v_bool))
    b_nil)
    (b_cons (s_setZ (i := 4) sc_law.nd rfl (.inl rfl) (by rfl) (v_bin op_powD (v_val v_int) (v_val v_int)))
    (b_one (s_ret (v_and (v_cmp (op_eqDD hr.units) (v_val (v_call none (FnOk.mono (k := 71) (ok_room_apart T) (by decide)) hr (by rfl) T.room_apart.g T.room_apart.F.kp T.room_apart.b (takes_of rfl rfl rfl rfl) (va_cons (v_val (v_lst (va_cons (v_pk 4 (pv 4)) va_nil))) (va_cons (v_val (v_lst (va_cons (v_val (v_bin op_addD (v_pk 4 (pv 4)) (v_val v_int))) va_nil))) va_nil)))) (v_val (v_tup (va_cons (v_val (v_bin op_addD (v_pk 4 (pv 4)) (v_val v_int))) (va_cons (v_val v_int) va_nil))))) (v_and (v_cmp op_isNonD (v_val (v_call none (FnOk.mono (k := 71) (ok_room_apart T) (by decide)) hr (by rfl) T.room_apart.g T.room_apart.F.kp T.room_apart.b (takes_of rfl rfl rfl rfl) (va_cons (v_val (v_lst (va_nil))) (va_cons (v_val (v_lst (va_nil))) va_nil)))) (v_val v_none)) (v_and (v_cmp (op_eqDD hr.units) (v_val (v_call none (FnOk.mono (k := 71) (ok_short_form T) (by decide)) hr (by rfl) T.short_form.g T.short_form.F.kp T.short_form.b (takes_of rfl rfl rfl rfl) (va_cons (v_val (v_lst (va_cons (v_val v_int) (va_cons (v_val v_int) va_nil)))) va_nil))) (v_val (v_lst (va_nil)))) (v_one (v_cmp (op_eqDD hr.units) (v_val (v_call none (FnOk.mono (k := 71) (ok_room_apart T) (by decide)) hr (by rfl) T.room_apart.g T.room_apart.F.kp T.room_apart.b (takes_of rfl rfl rfl rfl) (va_cons (v_val (v_lst (va_cons (v_val (v_un un_negD (v_val v_int))) va_nil))) (va_cons (v_val (v_lst (va_nil))) va_nil)))) (v_val (v_tup (va_cons (v_val v_int) (va_cons (v_val v_int) va_nil))))))))))))))))
end LW

set_option Elab.async false
set_option maxRecDepth 100000
set_option linter.all false

namespace LW
open PySem PySem.Spec PyProof.Rows L2 VL
theorem led_loop (L : D) (s : Int) : ∀ (ts : List Int) (x : Int) (o : O), ∃ o', forL (nameG 3) S_l_law_led_1_1 (ts.map D.int) [.d (.int s), .d L, .d (.int x), o] = .nx [.d (.int s), .d L, .d (.int (Q.led s ts x)), o']
  | [], x, o => ⟨o, rfl⟩
  | t :: ts, x, o => by
    obtain ⟨o', h⟩ := led_loop L s ts (Q.cl s (x + t)) (.d (.int t))
    have e : S_l_law_led_1_1 [.d (.int s), .d L, .d (.int x), .d (.int t)] = .nx [.d (.int s), .d L, .d (.int (Q.cl s (x + t))), .d (.int t)] := by
      simp [S_l_law_led_1_1, Q.cl]
    refine ⟨o', ?_⟩
    rw [List.map_cons, forL_cons]
    simp [e, h, Q.led]
theorem led_eq (s : Int) (ts : List Int) (x : Int) : F_l_law_led [.d (.int s), .d (.lst (ts.map D.int)), .d (.int x)] = .ok (.d (.int (Q.led s ts x)), [.d (.int s), .d (.lst (ts.map D.int)), .d (.int x)]) := by
  obtain ⟨o', h⟩ := led_loop (.lst (ts.map D.int)) s ts x .un
  simp [F_l_law_led, bodyF_ap, B_l_law_led, S_l_law_led_1, S_l_law_led_2, h]
def adT : Ft := (tstE (op2 neD (.pk 2) (.val (cE (.int 0)))))
theorem adT_f (a b o : O) : adT [a, b, .d (.int 0), o] = .ok (false, [a, b, .d (.int 0), o]) := by simp [adT]
theorem adT_t (a b o : O) {w : Int} (h : w ≠ 0) : adT [a, b, .d (.int w), o] = .ok (true, [a, b, .d (.int w), o]) := by simp [adT, h]
theorem add_push (a1 o : O) {fs : List Int} {w : Int} (hz : fs.length < 16777216) (h : ∀ f r, fs = f :: r → (decide (0 < f) == decide (0 < w)) = false ∧ (r = [] ∨ ¬ Q.ab f ≤ Q.ab w)) :
    S_add_turn_2_1 [.fl (fr fs), a1, .d (.int w), o] = .nx [.fl (fr (w :: fs)), a1, .d (.int 0), o] := by
  cases fs with
  | nil => simp [S_add_turn_2_1, S_add_turn_2_1b_1b_1, S_add_turn_2_1b_1b_2]
  | cons f r =>
    obtain ⟨h1, h2⟩ := h f r rfl
    have h4 : r.length + 1 < 16777216 := hz
    rcases h2 with rfl | h2
    · simp [S_add_turn_2_1, S_add_turn_2_1b_1b_1, S_add_turn_2_1b_1b_2, h1]
    · have h3 : ¬ (if f < 0 then -f else f) ≤ (if w < 0 then -w else w) := h2
      simp [S_add_turn_2_1, S_add_turn_2_1b_1b_1, S_add_turn_2_1b_1b_2, h1, h3, h4]
theorem add_same (a1 o : O) {f w : Int} {r : List Int} (h : (decide (0 < f) == decide (0 < w)) = true) :
    S_add_turn_2_1 [.fl (fr (f :: r)), a1, .d (.int w), o] = .nx [.fl (fr r), a1, .d (.int (w + f)), o] := by
  simp [S_add_turn_2_1, h]
theorem add_mid (a1 o : O) {f g w : Int} {r : List Int} (h : (decide (0 < f) == decide (0 < w)) = false) (h2 : Q.ab f ≤ Q.ab w) (h3 : Q.ab f ≤ Q.ab g) :
    S_add_turn_2_1 [.fl (fr (f :: g :: r)), a1, .d (.int w), o] = .nx [.fl (fr r), a1, .d (.int (w + f + g)), .d (.int f)] := by
  have h4 : (if f < 0 then -f else f) ≤ (if w < 0 then -w else w) := h2
  have h5 : (if f < 0 then -f else f) ≤ (if g < 0 then -g else g) := h3
  have h6 : (1 : Int) < (r.length : Int) + 1 + 1 := by omega
  simp [S_add_turn_2_1, S_add_turn_2_1b_1a_1, S_add_turn_2_1b_1a_2, h, h4, h5, h6]
theorem add_first (a1 o : O) {f g w : Int} {r : List Int} (h : (decide (0 < f) == decide (0 < w)) = false) (h2 : Q.ab f ≤ Q.ab w) (h3 : ¬ Q.ab f ≤ Q.ab g) :
    S_add_turn_2_1 [.fl (fr (f :: g :: r)), a1, .d (.int w), o] = .nx [.fl (fr ((g + f) :: r)), a1, .d (.int w), .d (.int f)] := by
  have h4 : (if f < 0 then -f else f) ≤ (if w < 0 then -w else w) := h2
  have h5 : ¬ (if f < 0 then -f else f) ≤ (if g < 0 then -g else g) := h3
  have h6 : (1 : Int) < (r.length : Int) + 1 + 1 := by omega
  simp [S_add_turn_2_1, S_add_turn_2_1b_1a_1, S_add_turn_2_1b_1a_2, h, h4, h5, h6, ixN_last, set_fr]
theorem add_loop (a1 : O) : ∀ (n : Nat) (fs : List Int) (w : Int) (k : Nat) (o : O), fs.length < n → n < k → fs.length < 16777216 →
    ∃ o', whileF adT S_add_turn_2_1 k [.fl (fr fs), a1, .d (.int w), o] = .nx [.fl (fr (Q.add n fs w)), a1, .d (.int 0), o']
  | 0, fs, w, k, o, h, _, _ => absurd h (Nat.not_lt_zero _)
  | n + 1, fs, w, 0, o, h, hk, _ => absurd hk (Nat.not_lt_zero _)
  | n + 1, fs, w, 1, o, h, hk, _ => absurd hk (by omega)
  | n + 1, fs, w, k + 2, o, h, hk, hz => by
    unfold Q.add
    by_cases hw : w = 0
    · subst hw
      exact ⟨o, while_stop (adT_f _ _ _)⟩
    rw [if_neg hw]
    have push : ∀ fs : List Int, fs.length < 16777216 → (∀ f r, fs = f :: r → (decide (0 < f) == decide (0 < w)) = false ∧ (r = [] ∨ ¬ Q.ab f ≤ Q.ab w)) → ∃ o', whileF adT S_add_turn_2_1 (k + 2) [.fl (fr fs), a1, .d (.int w), o] = .nx [.fl (fr (w :: fs)), a1, .d (.int 0), o'] := fun fs hz h => by
      refine ⟨o, ?_⟩
      rw [while_go (adT_t _ _ _ hw) (add_push a1 o hz h), while_stop (adT_f _ _ _)]
    cases fs with
    | nil => exact push [] hz fun f r e => by cases e
    | cons f r =>
      simp only []
      by_cases hs : (f > 0) = (w > 0)
      · rw [if_pos hs]
        have hs' : (decide (0 < f) == decide (0 < w)) = true := by
          have : (0 < f) = (0 < w) := hs
          simp [this]
        rw [while_go (adT_t _ _ _ hw) (add_same a1 o hs')]
        exact add_loop a1 n r (w + f) (k + 1) o (by simp at h; omega) (by omega) (by simp at hz; omega)
      · rw [if_neg hs]
        have hs' : (decide (0 < f) == decide (0 < w)) = false := by
          have : ¬ (0 < f ↔ 0 < w) := fun h => hs (propext h)
          by_cases h1 : 0 < f
          · by_cases h2 : 0 < w
            · exact absurd ⟨fun _ => h2, fun _ => h1⟩ this
            · simp [h1, h2]
          · by_cases h2 : 0 < w
            · simp [h1, h2]
            · exact absurd ⟨fun z => absurd z h1, fun z => absurd z h2⟩ this
        cases r with
        | nil => exact push [f] hz (fun f' r e => by cases e; exact ⟨hs', .inl rfl⟩)
        | cons g r' =>
          simp only []
          by_cases ha : Q.ab f ≤ Q.ab w
          · rw [if_pos ha]
            by_cases hb : Q.ab f ≤ Q.ab g
            · rw [if_pos hb, while_go (adT_t _ _ _ hw) (add_mid a1 o hs' ha hb)]
              exact add_loop a1 n r' (w + f + g) (k + 1) _ (by simp at h; omega) (by omega) (by simp at hz; omega)
            · rw [if_neg hb, while_go (adT_t _ _ _ hw) (add_first a1 o hs' ha hb)]
              exact add_loop a1 n ((g + f) :: r') w (k + 1) _ (by simp at h ⊢; omega) (by omega) (by simp at hz ⊢; omega)
          · rw [if_neg ha]
            exact push (f :: g :: r') hz (fun f' r e => by cases e; exact ⟨hs', .inr ha⟩)
theorem add_eq {fs : List Int} (w : Int) (hz : fs.length < 900000) : F_add_turn [.fl (fr fs), .d (.int w)] = .ok (.d .non, [.fl (fr (Q.addW fs w)), .d (.int w)]) := by
  obtain ⟨o', h⟩ := add_loop (.d (.int w)) (fs.length + 1) fs w 1000000 .un (Nat.lt_succ_self _) (by omega) (by omega)
  have h2 : S_add_turn_2 [.fl (fr fs), .d (.int w), .d (.int w), .un] = .nx [.fl (fr (Q.addW fs w)), .d (.int w), .d (.int 0), o'] := h
  simp [F_add_turn, bodyF_ap, B_add_turn, S_add_turn_1, h2]
theorem add_len : ∀ (n : Nat) (fs : List Int) (w : Int), (Q.add n fs w).length ≤ fs.length + 1
  | 0, fs, w => Nat.le_succ _
  | n + 1, fs, w => by
    unfold Q.add
    split
    · exact Nat.le_succ _
    · cases fs with
      | nil => exact Nat.le_refl _
      | cons f r =>
        simp only []
        split
        · have := add_len n r (w + f)
          simp
          omega
        · cases r with
          | nil => simp
          | cons g r' =>
            simp only []
            split
            · split
              · have := add_len n r' (w + f + g)
                simp
                omega
              · have := add_len n ((g + f) :: r') w
                simp at this ⊢
                omega
            · simp
theorem form_loop (L : D) : ∀ (ts : List Int) (acc : List Int) (o : O), acc.length + ts.length < 900000 → ∃ o', forL (nameG 2) S_form_in_2_1 (ts.map D.int) [.d L, .fl (fr acc), o] = .nx [.d L, .fl (fr (Q.formR acc ts)), o']
  | [], acc, o, _ => ⟨o, rfl⟩
  | t :: ts, acc, o, h => by
    rw [List.length_cons] at h
    have e : S_form_in_2_1 [.d L, .fl (fr acc), .d (.int t)] = .nx [.d L, .fl (fr (Q.addW acc t)), .d (.int t)] := by
      have := add_eq (fs := acc) t (by omega)
      simp [S_form_in_2_1, this]
    have := add_len (acc.length + 1) acc t
    obtain ⟨o', h2⟩ := form_loop L ts (Q.addW acc t) (.d (.int t)) (by
      unfold Q.addW
      omega)
    refine ⟨o', ?_⟩
    rw [List.map_cons, for_go (e1 := [.d L, .fl (fr acc), .d (.int t)]) (by simp) e, h2]
    rfl
theorem form_eq {ts : List Int} (h : ts.length < 900000) : F_form_in [.d (.lst (ts.map D.int))] = .ok (.fl (fr (Q.form ts)), [.d (.lst (ts.map D.int))]) := by
  obtain ⟨o', h2⟩ := form_loop (.lst (ts.map D.int)) ts [] .un (by simpa using h)
  have h3 : forL (nameG 2) S_form_in_2_1 (ts.map D.int) [.d (.lst (ts.map D.int)), .fl [], .un] = .nx [.d (.lst (ts.map D.int)), .fl (fr (Q.form ts)), o'] := h2
  simp [F_form_in, bodyF_ap, B_form_in, S_form_in_1, S_form_in_2, S_form_in_3, h3]
theorem F_alike : F_l_law_alike = alikeF := by
  funext n
  induction n with
  | zero => rfl
  | succ n ih =>
    rw [E_l_law_alike, alikeF_S, ih]
    rfl
theorem F_well : F_l_law_well = wellF := rfl
theorem F_one : F_l_law_one = oneF := rfl
theorem short_eq {ts : List Int} (h : ts.length < 900000) : F_short_form [.d (.lst (ts.map D.int))] = .ok (.fl (fr (Q.form ts)), [.d (.lst (ts.map D.int))]) := by
  have e := form_eq h
  simp [F_short_form, bodyF_ap, B_short_form, e]
theorem is_short_eq {ts : List Int} (h : ts.length < 900000) : F_is_short [.d (.lst (ts.map D.int))] = .ok (.d (.bl (decide ((Q.form ts).reverse = ts))), [.d (.lst (ts.map D.int))]) := by
  have e := form_eq h
  have e2 := eqD_ints (Q.form ts).reverse ts
  rw [← fr_eq] at e2
  simp [F_is_short, bodyF_ap, B_is_short, e, e2]
theorem alike_eq {ts us : List Int} (h : ts.length < 900000) (h2 : us.length < 900000) : F_turns_alike [.d (.lst (ts.map D.int)), .d (.lst (us.map D.int))] = .ok (.d (.bl (decide (Q.form ts = Q.form us))), [.d (.lst (ts.map D.int)), .d (.lst (us.map D.int))]) := by
  have e := form_eq h
  have e1 := form_eq h2
  have e2 := eqD_ints (Q.form ts).reverse (Q.form us).reverse
  have d : decide ((Q.form ts).reverse = (Q.form us).reverse) = decide (Q.form ts = Q.form us) := by simp
  rw [← fr_eq, ← fr_eq, d] at e2
  simp [F_turns_alike, bodyF_ap, B_turns_alike, e, e1, e2]
theorem form_len : ∀ (ts acc : List Int), (Q.formR acc ts).length ≤ acc.length + ts.length
  | [], acc => Nat.le_refl _
  | t :: ts, acc => by
    have := form_len ts (Q.addW acc t)
    have h2 := add_len (acc.length + 1) acc t
    show (Q.formR (Q.addW acc t) ts).length ≤ _
    unfold Q.addW at this h2 ⊢
    simp
    omega
theorem form_le (ts : List Int) : (Q.form ts).length ≤ ts.length := by
  have := form_len ts []
  simpa [Q.form] using this
end LW

set_option Elab.async false
set_option maxRecDepth 100000
set_option linter.all false
namespace LW
open PySem PySem.Spec PyProof.Rows L2 VL
def gatS (acc : List Int) (t : Int) : List Int := if t = 0 then acc else match acc with
  | [] => [t]
  | h :: r => if (h > 0) = (t > 0) then (h + t) :: r else t :: h :: r
theorem gat_S (acc ts : List Int) (t : Int) : Q.gat acc (t :: ts) = Q.gat (gatS acc t) ts := by
  unfold gatS
  conv => lhs; unfold Q.gat
  by_cases ht : t = 0
  · rw [if_pos ht, if_pos ht]
  · rw [if_neg ht, if_neg ht]
    cases acc with
    | nil => rfl
    | cons a r =>
      simp only []
      by_cases hs : (a > 0) = (t > 0)
      · rw [if_pos hs, if_pos hs]
      · rw [if_neg hs, if_neg hs]
theorem gatS_len (acc : List Int) (t : Int) : (gatS acc t).length ≤ acc.length + 1 := by
  unfold gatS
  split
  · omega
  · cases acc with
    | nil => simp
    | cons a r =>
      simp only []
      split <;> simp
theorem gat_step (L : D) {acc : List Int} (t : Int) (hz : acc.length < 16777216) : S_l_law_gathered_2_1 [.d L, .fl (fr acc), .d (.int t)] = .nx [.d L, .fl (fr (gatS acc t)), .d (.int t)] := by
  unfold gatS
  by_cases ht : t = 0
  · subst ht
    rw [if_pos rfl]
    cases acc with
    | nil => simp [S_l_law_gathered_2_1]
    | cons h r => simp [S_l_law_gathered_2_1]
  · rw [if_neg ht]
    cases acc with
    | nil =>
      simp [S_l_law_gathered_2_1, ht]
    | cons h r =>
      simp only []
      have hz2 : r.length + 1 < 16777216 := hz
      by_cases hs : (h > 0) = (t > 0)
      · rw [if_pos hs]
        have hs' : (decide (0 < h) == decide (0 < t)) = true := by
          have : (0 < h) = (0 < t) := hs
          simp [this]
        simp [S_l_law_gathered_2_1, ht, hs', ixN_last, set_fr]
      · rw [if_neg hs]
        have hs' : (decide (0 < h) == decide (0 < t)) = false := by
          have : ¬ (0 < h ↔ 0 < t) := fun z => hs (propext z)
          by_cases h1 : 0 < h
          · by_cases h2 : 0 < t
            · exact absurd ⟨fun _ => h2, fun _ => h1⟩ this
            · simp [h1, h2]
          · by_cases h2 : 0 < t
            · simp [h1, h2]
            · exact absurd ⟨fun z => absurd z h1, fun z => absurd z h2⟩ this
        simp [S_l_law_gathered_2_1, ht, hs', hz2]
theorem gat_loop (L : D) : ∀ (ts acc : List Int) (o : O), acc.length + ts.length < 900000 → ∃ o', forL (nameG 2) S_l_law_gathered_2_1 (ts.map D.int) [.d L, .fl (fr acc), o] = .nx [.d L, .fl (fr (Q.gat acc ts)), o']
  | [], acc, o, _ => ⟨o, by unfold Q.gat; rfl⟩
  | t :: ts, acc, o, h => by
    rw [List.length_cons] at h
    have e := gat_step L (acc := acc) t (by omega)
    have hl := gatS_len acc t
    obtain ⟨o', e2⟩ := gat_loop L ts (gatS acc t) (.d (.int t)) (by omega)
    refine ⟨o', ?_⟩
    rw [List.map_cons, for_go (e1 := [.d L, .fl (fr acc), .d (.int t)]) (by simp) e, e2, gat_S]
theorem gathered_eq {ts : List Int} (h : ts.length < 900000) : F_l_law_gathered [.d (.lst (ts.map D.int))] = .ok (.fl (fr (Q.gat [] ts)), [.d (.lst (ts.map D.int))]) := by
  obtain ⟨o', e⟩ := gat_loop (.lst (ts.map D.int)) ts [] .un (by simpa using h)
  have e2 : forL (nameG 2) S_l_law_gathered_2_1 (ts.map D.int) [.d (.lst (ts.map D.int)), .fl [], .un] = .nx [.d (.lst (ts.map D.int)), .fl (fr (Q.gat [] ts)), o'] := e
  simp [F_l_law_gathered, bodyF_ap, B_l_law_gathered, S_l_law_gathered_1, S_l_law_gathered_2, S_l_law_gathered_3, e2]
theorem at_ix (F : List Int) {k : Nat} (h : k < F.length) : ixL (F.map D.int) (k : Int) = some (.d (.int (Q.at_ F k))) := by
  refine ixL_nat ?_
  rw [List.getElem?_map, List.getElem?_eq_getElem h]
  unfold Q.at_
  rw [List.getD_eq_getElem?_getD, List.getElem?_eq_getElem h]
  rfl
theorem at_ix' (F : List Int) {i : Int} {k : Nat} (e : i = k) (h : k < F.length) : ixL (F.map D.int) i = some (.d (.int (Q.at_ F k))) := by
  subst e
  exact at_ix F h
/-- what is told: places of three, then 0 for the first two -/
structure JL (F : List Int) (js : List Int) : Prop where
  of : ∀ j ∈ js, (∃ k : Nat, j = k ∧ Q.Jn F k) ∨ (j = 0 ∧ Q.J0 F)
  nil : js = [] → (∀ k, ¬ Q.Jn F k) ∧ ¬ Q.J0 F
  len : js.length ≤ F.length + 1
theorem joinings_eq {F : List Int} (h : F.length < 900000) : ∃ js : List Int, F_l_law_joinings [.d (.lst (F.map D.int))] = .ok (.fl (js.map D.int), [.d (.lst (F.map D.int))]) ∧ JL F js := by
  let tst : Ft := (andT (tstE (op2 (cmpI fun i j => decide (i ≤ j)) (.val (opN absD [(.val (op2 ixD (.pk 0) (.pk 2)))])) (.val (opN absD [(.val (op2 ixD (.pk 0) (.val (op2 subD (.pk 2) (.val (cE (.int 1)))))))])))) (tstE (op2 (cmpI fun i j => decide (i ≤ j)) (.val (opN absD [(.val (op2 ixD (.pk 0) (.pk 2)))])) (.val (opN absD [(.val (op2 ixD (.pk 0) (.val (op2 addD (.pk 2) (.val (cE (.int 1)))))))])))))
  let p : Nat → Bool := fun k => decide (Q.ab (Q.at_ F k) ≤ Q.ab (Q.at_ F (k - 1))) && decide (Q.ab (Q.at_ F k) ≤ Q.ab (Q.at_ F (k + 1)))
  let ks : List Int := ((List.range (F.length - 2)).filter fun i => p (i + 1)).map fun (i : Nat) => 1 + (i : Int)
  have e1 : lcL [2] (nameG 2) tst (varE 2) (rangeL 1 (F.length - 2)) [.d (.lst (F.map D.int)), .un, .un] [] = .ok (ks.map D.int, [.d (.lst (F.map D.int)), .un, .un]) := by
    rw [lcL_pure (fun d => match d with
      | .int i => if p i.toNat then some (.int i) else none
      | _ => none) _ [] (fun d m => ?_) (by rw [rangeL_length]; simp; omega)]
    · rw [List.nil_append]
      congr 2
      show (rangeL 1 (F.length - 2)).filterMap _ = (((List.range (F.length - 2)).filter fun i => p (i + 1)).map fun (i : Nat) => 1 + (i : Int)).map D.int
      unfold rangeL
      generalize List.range (F.length - 2) = R
      induction R with
      | nil => rfl
      | cons i R ih =>
        rw [List.map_cons]
        have hi : (1 + ((i : Nat) : Int)).toNat = i + 1 := by omega
        by_cases hp : p (i + 1) = true
        · rw [List.filterMap_cons_some (b := D.int (1 + (i : Int))) (by simp only [hi]; rw [if_pos hp]), ih, List.filter_cons_of_pos (p := fun i => p (i + 1)) hp]
          rfl
        · rw [List.filterMap_cons_none (by simp only [hi]; rw [if_neg hp]), ih, List.filter_cons_of_neg (p := fun i => p (i + 1)) hp]
    · unfold rangeL at m
      obtain ⟨i, hi, rfl⟩ := List.mem_map.mp m
      rw [List.mem_range] at hi
      have a1 := at_ix' F (i := 1 + (i : Int)) (k := i + 1) (by omega) (by omega)
      have a2 := at_ix' F (i := 1 + (i : Int) - 1) (k := i) (by omega) (by omega)
      have a3 := at_ix' F (i := 1 + (i : Int) + 1) (k := i + 2) (by omega) (by omega)
      have hi2 : (1 + ((i : Nat) : Int)).toNat = i + 1 := by omega
      refine ⟨[.d (.lst (F.map D.int)), .un, .d (.int (1 + (i : Int)))], by simp, by simp, by simp, ?_⟩
      have tt : tst [.d (.lst (F.map D.int)), .un, .d (.int (1 + (i : Int)))] = .ok (p (i + 1), [.d (.lst (F.map D.int)), .un, .d (.int (1 + (i : Int)))]) := by
        have p1 : p (i + 1) = (decide ((if Q.at_ F (i + 1) < 0 then -Q.at_ F (i + 1) else Q.at_ F (i + 1)) ≤ (if Q.at_ F i < 0 then -Q.at_ F i else Q.at_ F i)) && decide ((if Q.at_ F (i + 1) < 0 then -Q.at_ F (i + 1) else Q.at_ F (i + 1)) ≤ (if Q.at_ F (i + 2) < 0 then -Q.at_ F (i + 2) else Q.at_ F (i + 2)))) := rfl
        rw [p1]
        by_cases q1 : (if Q.at_ F (i + 1) < 0 then -Q.at_ F (i + 1) else Q.at_ F (i + 1)) ≤ (if Q.at_ F i < 0 then -Q.at_ F i else Q.at_ F i)
        · simp [tst, a1, a2, a3, q1]
        · simp [tst, a1, a2, a3, q1]
      by_cases hp : p (i + 1) = true
      · exact .inr ⟨.d (.int (1 + (i : Int))), by rw [tt, hp], by simp, rfl, by simp only [hi2]; rw [if_pos hp]; rfl⟩
      · have hp' : p (i + 1) = false := by simpa using hp
        exact .inl ⟨by rw [tt, hp'], by simp only [hi2]; rw [if_neg hp]⟩
  let q : Bool := decide (2 < F.length) && (decide (Q.ab (Q.at_ F 0) < Q.ab (Q.at_ F 1)) && decide (Q.ab (Q.at_ F 1) ≤ Q.ab (Q.at_ F 2)))
  have hr1 : okR 1 = true := rfl
  have hr2 : okR ((F.length : Int) - 1) = true := by
    unfold okR
    simp
    omega
  have hn : ((F.length : Int) - 1 - 1).toNat = F.length - 2 := by omega
  have s1 : S_l_law_joinings_1 [.d (.lst (F.map D.int)), .un, .un] = .nx [.d (.lst (F.map D.int)), .d (.lst (ks.map D.int)), .un] := by
    simp [S_l_law_joinings_1, hr1, hr2, hn]
    rw [e1]
    simp
  have hk : ks.length ≤ F.length - 2 := by
    show (((List.range (F.length - 2)).filter fun i => p (i + 1)).map fun (i : Nat) => 1 + (i : Int)).length ≤ _
    rw [List.length_map]
    exact Nat.le_trans (List.length_filter_le _ _) (by rw [List.length_range]; exact Nat.le_refl _)
  have s2 : S_l_law_joinings_2 [.d (.lst (F.map D.int)), .d (.lst (ks.map D.int)), .un] = .rt (.fl ((ks ++ if q then [0] else []).map D.int)) [.d (.lst (F.map D.int)), .d (.lst (ks.map D.int)), .un] := by
    have z1 : ks.length + 1 ≤ 16777216 := by omega
    have z2 : ks.length ≤ 16777216 := by omega
    by_cases q1 : 2 < F.length
    · have a0 := at_ix' F (i := 0) (k := 0) rfl (by omega)
      have a1 := at_ix' F (i := 1) (k := 1) rfl (by omega)
      have a2 := at_ix' F (i := 2) (k := 2) rfl (by omega)
      have q1' : (2 : Int) < (F.length : Int) := by omega
      by_cases q2 : Q.ab (Q.at_ F 0) < Q.ab (Q.at_ F 1)
      · have q2' : (if Q.at_ F 0 < 0 then -Q.at_ F 0 else Q.at_ F 0) < (if Q.at_ F 1 < 0 then -Q.at_ F 1 else Q.at_ F 1) := q2
        by_cases q3 : Q.ab (Q.at_ F 1) ≤ Q.ab (Q.at_ F 2)
        · have q3' : (if Q.at_ F 1 < 0 then -Q.at_ F 1 else Q.at_ F 1) ≤ (if Q.at_ F 2 < 0 then -Q.at_ F 2 else Q.at_ F 2) := q3
          have hq : q = true := by simp [q, q1, q2, q3]
          rw [hq]
          simp [S_l_law_joinings_2, q1', a0, a1, a2, q2', q3', z1]
        · have q3' : ¬ (if Q.at_ F 1 < 0 then -Q.at_ F 1 else Q.at_ F 1) ≤ (if Q.at_ F 2 < 0 then -Q.at_ F 2 else Q.at_ F 2) := q3
          have hq : q = false := by simp [q, q3]
          rw [hq]
          simp [S_l_law_joinings_2, q1', a0, a1, a2, q2', q3', z2]
      · have q2' : ¬ (if Q.at_ F 0 < 0 then -Q.at_ F 0 else Q.at_ F 0) < (if Q.at_ F 1 < 0 then -Q.at_ F 1 else Q.at_ F 1) := q2
        have hq : q = false := by simp [q, q2]
        rw [hq]
        simp [S_l_law_joinings_2, q1', a0, a1, a2, q2', z2]
    · have q1' : ¬ (2 : Int) < (F.length : Int) := by omega
      have hq : q = false := by simp [q, q1]
      rw [hq]
      simp [S_l_law_joinings_2, q1', z2]
  refine ⟨ks ++ if q then [0] else [], ?_, ⟨fun j hj => ?_, fun hnil => ⟨fun k hk => ?_, fun h0 => ?_⟩, ?_⟩⟩
  · have sb : B_l_law_joinings [.d (.lst (F.map D.int)), .un, .un] = .rt (.fl ((ks ++ if q then [0] else []).map D.int)) [.d (.lst (F.map D.int)), .d (.lst (ks.map D.int)), .un] := by
      simp only [B_l_law_joinings, seqS_ap, seq_nx, s1, s2]
    rw [F_l_law_joinings, bodyF_ap]
    show (if okArgs [] 0 [.d (.lst (F.map D.int))] then endOf [] [.d (.lst (F.map D.int))] (B_l_law_joinings [.d (.lst (F.map D.int)), .un, .un]) else .st) = _
    rw [sb]
    rfl
  · rcases List.mem_append.mp hj with hj | hj
    · obtain ⟨i, hi, rfl⟩ := List.mem_map.mp hj
      obtain ⟨h1, h2⟩ := List.mem_filter.mp hi
      rw [List.mem_range] at h1
      have h2 : (decide (Q.ab (Q.at_ F (i + 1)) ≤ Q.ab (Q.at_ F i)) && decide (Q.ab (Q.at_ F (i + 1)) ≤ Q.ab (Q.at_ F (i + 2)))) = true := h2
      simp only [Bool.and_eq_true, decide_eq_true_eq] at h2
      exact .inl ⟨i + 1, by omega, by omega, by omega, h2.1, h2.2⟩
    · cases hq : q with
      | false => rw [hq] at hj; simp at hj
      | true =>
        rw [hq] at hj
        have hj : j = 0 := by simpa using hj
        have hq : (decide (2 < F.length) && (decide (Q.ab (Q.at_ F 0) < Q.ab (Q.at_ F 1)) && decide (Q.ab (Q.at_ F 1) ≤ Q.ab (Q.at_ F 2)))) = true := hq
        simp only [Bool.and_eq_true, decide_eq_true_eq] at hq
        exact .inr ⟨hj, hq.1, hq.2.1, hq.2.2⟩
  · have hks : ks = [] := (List.append_eq_nil_iff.mp hnil).1
    obtain ⟨h1, h2, h3, h4⟩ := hk
    have : (1 + ((k - 1 : Nat) : Int)) ∈ ks := List.mem_map.mpr ⟨k - 1, List.mem_filter.mpr ⟨List.mem_range.mpr (by omega), by
      show (decide (Q.ab (Q.at_ F (k - 1 + 1)) ≤ Q.ab (Q.at_ F (k - 1))) && decide (Q.ab (Q.at_ F (k - 1 + 1)) ≤ Q.ab (Q.at_ F (k - 1 + 2)))) = true
      rw [show k - 1 + 1 = k by omega, show k - 1 + 2 = k + 1 by omega, decide_eq_true h3, decide_eq_true h4]
      rfl⟩, rfl⟩
    rw [hks] at this
    cases this
  · have hq : q = true := by
      obtain ⟨h1, h2, h3⟩ := h0
      show (decide (2 < F.length) && (decide (Q.ab (Q.at_ F 0) < Q.ab (Q.at_ F 1)) && decide (Q.ab (Q.at_ F 1) ≤ Q.ab (Q.at_ F 2)))) = true
      rw [decide_eq_true h1, decide_eq_true h2, decide_eq_true h3]
      rfl
    rw [hq] at hnil
    simp at hnil
  · rw [List.length_append]
    cases q <;> simp <;> omega
end LW

set_option Elab.async false
set_option maxRecDepth 100000
set_option linter.all false
namespace LW
open PySem PySem.Spec PyProof.Rows L2 VL
theorem cut_mid {α : Type} (xs : List α) (a b : Nat) (h1 : a ≤ xs.length) (h2 : b ≤ xs.length) : cutL xs (some (a : Int)) (some (b : Int)) = (xs.drop a).take (b - a) := by
  unfold cutL
  rw [HT.sIx_nat, HT.sIx_nat, Nat.min_eq_left h1, Nat.min_eq_left h2]
theorem slD_mid (xs : List D) (i j : Int) : slD true true [.lst xs, .int i, .int j] = some (.fl (cutL xs (some i) (some j))) := (rfl)
theorem mid3 {F : List Int} {k : Nat} (h1 : 1 ≤ k) (h2 : k + 1 < F.length) : (F.drop (k - 1)).take 3 = [Q.at_ F (k - 1), Q.at_ F k, Q.at_ F (k + 1)] := by
  have e := Q.split3 h1 h2
  have e2 : F.drop (k - 1) = Q.at_ F (k - 1) :: Q.at_ F k :: Q.at_ F (k + 1) :: F.drop (k + 2) := by
    have e3 := congrArg (List.drop (k - 1)) e
    rw [List.drop_append_of_le_length (by rw [List.length_take]; omega), List.drop_take, Nat.sub_self, List.take_zero, List.nil_append] at e3
    exact e3
  rw [e2]
  rfl
section
variable {w : O} {L : D}
theorem sh_k {F : List Int} {k : Nat} (h : Q.Jn F k) (hl : F.length < 900000) : S_l_law_short_2_2 [w, .d L, .d (.lst (F.map D.int)), .d (.int k)] = .nx [w, .d L, .d (.lst (fr (Q.gat [] (Q.joinF F k)))), .d (.int k)] := by
  obtain ⟨h1, h2, _⟩ := h
  have c1 : cutL (F.map D.int) none (some ((k : Int) - 1)) = (F.take (k - 1)).map D.int := by
    rw [show (k : Int) - 1 = ((k - 1 : Nat) : Int) by omega, cut_to, List.map_take]
  have c2 : cutL (F.map D.int) (some ((k : Int) - 1)) (some ((k : Int) + 2)) = [.int (Q.at_ F (k - 1)), .int (Q.at_ F k), .int (Q.at_ F (k + 1))] := by
    rw [show (k : Int) - 1 = ((k - 1 : Nat) : Int) by omega, show (k : Int) + 2 = ((k + 2 : Nat) : Int) by omega, cut_mid _ _ _ (by rw [List.length_map]; omega) (by rw [List.length_map]; omega), ← List.map_drop, ← List.map_take, show k + 2 - (k - 1) = 3 by omega, mid3 h1 h2]
    rfl
  have c3 : cutL (F.map D.int) (some ((k : Int) + 2)) none = (F.drop (k + 2)).map D.int := by
    rw [show (k : Int) + 2 = ((k + 2 : Nat) : Int) by omega, cut_from, List.map_drop]
  have c4 : sumD [.lst [.int (Q.at_ F (k - 1)), .int (Q.at_ F k), .int (Q.at_ F (k + 1))]] = some (.d (.int (Q.at_ F (k - 1) + Q.at_ F k + Q.at_ F (k + 1)))) := by
    have := sumD_lst [Q.at_ F (k - 1), Q.at_ F k, Q.at_ F (k + 1)]
    rw [show [Q.at_ F (k - 1), Q.at_ F k, Q.at_ F (k + 1)].sum = Q.at_ F (k - 1) + Q.at_ F k + Q.at_ F (k + 1) by simp; omega] at this
    exact this
  have hj : (Q.joinF F k).length < 900000 := by
    unfold Q.joinF
    simp
    omega
  have g := gathered_eq hj
  have gj : (Q.joinF F k).map D.int = (F.take (k - 1)).map D.int ++ .int (Q.at_ F (k - 1) + Q.at_ F k + Q.at_ F (k + 1)) :: (F.drop (k + 2)).map D.int := by
    unfold Q.joinF
    simp
  rw [gj] at g
  have hk : 0 < k := by omega
  simp only [List.map_take, List.map_drop] at c1 c3 g
  have z1 : (F.take (k - 1)).length + 1 ≤ 16777216 := by rw [List.length_take]; omega
  have z2 : (F.take (k - 1)).length + 1 + (F.drop (k + 2)).length ≤ 16777216 := by rw [List.length_take, List.length_drop]; omega
  simp only [List.length_take, List.length_drop] at z1 z2
  have z1' : min (k - 1) F.length + 1 ≤ 16777216 := by omega
  simp [S_l_law_short_2_2, hk, c1, slD_mid, c2, c3, c4, z1', z2, g]
theorem sh_0 {F : List Int} (h : Q.J0 F) (hl : F.length < 900000) : S_l_law_short_2_2 [w, .d L, .d (.lst (F.map D.int)), .d (.int 0)] = .nx [w, .d L, .d (.lst (fr (Q.gat [] (Q.join0 F)))), .d (.int 0)] := by
  obtain ⟨h1, _⟩ := h
  have a0 := at_ix' F (i := 0) (k := 0) rfl (by omega)
  have a1 := at_ix' F (i := 1) (k := 1) rfl (by omega)
  have c3 : cutL (F.map D.int) (some 2) none = (F.drop 2).map D.int := by
    rw [show (2 : Int) = ((2 : Nat) : Int) by rfl, cut_from, List.map_drop]
  have hj : (Q.join0 F).length < 900000 := by
    unfold Q.join0
    simp
    omega
  have g := gathered_eq hj
  have gj : (Q.join0 F).map D.int = .int (Q.at_ F 0 + Q.at_ F 1) :: (F.drop 2).map D.int := by
    unfold Q.join0
    rfl
  rw [gj] at g
  simp only [List.map_drop] at c3 g
  have z2 : 1 + (F.length - 2) ≤ 16777216 := by omega
  simp [S_l_law_short_2_2, a0, a1, c3, z2, g]
end
def shT : Ft := (tstE (op2 neD (.val (callE F_l_law_joinings none [(.pk 2)])) (.val (opC lstC []))))
theorem short_loop (L : D) (ts : List Int) : ∀ (n : Nat) (F : List Int) (c : Nat) (w o : O) (k : Nat), F.length ≤ n → F.length < 900000 → n < k → Well c w → c + n ≤ 2 ^ 30 → Q.AltR F.reverse → (∀ s x, 0 ≤ s → 0 ≤ x → x ≤ s → Q.led s F x = Q.led s ts x) →
    ∃ w' o', whileF shT S_l_law_short_2L k [w, .d L, .d (.lst (F.map D.int)), o] = .nx [w', .d L, .d (.lst (fr (Q.form ts))), o'] ∧ Well (c + n) w' := by
  intro n
  induction n with
  | zero =>
    intro F c w o k hl hl2 hk hw hc hA hs
    have : F = [] := List.eq_nil_of_length_eq_zero (by omega)
    subst this
    obtain ⟨k, rfl⟩ : ∃ j, k = j + 1 := ⟨k - 1, by omega⟩
    obtain ⟨js, e, J⟩ := joinings_eq (F := []) (by decide)
    have hjs : js = [] := by
      cases js with
      | nil => rfl
      | cons j js =>
        rcases J.of j List.mem_cons_self with ⟨k, _, h⟩ | ⟨_, h⟩
        · exact absurd h.2.1 (by simp)
        · exact absurd h.1 (by simp)
    subst hjs
    have d := Q.done_ (F := []) (ts := ts) hA (J.nil rfl).1 (J.nil rfl).2 hs
    have e' : F_l_law_joinings [.d (.lst [])] = .ok (.fl [], [.d (.lst [])]) := e
    refine ⟨w, o, ?_, hw⟩
    rw [while_stop (e1 := [w, .d L, .d (.lst []), o]) (by simp [shT, e']), fr_eq, ← d]
    rfl
  | succ n ih =>
    intro F c w o k hl hl2 hk hw hc hA hs
    obtain ⟨k, rfl⟩ : ∃ j, k = j + 1 := ⟨k - 1, by omega⟩
    obtain ⟨js, e, J⟩ := joinings_eq hl2
    by_cases hjs : js = []
    · subst hjs
      have d := Q.done_ hA (J.nil rfl).1 (J.nil rfl).2 hs
      refine ⟨w, o, ?_, hw.mono (by omega)⟩
      have e' : F_l_law_joinings [.d (.lst (F.map D.int))] = .ok (.fl [], [.d (.lst (F.map D.int))]) := e
      rw [while_stop (e1 := [w, .d L, .d (.lst (F.map D.int)), o]) (by simp [shT, e']), fr_eq, ← d, List.reverse_reverse]
    · have hne := neD_ints0 js
      rw [show js.isEmpty = false by cases js with | nil => exact absurd rfl hjs | cons _ _ => rfl] at hne
      have t1 : shT [w, .d L, .d (.lst (F.map D.int)), o] = .ok (true, [w, .d L, .d (.lst (F.map D.int)), o]) := by
        simp [shT, e, hne]
      have jl := J.len
      obtain ⟨z, w1, e1, hz, hw1⟩ := wone_eq (ds := js.map D.int) hw (by omega) (by simpa using hjs) (by rw [List.length_map]; omega)
      obtain ⟨j, hj, rfl⟩ := List.mem_map.mp hz
      have s1 : S_l_law_short_2_1 [w, .d L, .d (.lst (F.map D.int)), o] = .nx [w1, .d L, .d (.lst (F.map D.int)), .d (.int j)] := by
        simp [S_l_law_short_2_1, F_one, hw.un, e, e1]
      have go : ∀ G : List Int, G.length < F.length → (∀ s x, 0 ≤ s → 0 ≤ x → x ≤ s → Q.led s G x = Q.led s F x) → S_l_law_short_2_2 [w1, .d L, .d (.lst (F.map D.int)), .d (.int j)] = .nx [w1, .d L, .d (.lst (fr (Q.gat [] G))), .d (.int j)] →
          ∃ w' o', whileF shT S_l_law_short_2L (k + 1) [w, .d L, .d (.lst (F.map D.int)), o] = .nx [w', .d L, .d (.lst (fr (Q.form ts))), o'] ∧ Well (c + (n + 1)) w' := fun G hG hGs s2 => by
        obtain ⟨g1, g2, g3⟩ := Q.gat_ok G (acc := []) trivial
        have hg : (Q.gat [] G).length ≤ G.length := by simpa using g2
        have b1 : S_l_law_short_2L [w, .d L, .d (.lst (F.map D.int)), o] = .nx [w1, .d L, .d (.lst ((Q.gat [] G).reverse.map D.int)), .d (.int j)] := by
          simp only [S_l_law_short_2L, seqS_ap, seq_nx, s1, s2, fr_eq]
        rw [while_go t1 b1]
        obtain ⟨w', o', e2, hw'⟩ := ih (Q.gat [] G).reverse (c + 1) w1 (.d (.int j)) k (by rw [List.length_reverse]; omega) (by rw [List.length_reverse]; omega) (by omega) hw1 (by omega) (by rw [List.reverse_reverse]; exact g1) (fun s x h0 h1 h2 => by
          rw [← Q.back_led, g3 h0 h1 h2]
          show Q.led s G x = _
          rw [hGs s x h0 h1 h2, hs s x h0 h1 h2])
        exact ⟨w', o', e2, hw'.mono (by omega)⟩
      rcases J.of j hj with ⟨i, rfl, hi⟩ | ⟨rfl, h0⟩
      · have := Q.joinF_len hi
        exact go (Q.joinF F i) (by omega) (fun s x h0 h1 h2 => Q.joinF_led hA hi h0 h1 h2) (sh_k hi hl2)
      · have := Q.join0_len h0
        exact go (Q.join0 F) (by omega) (fun s x h0' h1 h2 => Q.join0_led hA h0 h0' h1 h2) (sh_0 h0 hl2)
theorem lshort_eq {ts : List Int} {c : Nat} {w : O} (hl : ts.length < 900000) (hw : Well c w) (hc : c + ts.length ≤ 2 ^ 30) : ∃ w', F_l_law_short [w, .d (.lst (ts.map D.int))] = .ok (.d (.lst (fr (Q.form ts))), [w', .d (.lst (ts.map D.int))]) ∧ Well (c + ts.length) w' := by
  have e := gathered_eq hl
  obtain ⟨g1, g2, g3⟩ := Q.gat_ok ts (acc := []) trivial
  have hg : (Q.gat [] ts).length ≤ ts.length := by simpa using g2
  obtain ⟨w', o', e2, hw'⟩ := short_loop (.lst (ts.map D.int)) ts ts.length (Q.gat [] ts).reverse c w .un 1000000 (by rw [List.length_reverse]; omega) (by rw [List.length_reverse]; omega) (by omega) hw hc (by rw [List.reverse_reverse]; exact g1) (fun s x h0 h1 h2 => by
    rw [← Q.back_led, g3 h0 h1 h2]
    rfl)
  refine ⟨w', ?_, hw'⟩
  have s1 : S_l_law_short_1 [w, .d (.lst (ts.map D.int)), .un, .un] = .nx [w, .d (.lst (ts.map D.int)), .d (.lst ((Q.gat [] ts).reverse.map D.int)), .un] := by
    rw [← fr_eq]
    simp [S_l_law_short_1, e]
  have s2 : S_l_law_short_2 [w, .d (.lst (ts.map D.int)), .d (.lst ((Q.gat [] ts).reverse.map D.int)), .un] = .nx [w', .d (.lst (ts.map D.int)), .d (.lst (fr (Q.form ts))), o'] := e2
  have sb : B_l_law_short [w, .d (.lst (ts.map D.int)), .un, .un] = .rt (.d (.lst (fr (Q.form ts)))) [w', .d (.lst (ts.map D.int)), .d (.lst (fr (Q.form ts))), o'] := by
    simp only [B_l_law_short, seqS_ap, seq_nx, s1, s2]
    simp [S_l_law_short_3]
  simp [F_l_law_short, bodyF_ap, hw.un, sb]
end LW

set_option Elab.async false
set_option maxRecDepth 100000
set_option linter.all false
namespace LW
open PySem PySem.Spec PyProof.Rows L2 VL
theorem turn_fin {ts mid : List Int} {i j : Nat} {B : Int} (hb : ∀ t ∈ ts, -B ≤ t ∧ t ≤ B) (hij : i ≤ j) (hm : mid.length ≤ 2) (hmb : ∀ t ∈ mid, -B ≤ t ∧ t ≤ B) :
    (ts.take i ++ (mid ++ ts.drop j)).length ≤ ts.length + 2 ∧ ∀ t ∈ ts.take i ++ (mid ++ ts.drop j), -B ≤ t ∧ t ≤ B := by
  constructor
  · rw [List.length_append, List.length_append, List.length_take, List.length_drop]
    omega
  · intro t m
    rcases List.mem_append.mp m with m | m
    · exact hb t (List.mem_of_mem_take m)
    · rcases List.mem_append.mp m with m | m
      · exact hmb t m
      · exact hb t (List.mem_of_mem_drop m)
theorem slD_to (xs : List D) (j : Int) : slD false true [.lst xs, .int j] = some (.fl (cutL xs none (some j))) := (rfl)
theorem slD_from (xs : List D) (i : Int) : slD true false [.lst xs, .int i] = some (.fl (cutL xs (some i) none)) := (rfl)
def TurnedTo (c : Nat) (ts : List Int) (w : O) : Prop := ∃ (us : List Int) (w' : O), F_l_law_turned [w, .d (.lst (ts.map D.int))] = .ok (.fl (us.map D.int), [w', .d (.lst (ts.map D.int))]) ∧ us.length ≤ ts.length + 2 ∧ (∀ t ∈ us, -7 ≤ t ∧ t ≤ 7) ∧ Well (c + 3) w'
theorem turned_eq {ts : List Int} {c : Nat} {w : O} (hl : ts.length < 100) (hb : ∀ t ∈ ts, -7 ≤ t ∧ t ≤ 7) (hw : Well c w) (hc : c ≤ 2 ^ 30) : TurnedTo c ts w := by
  obtain ⟨a, w1, e1, h1, h2, hw1⟩ := dip_eq (m := (ts.length : Int) + 1) hw (by omega) (by omega) (by omega)
  obtain ⟨k, rfl⟩ : ∃ k : Nat, a = k := ⟨a.toNat, by omega⟩
  obtain ⟨v, w2, e2, g1, g2, hw2⟩ := dip_eq (m := 6) hw1 (by omega) (by omega) (by omega)
  have s1 : S_l_law_turned_1 [w, .d (.lst (ts.map D.int)), .un, .un, .un, .un, .un] = .nx [w2, .d (.lst (ts.map D.int)), .d (.int k), .d (.int v), .un, .un, .un] := by
    simp [S_l_law_turned_1, parR, F_l_law_dip, hw.un, hw1.un, e1, e2]
  have ct : cutL (ts.map D.int) none (some (k : Int)) = (ts.map D.int).take k := cut_to _ _
  have cf : cutL (ts.map D.int) (some (k : Int)) none = (ts.map D.int).drop k := cut_from _ _
  have z1 : ∀ n m : Nat, n ≤ 2 → min k ts.length + n ≤ 16777216 := fun n m h => by omega
  have za : min k ts.length + 1 ≤ 16777216 := by omega
  have zb : min k ts.length + 2 ≤ 16777216 := by omega
  have zc : min (k - 1) ts.length + 2 ≤ 16777216 := by omega
  have zd : min k ts.length + 1 + (ts.length - k) ≤ 16777216 := by omega
  have ze : min k ts.length + 2 + (ts.length - k) ≤ 16777216 := by omega
  have zf : min (k - 1) ts.length + 2 + (ts.length - k) ≤ 16777216 := by omega
  have zg : min (k - 1) ts.length + (ts.length - k) ≤ 16777216 := by omega
  have done : ∀ (us : List Int) (w' : O), us.length ≤ ts.length + 2 → (∀ t ∈ us, -7 ≤ t ∧ t ≤ 7) → Well (c + 3) w' → (∃ e, B_l_law_turned [w, .d (.lst (ts.map D.int)), .un, .un, .un, .un, .un] = .rt (.fl (us.map D.int)) (w' :: e)) → TurnedTo c ts w := fun us w' q1 q2 q3 ⟨e, q4⟩ => ⟨us, w', by
    simp [F_l_law_turned, bodyF_ap, hw.un, q4], q1, q2, q3⟩
  by_cases v0 : v = 0
  · subst v0
    obtain ⟨f1, f2⟩ := turn_fin (mid := [0]) (i := k) (j := k) hb (Nat.le_refl _) (by simp) (by simp)
    refine done _ w2 f1 f2 (hw2.mono (by omega)) ⟨[.d (.lst (ts.map D.int)), .d (.int k), .d (.int 0), .un, .un, .un], ?_⟩
    have s2 : S_l_law_turned_2 [w2, .d (.lst (ts.map D.int)), .d (.int k), .d (.int 0), .un, .un, .un] = .rt (.fl ((ts.map D.int).take k ++ .int 0 :: (ts.map D.int).drop k)) [w2, .d (.lst (ts.map D.int)), .d (.int k), .d (.int 0), .un, .un, .un] := by
      simp [S_l_law_turned_2, slD_to, slD_from, ct, cf, za, zd]
    simp only [B_l_law_turned, seqS_ap, seq_nx, s1, s2]
    simp
  have s2 : S_l_law_turned_2 [w2, .d (.lst (ts.map D.int)), .d (.int k), .d (.int v), .un, .un, .un] = .nx [w2, .d (.lst (ts.map D.int)), .d (.int k), .d (.int v), .un, .un, .un] := by
    simp [S_l_law_turned_2, v0]
  -- the last way
  have last : (S_l_law_turned_3 [w2, .d (.lst (ts.map D.int)), .d (.int k), .d (.int v), .un, .un, .un] = .nx [w2, .d (.lst (ts.map D.int)), .d (.int k), .d (.int v), .un, .un, .un]) → (S_l_law_turned_4 [w2, .d (.lst (ts.map D.int)), .d (.int k), .d (.int v), .un, .un, .un] = .nx [w2, .d (.lst (ts.map D.int)), .d (.int k), .d (.int v), .un, .un, .un]) →
      (S_l_law_turned_5 [w2, .d (.lst (ts.map D.int)), .d (.int k), .d (.int v), .un, .un, .un] = .nx [w2, .d (.lst (ts.map D.int)), .d (.int k), .d (.int v), .un, .un, .un]) → TurnedTo c ts w := fun s3 s4 s5 => by
    obtain ⟨r, w3, e3, i1, i2, hw3⟩ := dip_eq (m := 9) hw2 (by omega) (by omega) (by omega)
    obtain ⟨f1, f2⟩ := turn_fin (mid := [r - 4]) (i := k) (j := k) hb (Nat.le_refl _) (by simp) (fun t m => by
      rw [List.mem_singleton] at m
      omega)
    refine done _ w3 f1 f2 hw3 ⟨[.d (.lst (ts.map D.int)), .d (.int k), .d (.int v), .un, .un, .un], ?_⟩
    have s6 : S_l_law_turned_6 [w2, .d (.lst (ts.map D.int)), .d (.int k), .d (.int v), .un, .un, .un] = .rt (.fl ((ts.map D.int).take k ++ .int (r - 4) :: (ts.map D.int).drop k)) [w3, .d (.lst (ts.map D.int)), .d (.int k), .d (.int v), .un, .un, .un] := by
      simp [S_l_law_turned_6, F_l_law_dip, hw2.un, e3, slD_to, slD_from, ct, cf, za, zd]
    simp only [B_l_law_turned, seqS_ap, seq_nx, s1, s2, s3, s4, s5, s6]
    simp
  by_cases k0 : k = 0
  · subst k0
    exact last (by simp [S_l_law_turned_3]) (by simp [S_l_law_turned_4]) (by simp [S_l_law_turned_5])
  have kp : 0 < k := by omega
  have hx := at_ix' ts (i := (k : Int) - 1) (k := k - 1) (by omega) (by omega)
  have hxb : -7 ≤ Q.at_ ts (k - 1) ∧ Q.at_ ts (k - 1) ≤ 7 := by
    have hk : k - 1 < ts.length := by omega
    have : Q.at_ ts (k - 1) = ts[k - 1] := by
      unfold Q.at_
      rw [List.getD_eq_getElem?_getD, List.getElem?_eq_getElem hk]
      rfl
    rw [this]
    exact hb _ (List.getElem_mem hk)
  have ct1 : cutL (ts.map D.int) none (some ((k : Int) - 1)) = (ts.map D.int).take (k - 1) := by
    rw [show (k : Int) - 1 = ((k - 1 : Nat) : Int) by omega, cut_to]
  generalize Q.at_ ts (k - 1) = x at *
  by_cases v3 : v = 3
  · subst v3
    obtain ⟨f1, f2⟩ := turn_fin (mid := []) (i := k - 1) (j := k) hb (by omega) (by simp) (by simp)
    refine done _ w2 f1 f2 (hw2.mono (by omega)) ⟨[.d (.lst (ts.map D.int)), .d (.int k), .d (.int 3), .un, .un, .un], ?_⟩
    have s3 : S_l_law_turned_3 [w2, .d (.lst (ts.map D.int)), .d (.int k), .d (.int 3), .un, .un, .un] = .nx [w2, .d (.lst (ts.map D.int)), .d (.int k), .d (.int 3), .un, .un, .un] := by
      simp [S_l_law_turned_3]
    have s4 : S_l_law_turned_4 [w2, .d (.lst (ts.map D.int)), .d (.int k), .d (.int 3), .un, .un, .un] = .nx [w2, .d (.lst (ts.map D.int)), .d (.int k), .d (.int 3), .un, .un, .un] := by
      simp [S_l_law_turned_4]
    have s5 : S_l_law_turned_5 [w2, .d (.lst (ts.map D.int)), .d (.int k), .d (.int 3), .un, .un, .un] = .rt (.fl ((ts.map D.int).take (k - 1) ++ (ts.map D.int).drop k)) [w2, .d (.lst (ts.map D.int)), .d (.int k), .d (.int 3), .un, .un, .un] := by
      simp [S_l_law_turned_5, kp, slD_to, slD_from, ct1, cf, zg]
    simp only [B_l_law_turned, seqS_ap, seq_nx, s1, s2, s3, s4, s5]
    simp
  have s5 : S_l_law_turned_5 [w2, .d (.lst (ts.map D.int)), .d (.int k), .d (.int v), .un, .un, .un] = .nx [w2, .d (.lst (ts.map D.int)), .d (.int k), .d (.int v), .un, .un, .un] := by
    simp [S_l_law_turned_5, v3]
  obtain ⟨r, w3, e3, i1, i2, hw3⟩ := dip_eq (m := Q.ab x + 1) hw2 (by omega) (by unfold Q.ab; omega) (by unfold Q.ab; omega)
  unfold Q.ab at e3 i2
  have m1 : mulOk r 1 = true := mulOk_r (by decide)
  have m2 : mulOk r (-1) = true := mulOk_r (by decide)
  by_cases v1 : v = 1
  · subst v1
    by_cases hp : 0 < x
    · rw [if_neg (by omega)] at e3 i2
      have hn : ¬ x < 0 := by omega
      obtain ⟨f1, f2⟩ := turn_fin (mid := [r, x - r]) (i := k - 1) (j := k) hb (by omega) (by simp) (fun t m => by
        simp only [List.mem_cons, List.not_mem_nil, or_false] at m
        omega)
      refine done _ w3 f1 f2 hw3 ⟨[.d (.lst (ts.map D.int)), .d (.int k), .d (.int 1), .d (.int r), .un, .un], ?_⟩
      have s3 : S_l_law_turned_3 [w2, .d (.lst (ts.map D.int)), .d (.int k), .d (.int 1), .un, .un, .un] = .rt (.fl ((ts.map D.int).take (k - 1) ++ .int r :: .int (x - r) :: (ts.map D.int).drop k)) [w3, .d (.lst (ts.map D.int)), .d (.int k), .d (.int 1), .d (.int r), .un, .un] := by
        simp [S_l_law_turned_3, S_l_law_turned_3a_1, S_l_law_turned_3a_2, kp, F_l_law_dip, hw2.un, hx, hp, hn, e3, m1, slD_to, slD_from, ct1, cf, zc, zf]
      simp only [B_l_law_turned, seqS_ap, seq_nx, s1, s2, s3]
      simp
    · have hr : r * -1 = -r := by omega
      obtain ⟨f1, f2⟩ := turn_fin (mid := [-r, x - -r]) (i := k - 1) (j := k) hb (by omega) (by simp) (fun t m => by
        simp only [List.mem_cons, List.not_mem_nil, or_false] at m
        split at i2 <;> omega)
      refine done _ w3 f1 f2 hw3 ⟨[.d (.lst (ts.map D.int)), .d (.int k), .d (.int 1), .d (.int (-r)), .un, .un], ?_⟩
      have s3 : S_l_law_turned_3 [w2, .d (.lst (ts.map D.int)), .d (.int k), .d (.int 1), .un, .un, .un] = .rt (.fl ((ts.map D.int).take (k - 1) ++ .int (-r) :: .int (x - -r) :: (ts.map D.int).drop k)) [w3, .d (.lst (ts.map D.int)), .d (.int k), .d (.int 1), .d (.int (-r)), .un, .un] := by
        simp [S_l_law_turned_3, S_l_law_turned_3a_1, S_l_law_turned_3a_2, kp, F_l_law_dip, hw2.un, hx, hp, e3, m2, hr, slD_to, slD_from, ct1, cf, zc, zf]
      simp only [B_l_law_turned, seqS_ap, seq_nx, s1, s2, s3]
      simp
  have s3 : S_l_law_turned_3 [w2, .d (.lst (ts.map D.int)), .d (.int k), .d (.int v), .un, .un, .un] = .nx [w2, .d (.lst (ts.map D.int)), .d (.int k), .d (.int v), .un, .un, .un] := by
    simp [S_l_law_turned_3, v1]
  by_cases v2 : v = 2
  · subst v2
    by_cases x0 : x = 0
    · subst x0
      exact last s3 (by simp [S_l_law_turned_4, kp, hx]) s5
    · by_cases hp : 0 < x
      · rw [if_neg (by omega)] at e3 i2
        have hn : ¬ x < 0 := by omega
        obtain ⟨f1, f2⟩ := turn_fin (mid := [-r, r]) (i := k) (j := k) hb (by omega) (by simp) (fun t m => by
          simp only [List.mem_cons, List.not_mem_nil, or_false] at m
          omega)
        refine done _ w3 f1 f2 hw3 ⟨[.d (.lst (ts.map D.int)), .d (.int k), .d (.int 2), .un, .d (.int 1), .d (.int r)], ?_⟩
        have s4 : S_l_law_turned_4 [w2, .d (.lst (ts.map D.int)), .d (.int k), .d (.int 2), .un, .un, .un] = .rt (.fl ((ts.map D.int).take k ++ .int (-r) :: .int r :: (ts.map D.int).drop k)) [w3, .d (.lst (ts.map D.int)), .d (.int k), .d (.int 2), .un, .d (.int 1), .d (.int r)] := by
          simp [S_l_law_turned_4, S_l_law_turned_4a_1, S_l_law_turned_4a_2, S_l_law_turned_4a_3, kp, F_l_law_dip, hw2.un, hx, hp, hn, x0, e3, m1, slD_to, slD_from, ct, cf, zb, ze]
        simp only [B_l_law_turned, seqS_ap, seq_nx, s1, s2, s3, s4]
        simp
      · have hr : r * -1 = -r := by omega
        obtain ⟨f1, f2⟩ := turn_fin (mid := [- -r, -r]) (i := k) (j := k) hb (by omega) (by simp) (fun t m => by
          simp only [List.mem_cons, List.not_mem_nil, or_false] at m
          split at i2 <;> omega)
        refine done _ w3 f1 f2 hw3 ⟨[.d (.lst (ts.map D.int)), .d (.int k), .d (.int 2), .un, .d (.int (-1)), .d (.int (-r))], ?_⟩
        have s4 : S_l_law_turned_4 [w2, .d (.lst (ts.map D.int)), .d (.int k), .d (.int 2), .un, .un, .un] = .rt (.fl ((ts.map D.int).take k ++ .int (- -r) :: .int (-r) :: (ts.map D.int).drop k)) [w3, .d (.lst (ts.map D.int)), .d (.int k), .d (.int 2), .un, .d (.int (-1)), .d (.int (-r))] := by
          simp [S_l_law_turned_4, S_l_law_turned_4a_1, S_l_law_turned_4a_2, S_l_law_turned_4a_3, kp, F_l_law_dip, hw2.un, hx, hp, x0, e3, m2, hr, slD_to, slD_from, ct, cf, zb, ze]
        simp only [B_l_law_turned, seqS_ap, seq_nx, s1, s2, s3, s4]
        simp
  · exact last s3 (by simp [S_l_law_turned_4, v2]) s5
end LW

set_option Elab.async false
set_option maxRecDepth 100000
set_option linter.all false
namespace LW
open PySem PySem.Spec PyProof.Rows L2 VL
def encC (c : Q.Cl) : D := .tup [.int c.a, .int c.z, .bl c.d]
theorem ok_encC (c : Q.Cl) : D.Ok 1 (encC c) := ok_tup (n := 0) fun y hy => by
  simp only [List.mem_cons, List.not_mem_nil, or_false] at hy
  rcases hy with rfl | rfl | rfl
  · exact ok_int _
  · exact ok_int _
  · exact ok_bl _
theorem cells_loop (L : D) : ∀ (r : List Int) (C : List D) (m : Int) (o : O), C.length + r.length < 900000 → ∃ m' o', forL (nameG 3) S_cells_of_2_1 (r.map D.int) [.d L, .fl C, .d (.int m), o] = .nx [.d L, .fl (C ++ (Q.cel m r).map encC), m', o']
  | [], C, m, o, _ => ⟨.d (.int m), o, by
    rw [Q.cel, show C ++ List.map encC [] = C from List.append_nil C]
    rfl⟩
  | t :: r, C, m, o, hl => by
    rw [List.length_cons] at hl
    by_cases hc : m < Q.ab t
    · have hc' : m < (if t < 0 then -t else t) := hc
      have hl2 : C.length < 16777216 := by omega
      obtain ⟨m', o', e⟩ := cells_loop L r (sn C (.tup [.int (m + 1), .int (Q.ab t), .bl (decide (0 < t))])) (Q.ab t) (.d (.int t)) (by rw [sn_length]; omega)
      refine ⟨m', o', ?_⟩
      rw [List.map_cons, for_go (e1 := [.d L, .fl C, .d (.int m), .d (.int t)]) (e2 := [.d L, .fl (sn C (.tup [.int (m + 1), .int (Q.ab t), .bl (decide (0 < t))])), .d (.int (Q.ab t)), .d (.int t)]) (by simp) (by
          simp [S_cells_of_2_1, S_cells_of_2_1a_1, S_cells_of_2_1a_2, hc', hl2, Q.ab]), e]
      rw [Q.cel, if_pos hc, List.map_cons, sn_eq, List.append_assoc]
      rfl
    · have hc' : ¬ m < (if t < 0 then -t else t) := hc
      obtain ⟨m', o', e⟩ := cells_loop L r C m (.d (.int t)) (by omega)
      refine ⟨m', o', ?_⟩
      rw [List.map_cons, for_go (e1 := [.d L, .fl C, .d (.int m), .d (.int t)]) (e2 := [.d L, .fl C, .d (.int m), .d (.int t)]) (by simp) (by
          simp [S_cells_of_2_1, hc']), e]
      rw [Q.cel, if_neg hc]
theorem cells_eq {r : List Int} (h : r.length < 900000) : F_cells_of [.d (.lst (fr r))] = .ok (.fl ((Q.cel 0 r).map encC), [.d (.lst (fr r))]) := by
  obtain ⟨m', o', e⟩ := cells_loop (.lst (fr r)) r [] 0 .un (by simpa using h)
  rw [List.nil_append] at e
  have hr : (fr r).reverse = r.map D.int := by
    rw [fr_eq, ← List.map_reverse, List.reverse_reverse]
  simp [F_cells_of, bodyF_ap, B_cells_of, S_cells_of_1, parR, S_cells_of_2, S_cells_of_3, hr, e]
theorem cel_len : ∀ (r : List Int) (m : Int), (Q.cel m r).length ≤ r.length
  | [], m => Nat.le_refl _
  | t :: r, m => by
    unfold Q.cel
    have h1 := cel_len r (Q.ab t)
    have h2 := cel_len r m
    split
    · rw [List.length_cons, List.length_cons]
      omega
    · rw [List.length_cons]
      omega
theorem cel_last : ∀ (r : List Int) (m : Int), 0 ≤ m → (Q.mx r ≤ m ∧ Q.cel m r = []) ∨ ∃ C c, Q.cel m r = C ++ [c] ∧ c.z = Q.mx r ∧ m < Q.mx r
  | [], m, h => .inl ⟨h, rfl⟩
  | t :: r, m, h => by
    rw [Q.mx_cons]
    unfold Q.cel
    by_cases hc : m < Q.ab t
    · rw [if_pos hc]
      rcases cel_last r (Q.ab t) (by omega) with ⟨h1, h2⟩ | ⟨C, c, h1, h2, h3⟩
      · refine .inr ⟨[], _, by rw [h2]; rfl, ?_, ?_⟩
        · show Q.ab t = _
          split <;> omega
        · split <;> omega
      · refine .inr ⟨_ :: C, c, by rw [h1]; rfl, ?_, ?_⟩
        · rw [h2]
          split <;> omega
        · split <;> omega
    · rw [if_neg hc]
      rcases cel_last r m h with ⟨h1, h2⟩ | ⟨C, c, h1, h2, h3⟩
      · exact .inl ⟨by split <;> omega, h2⟩
      · refine .inr ⟨C, c, h1, ?_, ?_⟩
        · rw [h2]
          split <;> omega
        · split <;> omega
theorem neD_ok0 {C : List D} (h : ∀ x ∈ C, D.Ok 1 x) : neD (.lst C) (.lst []) = some (.d (.bl (!C.isEmpty))) := by
  rw [neD_ok (ok_lst h) (ok_lst (n := 0) (xs := []) fun _ m => nomatch m), eqv_nil]
theorem last_eq (r : List Int) : F_last_cell [.d (.lst ((Q.cel 0 r).map encC))] = .ok (.d (.int (Q.mx r)), [.d (.lst ((Q.cel 0 r).map encC))]) := by
  have h0 := Q.mx_nonneg r
  rcases cel_last r 0 (Int.le_refl 0) with ⟨h1, h2⟩ | ⟨C, c, h1, h2, h3⟩
  · have : Q.mx r = 0 := by omega
    rw [h2, this]
    simp [F_last_cell, bodyF_ap, B_last_cell]
  · have e : (Q.cel 0 r).map encC = sn (C.map encC) (encC c) := by
      rw [h1, List.map_append, sn_eq]
      rfl
    rw [e, ← h2]
    have hn := neD_ok0 (C := sn (C.map encC) (encC c)) (fun x m => by
      rw [← e] at m
      obtain ⟨c, _, rfl⟩ := List.mem_map.mp m
      exact ok_encC c)
    have : (sn (C.map encC) (encC c)).isEmpty = false := by
      unfold sn
      cases C.map encC <;> rfl
    rw [this] at hn
    unfold encC at hn ⊢
    simp [F_last_cell, bodyF_ap, B_last_cell, hn]
theorem eqvs_bls : ∀ (xs ys : List Bool), PyData.eqvAll (D.pys (xs.map D.bl)) (D.pys (ys.map D.bl)) = decide (xs = ys)
  | [], [] => rfl
  | [], y :: ys => rfl
  | x :: xs, [] => rfl
  | x :: xs, y :: ys => by
    rw [List.map_cons, List.map_cons, D.pys, D.pys, PyData.eqvAll, eqvs_bls xs ys]
    have e : PyData.eqv (D.bl x).py (D.bl y).py = decide (x = y) := by
      cases x <;> cases y <;> rfl
    rw [e]
    by_cases h : x = y
    · simp [h]
    · simp [h]
theorem ok_bls (xs : List Bool) : D.Ok 1 (.lst (xs.map D.bl)) := ok_lst (n := 0) fun x m => by
  obtain ⟨i, _, rfl⟩ := List.mem_map.mp m
  exact ok_bl i
theorem eqD_bls (xs ys : List Bool) : eqD (.lst (xs.map D.bl)) (.lst (ys.map D.bl)) = some (.d (.bl (decide (xs = ys)))) := by
  rw [eqD_ok (ok_bls xs) (ok_bls ys), D.py, D.py, PyData.eqv, eqvs_bls]
theorem flags_fm (p : Int) : ∀ cs : List Q.Cl, (cs.map encC).filterMap (fun d => match d with
      | .tup [.int a, .int z, .bl d] => if a ≤ p ∧ p ≤ z then some (.bl d) else none
      | _ => none) = (Q.flags p cs).map D.bl
  | [] => rfl
  | c :: cs => by
    unfold Q.flags
    rw [List.map_cons]
    by_cases h : c.a ≤ p ∧ p ≤ c.z
    · rw [List.filterMap_cons_some (b := D.bl c.d) (by unfold encC; simp only []; rw [if_pos h]), flags_fm p cs, List.filter_cons_of_pos (by simpa using h)]
      rfl
    · rw [List.filterMap_cons_none (by unfold encC; simp only []; rw [if_neg h]), flags_fm p cs, List.filter_cons_of_neg (by simpa using h)]
      rfl
theorem down_eq {cs : List Q.Cl} (p : Int) (h : cs.length < 16777216) : F_is_down_at [.d (.lst (cs.map encC)), .d (.int p)] = .ok (.d (.bl (decide (Q.flags p cs = [true]))), [.d (.lst (cs.map encC)), .d (.int p)]) := by
  have e : lcL [2, 3, 4] (tupG [2, 3, 4]) (tstE (chE (fun i j => decide (i ≤ j)) (fun i j => decide (i ≤ j)) (varE 2) (varE 1) (varE 3))) (varE 4) (cs.map encC) [.d (.lst (cs.map encC)), .d (.int p), .un, .un, .un] [] = .ok ((Q.flags p cs).map D.bl, [.d (.lst (cs.map encC)), .d (.int p), .un, .un, .un]) := by
    rw [lcL_pure (fun d => match d with
      | .tup [.int a, .int z, .bl d] => if a ≤ p ∧ p ≤ z then some (.bl d) else none
      | _ => none) _ [] (fun d m => ?_) (by rw [List.length_map]; simpa using h), flags_fm]
    · rfl
    · obtain ⟨c, _, rfl⟩ := List.mem_map.mp m
      refine ⟨[.d (.lst (cs.map encC)), .d (.int p), .d (.int c.a), .d (.int c.z), .d (.bl c.d)], by simp [encC], by simp, by simp, ?_⟩
      by_cases h1 : c.a ≤ p
      · by_cases h2 : p ≤ c.z
        · exact .inr ⟨.d (.bl c.d), by simp [h1, h2], by simp, rfl, by simp [encC, h1, h2]⟩
        · exact .inl ⟨by simp [h1, h2], by simp [encC, h1, h2]⟩
      · exact .inl ⟨by simp [h1], by simp [encC, h1]⟩
  have e2 := eqD_bls (Q.flags p cs) [true]
  have e3 : [true].map D.bl = [.bl true] := rfl
  rw [e3] at e2
  simp [F_is_down_at, bodyF_ap, B_is_down_at, e, e2]
end LW

set_option Elab.async false
set_option maxRecDepth 100000
set_option linter.all false
namespace LW
open PySem PySem.Spec PyProof.Rows L2 VL
section
variable {A B : O} {a b : List Int} {e : Int}
abbrev cD (r : List Int) : O := .d (.lst ((Q.cel 0 r).map encC))
theorem flag_dn {r : List Int} {p : Int} (hp : 1 ≤ p) (h : p ≤ Q.mx r) : decide (Q.flags p (Q.cel 0 r) = [true]) = Q.dn r p := by
  rw [Q.cel_flags r (Int.le_refl 0) (by omega), if_pos h]
  cases Q.dn r p <;> rfl
theorem size_step {p : Int} (ha : a.length < 900000) (hb : b.length < 900000) (hp : 1 ≤ p) (h1 : e ≤ Q.mx a) (h2 : e ≤ Q.mx b) :
    S_size_apart_3_1 [A, B, cD a, cD b, .d (.int e), .d (.int p), .un] = if (decide (p ≤ e) && decide (Q.dn a p ≠ Q.dn b p)) = true then .rt (.d (.int p)) [A, B, cD a, cD b, .d (.int e), .d (.int p), .un] else .nx [A, B, cD a, cD b, .d (.int e), .d (.int p), .un] := by
  have l1 := cel_len a 0
  have l2 := cel_len b 0
  by_cases he : p ≤ e
  · have e1 := down_eq (cs := Q.cel 0 a) p (by omega)
    have e2 := down_eq (cs := Q.cel 0 b) p (by omega)
    rw [flag_dn hp (by omega)] at e1 e2
    cases hx : Q.dn a p <;> cases hy : Q.dn b p <;> rw [hx] at e1 <;> rw [hy] at e2 <;> simp [S_size_apart_3_1, he, e1, e2]
  · simp [S_size_apart_3_1, he]
theorem size_loop (ha : a.length < 900000) (hb : b.length < 900000) (h1 : e ≤ Q.mx a) (h2 : e ≤ Q.mx b) : ∀ (L : List Int) (o : O), (∀ x ∈ L, 1 ≤ x) →
    (∀ p, L.find? (fun p => decide (p ≤ e) && decide (Q.dn a p ≠ Q.dn b p)) = some p → ∃ o', forL (nameG 5) S_size_apart_3_1 (L.map D.int) [A, B, cD a, cD b, .d (.int e), o, .un] = .rt (.d (.int p)) [A, B, cD a, cD b, .d (.int e), o', .un]) ∧
    (L.find? (fun p => decide (p ≤ e) && decide (Q.dn a p ≠ Q.dn b p)) = none → ∃ o', forL (nameG 5) S_size_apart_3_1 (L.map D.int) [A, B, cD a, cD b, .d (.int e), o, .un] = .nx [A, B, cD a, cD b, .d (.int e), o', .un])
  | [], o, _ => ⟨fun p h => (nomatch h), fun _ => ⟨o, rfl⟩⟩
  | x :: L, o, hL => by
    have st := size_step (A := A) (B := B) ha hb (hL x List.mem_cons_self) h1 h2
    rw [List.map_cons]
    by_cases hx : (decide (x ≤ e) && decide (Q.dn a x ≠ Q.dn b x)) = true
    · rw [if_pos hx] at st
      rw [List.find?_cons_of_pos (p := fun p => decide (p ≤ e) && decide (Q.dn a p ≠ Q.dn b p)) hx]
      refine ⟨fun p h => ?_, fun h => nomatch h⟩
      cases h
      refine ⟨.d (.int x), ?_⟩
      rw [forL_cons]
      simp [st]
    · rw [if_neg hx] at st
      rw [List.find?_cons_of_neg (p := fun p => decide (p ≤ e) && decide (Q.dn a p ≠ Q.dn b p)) hx]
      obtain ⟨g1, g2⟩ := size_loop ha hb h1 h2 L (.d (.int x)) fun y m => hL y (List.mem_cons_of_mem _ m)
      rw [for_go (e1 := [A, B, cD a, cD b, .d (.int e), .d (.int x), .un]) (by simp) st]
      exact ⟨g1, g2⟩
end
theorem starts_fm : ∀ cs : List Q.Cl, (cs.map encC).filterMap (fun d => match d with
      | .tup [.int a, .int z, .bl d] => some (.int a)
      | _ => none) = (Q.starts cs).map D.int
  | [] => rfl
  | c :: cs => by
    exact congrArg (D.int c.a :: ·) (starts_fm cs)
theorem size_eq {a b : List Int} (ha : a.length < 900000) (hb : b.length < 900000) {e : Int} (he : e = if Q.mx b < Q.mx a then Q.mx b else Q.mx a) :
    ∃ S, F_size_apart [.d (.lst (fr a)), .d (.lst (fr b))] = .ok (.d (.int S), [.d (.lst (fr a)), .d (.lst (fr b))]) ∧ Q.SizeA a b e S := by
  have c1 := cells_eq ha
  have c2 := cells_eq hb
  have s1 : S_size_apart_1 [.d (.lst (fr a)), .d (.lst (fr b)), .un, .un, .un, .un, .un] = .nx [.d (.lst (fr a)), .d (.lst (fr b)), cD a, cD b, .un, .un, .un] := by
    simp [S_size_apart_1, parR, c1, c2]
  have m1 := last_eq a
  have m2 := last_eq b
  have s2 : S_size_apart_2 [.d (.lst (fr a)), .d (.lst (fr b)), cD a, cD b, .un, .un, .un] = .nx [.d (.lst (fr a)), .d (.lst (fr b)), cD a, cD b, .d (.int e), .un, .un] := by
    simp [S_size_apart_2, m1, m2, he]
  have h1 : e ≤ Q.mx a := by split at he <;> omega
  have h2 : e ≤ Q.mx b := by split at he <;> omega
  have l1 := cel_len a 0
  have l2 := cel_len b 0
  obtain ⟨cs, hcs⟩ : ∃ cs, cs = Q.cel 0 a ++ Q.cel 0 b := ⟨_, rfl⟩
  obtain ⟨L, hLd⟩ : ∃ L, L = sortI (Q.starts cs) := ⟨_, rfl⟩
  have hL : ∀ x, x ∈ L ↔ x ∈ Q.starts (Q.cel 0 a) ++ Q.starts (Q.cel 0 b) := fun x => by
    rw [hLd, (sortI_perm _).mem_iff, hcs]
    unfold Q.starts
    rw [List.map_append]
  have pos : ∀ x ∈ L, 1 ≤ x := fun x hx => by
    rcases List.mem_append.mp ((hL x).mp hx) with h | h
    · have := Q.cel_gt a x h
      omega
    · have := Q.cel_gt b x h
      omega
  have e1 : lcL [6] (nameG 6) yesT (op2 ixD (.pk 6) (.val (cE (.int 0)))) (cs.map encC) [.d (.lst (fr a)), .d (.lst (fr b)), cD a, cD b, .d (.int e), .un, .un] [] = .ok ((Q.starts cs).map D.int, [.d (.lst (fr a)), .d (.lst (fr b)), cD a, cD b, .d (.int e), .un, .un]) := by
    rw [lcL_pure (fun d => match d with
      | .tup [.int a, .int z, .bl d] => some (.int a)
      | _ => none) _ [] (fun d m => ?_) (by rw [List.length_map, hcs, List.length_append]; simp; omega)]
    · congr 2
      rw [List.nil_append]
      exact starts_fm cs
    · obtain ⟨c, _, rfl⟩ := List.mem_map.mp m
      exact ⟨[.d (.lst (fr a)), .d (.lst (fr b)), cD a, cD b, .d (.int e), .un, .d (encC c)], by simp [encC], by simp, by simp, .inr ⟨.d (.int c.a), by simp, by simp [encC], rfl, rfl⟩⟩
  have e2 : sortedD [.lst ((Q.starts cs).map D.int)] = some (.fl (L.map D.int)) := by
    show (match intsOf ((Q.starts cs).map D.int) with
      | some ns => some (O.fl ((sortI ns).map D.int))
      | none => none) = _
    rw [intsOf_map, hLd]
  have z : ((Q.cel 0 a).map encC).length + ((Q.cel 0 b).map encC).length ≤ 16777216 := by
    rw [List.length_map, List.length_map]
    omega
  rw [List.length_map, List.length_map] at z
  have hs : L.Pairwise (· ≤ ·) := by
    rw [hLd]
    exact sortI_sorted _
  have s4 : ∀ o, S_size_apart_4 [.d (.lst (fr a)), .d (.lst (fr b)), cD a, cD b, .d (.int e), o, .un] = .rt (.d (.int (e + 1))) [.d (.lst (fr a)), .d (.lst (fr b)), cD a, cD b, .d (.int e), o, .un] := fun o => by
    simp [S_size_apart_4]
  obtain ⟨f1, f2⟩ := size_loop (A := .d (.lst (fr a))) (B := .d (.lst (fr b))) ha hb h1 h2 L .un pos
  have e1' := e1
  rw [show cs.map encC = (Q.cel 0 a).map encC ++ (Q.cel 0 b).map encC by rw [hcs, List.map_append]] at e1'
  rcases Q.size_search h1 h2 L hL hs with ⟨p, h, hS⟩ | ⟨h, hS⟩
  · obtain ⟨o', f⟩ := f1 p h
    refine ⟨p, ?_, hS⟩
    have s3 : S_size_apart_3 [.d (.lst (fr a)), .d (.lst (fr b)), cD a, cD b, .d (.int e), .un, .un] = .rt (.d (.int p)) [.d (.lst (fr a)), .d (.lst (fr b)), cD a, cD b, .d (.int e), o', .un] := by
      simp [S_size_apart_3, z, e1', e2, f]
    have sb : B_size_apart [.d (.lst (fr a)), .d (.lst (fr b)), .un, .un, .un, .un, .un] = .rt (.d (.int p)) [.d (.lst (fr a)), .d (.lst (fr b)), cD a, cD b, .d (.int e), o', .un] := by
      simp only [B_size_apart, seqS_ap, seq_nx, s1, s2, s3, seq_rt]
    simp [F_size_apart, bodyF_ap, sb]
  · obtain ⟨o', f⟩ := f2 h
    refine ⟨e + 1, ?_, hS⟩
    have s3 : S_size_apart_3 [.d (.lst (fr a)), .d (.lst (fr b)), cD a, cD b, .d (.int e), .un, .un] = .nx [.d (.lst (fr a)), .d (.lst (fr b)), cD a, cD b, .d (.int e), o', .un] := by
      simp [S_size_apart_3, z, e1', e2, f]
    have sb : B_size_apart [.d (.lst (fr a)), .d (.lst (fr b)), .un, .un, .un, .un, .un] = .rt (.d (.int (e + 1))) [.d (.lst (fr a)), .d (.lst (fr b)), cD a, cD b, .d (.int e), o', .un] := by
      simp only [B_size_apart, seqS_ap, seq_nx, s1, s2, s3, s4]
    simp [F_size_apart, bodyF_ap, sb]
end LW

set_option Elab.async false
set_option maxRecDepth 100000
set_option linter.all false
namespace LW
open PySem PySem.Spec PyProof.Rows L2 VL
theorem eff_loop (T : D) (s : Int) : ∀ (ts : List Int) (x y : Int) (o : O), ∃ o', forL (nameG 4) S_effect_in_2_1 (ts.map D.int) [.d (.int s), .d T, .d (.int x), .d (.int y), o] = .nx [.d (.int s), .d T, .d (.int (Q.led s ts x)), .d (.int (Q.led s ts y)), o']
  | [], x, y, o => ⟨o, rfl⟩
  | t :: ts, x, y, o => by
    obtain ⟨o', h⟩ := eff_loop T s ts (Q.cl s (x + t)) (Q.cl s (y + t)) (.d (.int t))
    have e : S_effect_in_2_1 [.d (.int s), .d T, .d (.int x), .d (.int y), .d (.int t)] = .nx [.d (.int s), .d T, .d (.int (Q.cl s (x + t))), .d (.int (Q.cl s (y + t))), .d (.int t)] := by
      simp [S_effect_in_2_1, parR, F_between, bodyF_ap, B_between, Q.cl]
    refine ⟨o', ?_⟩
    rw [List.map_cons, for_go (e1 := [.d (.int s), .d T, .d (.int x), .d (.int y), .d (.int t)]) (by simp) e, h]
    rfl
theorem sm_sum : ∀ r : List Int, r.reverse.sum = Q.sm r
  | [] => rfl
  | t :: r => by
    rw [List.reverse_cons, List.sum_append, sm_sum r]
    show Q.sm r + [t].sum = Q.sm r + t
    simp
def effD (s : Int) (r : List Int) : D := .tup [.int (Q.effSh (Q.sm r) (Q.back s r 0) (Q.back s r s)), .int (Q.back s r 0), .int (Q.back s r s)]
theorem eff_eq (s : Int) (r : List Int) : F_effect_in [.d (.int s), .d (.lst (fr r))] = .ok (.d (effD s r), [.d (.int s), .d (.lst (fr r))]) := by
  obtain ⟨o', h⟩ := eff_loop (.lst (fr r)) s r.reverse 0 s .un
  rw [← Q.back_led, ← Q.back_led, ← fr_eq] at h
  have h2 := sumD_lst r.reverse
  rw [sm_sum, ← fr_eq] at h2
  simp [F_effect_in, bodyF_ap, B_effect_in, S_effect_in_1, parR, S_effect_in_2, S_effect_in_3, h, h2, F_effect_from, B_effect_from, effD, Q.effSh]
  split <;> rfl
def riseD (s sh l h : Int) : D := .int (Q.riseA s sh l h)
theorem rise_eq (s sh l h : Int) : F_rise_of [.d (.int s), .d (.tup [.int sh, .int l, .int h])] = .ok (.d (.int (Q.riseA s sh l h)), [.d (.int s), .d (.tup [.int sh, .int l, .int h])]) := by
  by_cases hl : l < h <;> simp [F_rise_of, bodyF_ap, B_rise_of, S_rise_of_1, S_rise_of_2, Q.riseA, hl]
theorem scroll_eq (s : Int) (a b : List Int) : F_scroll_apart [.d (.int s), .d (effD s a), .d (effD s b)] = .ok (.d (.int (Q.scrollA s (Q.sm a) (Q.back s a 0) (Q.back s a s) (Q.sm b) (Q.back s b 0) (Q.back s b s))), [.d (.int s), .d (effD s a), .d (effD s b)]) := by
  unfold effD Q.scrollA
  generalize Q.back s a 0 = l1
  generalize Q.back s a s = k1
  generalize Q.back s b 0 = l2
  generalize Q.back s b s = k2
  generalize Q.effSh (Q.sm a) l1 k1 = s1
  generalize Q.effSh (Q.sm b) l2 k2 = s2
  have r1 := rise_eq s s1 l1 k1
  have r2 := rise_eq s s2 l2 k2
  generalize Q.riseA s s1 l1 k1 = u1 at *
  generalize Q.riseA s s2 l2 k2 = u2 at *
  by_cases h1 : l1 = l2
  · subst h1
    by_cases h2 : u1 = u2
    · subst h2
      simp [F_scroll_apart, bodyF_ap, B_scroll_apart, S_scroll_apart_1, S_scroll_apart_2, S_scroll_apart_3, S_scroll_apart_4, parR, r1, r2]
    · simp [F_scroll_apart, bodyF_ap, B_scroll_apart, S_scroll_apart_1, S_scroll_apart_2, S_scroll_apart_3, S_scroll_apart_4, parR, r1, r2, h2]
  · simp [F_scroll_apart, bodyF_ap, B_scroll_apart, S_scroll_apart_1, S_scroll_apart_2, S_scroll_apart_3, S_scroll_apart_4, parR, r1, r2, h1]
/-- the least room, the least scroll -/
inductive Ap (a b : List Int) : D → Prop
  | same (h : a = b) : Ap a b .non
  | part {S x : Int} (h : a ≠ b) (h1 : 1 ≤ S) (h2 : ∀ s, 0 ≤ s → s < S → Q.Same a b s) (h3 : 0 ≤ x) (h4 : x ≤ S) (h5 : Q.back S a x ≠ Q.back S b x) (h6 : ∀ y, 0 ≤ y → y < x → Q.back S a y = Q.back S b y) (h7 : S ≤ Q.mx a + 1) (h8 : S ≤ Q.mx b + 1) : Ap a b (.tup [.int S, .int x])
theorem room_eq {ts us : List Int} (ht : ts.length < 900000) (hu : us.length < 900000) : ∃ d, F_room_apart [.d (.lst (ts.map D.int)), .d (.lst (us.map D.int))] = .ok (.d d, [.d (.lst (ts.map D.int)), .d (.lst (us.map D.int))]) ∧ Ap (Q.form ts) (Q.form us) d := by
  have e1 := form_eq ht
  have e2 := form_eq hu
  have n1 := Q.form_nr ts
  have n2 := Q.form_nr us
  have l1 := form_le ts
  have l2 := form_le us
  have q := eqD_ints (Q.form ts).reverse (Q.form us).reverse
  have dd : decide ((Q.form ts).reverse = (Q.form us).reverse) = decide (Q.form ts = Q.form us) := by simp
  rw [dd, ← fr_eq, ← fr_eq] at q
  generalize Q.form ts = a at *
  generalize Q.form us = b at *
  have s1 : S_room_apart_1 [.d (.lst (ts.map D.int)), .d (.lst (us.map D.int)), .un, .un, .un] = .nx [.d (.lst (ts.map D.int)), .d (.lst (us.map D.int)), .d (.lst (fr a)), .d (.lst (fr b)), .un] := by
    simp [S_room_apart_1, parR, e1, e2]
  by_cases h : a = b
  · refine ⟨.non, ?_, .same h⟩
    have s2 : S_room_apart_2 [.d (.lst (ts.map D.int)), .d (.lst (us.map D.int)), .d (.lst (fr a)), .d (.lst (fr b)), .un] = .rt (.d .non) [.d (.lst (ts.map D.int)), .d (.lst (us.map D.int)), .d (.lst (fr a)), .d (.lst (fr b)), .un] := by
      rw [decide_eq_true h] at q
      simp [S_room_apart_2, q]
    simp [F_room_apart, bodyF_ap, B_room_apart, s1, s2]
  · have s2 : S_room_apart_2 [.d (.lst (ts.map D.int)), .d (.lst (us.map D.int)), .d (.lst (fr a)), .d (.lst (fr b)), .un] = .nx [.d (.lst (ts.map D.int)), .d (.lst (us.map D.int)), .d (.lst (fr a)), .d (.lst (fr b)), .un] := by
      rw [decide_eq_false h] at q
      simp [S_room_apart_2, q]
    obtain ⟨S, f1, hS⟩ := size_eq (a := a) (b := b) (by omega) (by omega) rfl
    obtain ⟨g1, g2, g3, g4⟩ := Q.size_least n1 n2 h rfl hS
    obtain ⟨x, hx, g5, g6, g7, g8⟩ := Q.scroll_least (a := a) (b := b) (s := S) (by omega) g3
    have f2 := eff_eq S a
    have f3 := eff_eq S b
    have f4 := scroll_eq S a b
    rw [← hx] at f4
    refine ⟨.tup [.int S, .int x], ?_, .part h g1 g2 g5 g6 g7 g8 (by split at g4 <;> omega) (by split at g4 <;> omega)⟩
    have s3 : S_room_apart_3 [.d (.lst (ts.map D.int)), .d (.lst (us.map D.int)), .d (.lst (fr a)), .d (.lst (fr b)), .un] = .nx [.d (.lst (ts.map D.int)), .d (.lst (us.map D.int)), .d (.lst (fr a)), .d (.lst (fr b)), .d (.int S)] := by
      simp [S_room_apart_3, f1]
    have s4 : S_room_apart_4 [.d (.lst (ts.map D.int)), .d (.lst (us.map D.int)), .d (.lst (fr a)), .d (.lst (fr b)), .d (.int S)] = .rt (.d (.tup [.int S, .int x])) [.d (.lst (ts.map D.int)), .d (.lst (us.map D.int)), .d (.lst (fr a)), .d (.lst (fr b)), .d (.int S)] := by
      simp [S_room_apart_4, f2, f3, f4]
    simp [F_room_apart, bodyF_ap, B_room_apart, s1, s2, s3, s4]
end LW

set_option Elab.async false
set_option maxRecDepth 100000
set_option linter.all false
namespace LW
open PySem PySem.Spec PyProof.Rows L2 VL
theorem rangeL_S (a : Int) (n : Nat) : rangeL a (n + 1) = D.int a :: rangeL (a + 1) n := by
  unfold rangeL
  rw [List.range_succ_eq_map, List.map_cons, List.map_map]
  congr 1
  · congr 1
    omega
  · refine List.map_congr_left fun i _ => ?_
    show D.int (a + ((i + 1 : Nat) : Int)) = D.int (a + 1 + (i : Nat))
    congr 1
    omega
section
variable {T U N : O} {ts us : List Int}
abbrev tD (ts : List Int) : O := .d (.lst (ts.map D.int))
theorem il_same {s y : Int} (h : Q.led s ts y = Q.led s us y) : S_l_law_is_like_1_1_1 [tD ts, tD us, N, .d (.int s), .d (.int y)] = .nx [tD ts, tD us, N, .d (.int s), .d (.int y)] := by
  have e1 := led_eq s ts y
  have e2 := led_eq s us y
  rw [← h] at e2
  simp [S_l_law_is_like_1_1_1, e1, e2]
theorem il_part {s y : Int} (h : Q.led s ts y ≠ Q.led s us y) : S_l_law_is_like_1_1_1 [tD ts, tD us, N, .d (.int s), .d (.int y)] = .rt (.d (.tup [.int s, .int y])) [tD ts, tD us, N, .d (.int s), .d (.int y)] := by
  have e1 := led_eq s ts y
  have e2 := led_eq s us y
  simp [S_l_law_is_like_1_1_1, e1, e2, h]
theorem il_in (s : Int) : ∀ (n : Nat) (a : Int) (o : O), (∀ y, a ≤ y → y < a + n → Q.led s ts y = Q.led s us y) → ∃ o', forL (nameG 4) S_l_law_is_like_1_1_1 (rangeL a n) [tD ts, tD us, N, .d (.int s), o] = .nx [tD ts, tD us, N, .d (.int s), o']
  | 0, a, o, _ => ⟨o, rfl⟩
  | n + 1, a, o, h => by
    obtain ⟨o', e⟩ := il_in s n (a + 1) (.d (.int a)) fun y h1 h2 => h y (by omega) (by omega)
    refine ⟨o', ?_⟩
    rw [rangeL_S, for_go (e1 := [tD ts, tD us, N, .d (.int s), .d (.int a)]) (by simp) (il_same (h a (by omega) (by omega))), e]
theorem il_out (s : Int) : ∀ (m n : Nat) (a : Int) (o : O), n < m → (∀ y, a ≤ y → y < a + n → Q.led s ts y = Q.led s us y) → Q.led s ts (a + n) ≠ Q.led s us (a + n) → ∃ e, forL (nameG 4) S_l_law_is_like_1_1_1 (rangeL a m) [tD ts, tD us, N, .d (.int s), o] = .rt (.d (.tup [.int s, .int (a + n)])) [tD ts, tD us, N, .d (.int s), e]
  | 0, n, a, o, h, _, _ => absurd h (Nat.not_lt_zero _)
  | m + 1, 0, a, o, h, _, h2 => by
    rw [show a + ((0 : Nat) : Int) = a by omega] at h2 ⊢
    refine ⟨.d (.int a), ?_⟩
    have := il_part (N := N) h2
    rw [rangeL_S, forL_cons]
    simp [this]
  | m + 1, n + 1, a, o, h, h1, h2 => by
    obtain ⟨o', e⟩ := il_out s m n (a + 1) (.d (.int a)) (by omega) (fun y h3 h4 => h1 y (by omega) (by omega)) (by
      rw [show a + 1 + (n : Int) = a + ((n + 1 : Nat) : Int) by omega]
      exact h2)
    refine ⟨o', ?_⟩
    rw [rangeL_S, for_go (e1 := [tD ts, tD us, N, .d (.int s), .d (.int a)]) (by simp) (il_same (h1 a (by omega) (by omega))), e, show a + 1 + (n : Int) = a + ((n + 1 : Nat) : Int) by omega]
theorem ir_same {s : Nat} {o : O} (hs : s < 1000000) (h : ∀ y, 0 ≤ y → y ≤ (s : Int) → Q.led s ts y = Q.led s us y) : ∃ o', S_l_law_is_like_1_1 [tD ts, tD us, N, .d (.int s), o] = .nx [tD ts, tD us, N, .d (.int s), o'] := by
  obtain ⟨o', e⟩ := il_in (N := N) (ts := ts) (us := us) s (s + 1) 0 o fun y h1 h2 => h y h1 (by omega)
  have hr : okR ((s : Int) + 1) = true := by
    have := okR_nat (n := s + 1) (by omega)
    exact this
  have ht : ((s : Int) + 1).toNat = s + 1 := by omega
  exact ⟨o', by simp [S_l_law_is_like_1_1, hr, ht, e]⟩
theorem ir_part {s x : Nat} {o : O} (hs : s < 1000000) (hx : x ≤ s) (h : ∀ y, 0 ≤ y → y < (x : Int) → Q.led s ts y = Q.led s us y) (h2 : Q.led s ts x ≠ Q.led s us x) : ∃ o', S_l_law_is_like_1_1 [tD ts, tD us, N, .d (.int s), o] = .rt (.d (.tup [.int s, .int x])) [tD ts, tD us, N, .d (.int s), o'] := by
  obtain ⟨o', e⟩ := il_out (N := N) (ts := ts) (us := us) s (s + 1) x 0 o (by omega) (fun y h1 h2 => h y h1 (by omega)) (by rw [Int.zero_add]; exact h2)
  rw [Int.zero_add] at e
  have hr : okR ((s : Int) + 1) = true := by
    have := okR_nat (n := s + 1) (by omega)
    exact this
  have ht : ((s : Int) + 1).toNat = s + 1 := by omega
  exact ⟨o', by simp [S_l_law_is_like_1_1, hr, ht, e]⟩
theorem or_in : ∀ (n a : Nat) (o p : O), a + n ≤ 1000000 → (∀ s : Nat, a ≤ s → s < a + n → ∀ y, 0 ≤ y → y ≤ (s : Int) → Q.led s ts y = Q.led s us y) → ∃ o' p', forL (nameG 3) S_l_law_is_like_1_1 (rangeL a n) [tD ts, tD us, N, o, p] = .nx [tD ts, tD us, N, o', p']
  | 0, a, o, p, _, _ => ⟨o, p, rfl⟩
  | n + 1, a, o, p, ha, h => by
    obtain ⟨q, e1⟩ := ir_same (N := N) (s := a) (o := p) (by omega) (h a (by omega) (by omega))
    obtain ⟨o', p', e⟩ := or_in n (a + 1) (.d (.int a)) q (by omega) fun s h1 h2 => h s (by omega) (by omega)
    refine ⟨o', p', ?_⟩
    rw [rangeL_S, for_go (e1 := [tD ts, tD us, N, .d (.int a), p]) (by simp) e1]
    exact e
theorem or_out {x : Nat} : ∀ (m n a : Nat) (o p : O), n < m → a + m ≤ 1000000 → x ≤ a + n → (∀ s : Nat, a ≤ s → s < a + n → ∀ y, 0 ≤ y → y ≤ (s : Int) → Q.led s ts y = Q.led s us y) →
    (∀ y, 0 ≤ y → y < (x : Int) → Q.led ((a + n : Nat) : Int) ts y = Q.led ((a + n : Nat) : Int) us y) → Q.led ((a + n : Nat) : Int) ts x ≠ Q.led ((a + n : Nat) : Int) us x →
    ∃ o' p', forL (nameG 3) S_l_law_is_like_1_1 (rangeL a m) [tD ts, tD us, N, o, p] = .rt (.d (.tup [.int ((a + n : Nat) : Int), .int x])) [tD ts, tD us, N, o', p']
  | 0, n, a, o, p, h, _, _, _, _, _ => absurd h (Nat.not_lt_zero _)
  | m + 1, 0, a, o, p, h, ha, hx, h1, h2, h3 => by
    rw [show a + 0 = a from rfl] at h2 h3 hx ⊢
    obtain ⟨q, e⟩ := ir_part (N := N) (o := p) (by omega) hx h2 h3
    refine ⟨.d (.int a), q, ?_⟩
    rw [rangeL_S, forL_cons]
    simp [e]
  | m + 1, n + 1, a, o, p, h, ha, hx, h1, h2, h3 => by
    obtain ⟨q, e1⟩ := ir_same (N := N) (s := a) (o := p) (by omega) (h1 a (by omega) (by omega))
    have ee : a + (n + 1) = a + 1 + n := by omega
    rw [ee] at h2 h3 hx ⊢
    obtain ⟨o', p', e⟩ := or_out m n (a + 1) (.d (.int a)) q (by omega) (by omega) hx (fun s h4 h5 => h1 s (by omega) (by omega)) h2 h3
    refine ⟨o', p', ?_⟩
    rw [rangeL_S, for_go (e1 := [tD ts, tD us, N, .d (.int a), p]) (by simp) e1]
    exact e
end
theorem like_eq {ts us : List Int} {d : D} {N : Nat} (h : Ap (Q.form ts) (Q.form us) d) (hN : N < 900000) (h1 : Q.mx (Q.form ts) < N) (h2 : Q.mx (Q.form us) < N) :
    F_l_law_is_like [.d (.lst (ts.map D.int)), .d (.lst (us.map D.int)), .d (.int N)] = .ok (.d d, [.d (.lst (ts.map D.int)), .d (.lst (us.map D.int)), .d (.int N)]) := by
  have hr : okR ((N : Int) + 1) = true := by
    have := okR_nat (n := N + 1) (by omega)
    exact this
  have ht : ((N : Int) + 1).toNat = N + 1 := by omega
  have bk : ∀ {s y : Int}, 0 ≤ y → y ≤ s → Q.back s (Q.form ts) y = Q.led s ts y := fun h1 h2 => Q.form_led ts (by omega) h1 h2
  have bk2 : ∀ {s y : Int}, 0 ≤ y → y ≤ s → Q.back s (Q.form us) y = Q.led s us y := fun h1 h2 => Q.form_led us (by omega) h1 h2
  cases h with
  | same h =>
    obtain ⟨o', p', e⟩ := or_in (N := .d (.int N)) (ts := ts) (us := us) (N + 1) 0 .un .un (by omega) fun s _ _ y h3 h4 => by
      rw [← bk h3 h4, ← bk2 h3 h4, h]
    have e' : forL (nameG 3) S_l_law_is_like_1_1 (rangeL 0 (N + 1)) [tD ts, tD us, .d (.int N), .un, .un] = .nx [tD ts, tD us, .d (.int N), o', p'] := e
    simp [F_l_law_is_like, bodyF_ap, B_l_law_is_like, S_l_law_is_like_1, hr, ht, e', S_l_law_is_like_2]
  | @part S x h3 h4 h5 h6 h7 h8 h9 h10 h11 =>
    obtain ⟨S, rfl⟩ : ∃ n : Nat, S = n := ⟨S.toNat, by omega⟩
    obtain ⟨x, rfl⟩ : ∃ n : Nat, x = n := ⟨x.toNat, by omega⟩
    obtain ⟨o', p', e⟩ := or_out (N := .d (.int N)) (ts := ts) (us := us) (x := x) (N + 1) S 0 .un .un (by omega) (by omega) (by omega) (fun s _ z y k1 k2 => by
      rw [← bk k1 k2, ← bk2 k1 k2]
      exact h5 s (by omega) (by omega) y k1 k2) (fun y k1 k2 => by
      rw [Nat.zero_add, ← bk k1 (by omega), ← bk2 k1 (by omega)]
      exact h9 y k1 k2) (by
      rw [Nat.zero_add, ← bk h6 h7, ← bk2 h6 h7]
      exact h8)
    rw [Nat.zero_add] at e
    have e' : forL (nameG 3) S_l_law_is_like_1_1 (rangeL 0 (N + 1)) [tD ts, tD us, .d (.int N), .un, .un] = .rt (.d (.tup [.int S, .int x])) [tD ts, tD us, .d (.int N), o', p'] := e
    simp [F_l_law_is_like, bodyF_ap, B_l_law_is_like, S_l_law_is_like_1, hr, ht, e', S_l_law_is_like_2]
theorem Ap.uniq {a b : List Int} {d d' : D} (h : Ap a b d) (h' : Ap a b d') : d = d' := by
  cases h with
  | same h =>
    cases h' with
    | same _ => rfl
    | part h2 => exact absurd h h2
  | @part S x h h1 h2 h3 h4 h5 h6 =>
    cases h' with
    | same h' => exact absurd h' h
    | @part S' x' g g1 g2 g3 g4 g5 g6 =>
      have e : S = S' := by
        by_cases z : S < S'
        · exact absurd (g2 S (by omega) z x h3 h4) h5
        · by_cases z2 : S' < S
          · exact absurd (h2 S' (by omega) z2 x' g3 g4) g5
          · omega
      subst e
      have e : x = x' := by
        by_cases z : x < x'
        · exact absurd (g6 x h3 z) h5
        · by_cases z2 : x' < x
          · exact absurd (h6 x' g3 z2) g5
          · omega
      subst e
      rfl
theorem Ap.non_ {a b : List Int} {d : D} (h : Ap a b d) : (a = b ∧ d = .non) ∨ (a ≠ b ∧ ∃ S x : Int, d = .tup [.int S, .int x]) := by
  cases h with
  | same h => exact .inl ⟨h, rfl⟩
  | part h => exact .inr ⟨h, _, _, rfl⟩
end LW

set_option Elab.async false
set_option maxRecDepth 100000
set_option linter.all false
namespace LW
open PySem PySem.Spec PyProof.Rows L2 VL
def E0 (w : O) : Ev := [w, .un, .un, .un, .un, .un, .un, .un, .un, .un, .un, .un, .un, .un, .un]
theorem st1 {c : Nat} {w : O} (hw : Well c w) (hc : c ≤ 2 ^ 20) : ∃ (m : Int) (w' : O), S_l_law_right_1 [w, .un, .un, .un, .un, .un, .un, .un, .un, .un, .un, .un, .un, .un, .un] = .nx [w', .d (.int m), .un, .un, .un, .un, .un, .un, .un, .un, .un, .un, .un, .un, .un] ∧ 2 ≤ m ∧ m ≤ 7 ∧ Well (c + 1) w' := by
  obtain ⟨z, w', e, hz, hw'⟩ := wone_eq (ds := [.int 2, .int 3, .int 7]) hw (by omega) (by simp) (by simp)
  have : ∃ m : Int, z = .int m ∧ 2 ≤ m ∧ m ≤ 7 := by
    simp only [List.mem_cons, List.not_mem_nil, or_false] at hz
    rcases hz with rfl | rfl | rfl
    · exact ⟨2, rfl, by omega, by omega⟩
    · exact ⟨3, rfl, by omega, by omega⟩
    · exact ⟨7, rfl, by omega, by omega⟩
  obtain ⟨m, rfl, h1, h2⟩ := this
  exact ⟨m, w', by simp [S_l_law_right_1, F_one, hw.un, e], h1, h2, hw'⟩
theorem st2 {c : Nat} {w : O} {m : Int} (hw : Well c w) (hc : c ≤ 2 ^ 20) (hm : 2 ≤ m) (hm2 : m ≤ 7) : ∃ (ts : List Int) (w' : O), S_l_law_right_2 [w, .d (.int m), .un, .un, .un, .un, .un, .un, .un, .un, .un, .un, .un, .un, .un] = .nx [w', .d (.int m), tD ts, .un, .un, .un, .un, .un, .un, .un, .un, .un, .un, .un, .un] ∧
    ts.length ≤ 9 ∧ (∀ t ∈ ts, -7 ≤ t ∧ t ≤ 7) ∧ Well (c + 10) w' := by
  obtain ⟨n, w1, e1, h1, h2, hw1⟩ := dip_eq (m := 10) hw (by omega) (by decide) (by decide)
  obtain ⟨k, rfl⟩ : ∃ k : Nat, n = k := ⟨n.toNat, by omega⟩
  have hmo : mulOk 2 m = true := mulOk_l (by decide)
  obtain ⟨zs, e, e2, hl, hz, w2, rfl, hw2⟩ := lcL_inv (vs := [13]) (tgt := nameG 13) (test := yesT) (elt := (op2 subD (.val (callE F_l_law_dip (some 0) [(.pk 0), (.val (op2 addD (.val (op2 mulD (.val (cE (.int 2))) (.pk 1))) (.val (cE (.int 1)))))])) (.pk 1))) (fun z => ∃ i, z = D.int i ∧ -7 ≤ i ∧ i ≤ 7)
    (fun j env => ∃ w, env = [w, .d (.int m), .un, .un, .un, .un, .un, .un, .un, .un, .un, .un, .un, .un, .un] ∧ Well (c + 1 + j) w) (rangeL 0 k) [] 0 [w1, .d (.int m), .un, .un, .un, .un, .un, .un, .un, .un, .un, .un, .un, .un, .un] (fun j d env hd ⟨w, e, hw⟩ => by
      subst e
      obtain ⟨hj, rfl⟩ := rangeL_get hd
      obtain ⟨r, w2, e2, g1, g2, hw2⟩ := dip_eq (m := 2 * m + 1) hw (by omega) (by omega) (by omega)
      refine ⟨[w, .d (.int m), .un, .un, .un, .un, .un, .un, .un, .un, .un, .un, .un, .d (.int j), .un], .d (.int (r - m)), [w2, .d (.int m), .un, .un, .un, .un, .un, .un, .un, .un, .un, .un, .un, .d (.int j), .un], by simp, by simp, ?_, rfl, ⟨r - m, rfl, by omega, by omega⟩, by simp, w2, by simp, hw2.mono (by omega)⟩
      simp [F_l_law_dip, hw.un, e2, hmo]) (by rw [rangeL_length]; simp; omega) ⟨w1, rfl, hw1⟩
  obtain ⟨ts, rfl, ht⟩ := ints_of_all hz
  rw [rangeL_length] at hl hw2
  rw [List.length_map] at hl
  refine ⟨ts, w2, ?_, by omega, ht, hw2.mono (by omega)⟩
  have hr : okR (k : Int) = true := okR_nat (by omega)
  have e3 : lcL [13] (nameG 13) yesT (op2 subD (.val (callE dipF (some 0) [(.pk 0), (.val (op2 addD (.val (op2 mulD (.val (cE (.int 2))) (.pk 1))) (.val (cE (.int 1)))))])) (.pk 1)) (rangeL 0 k) [w1, .d (.int m), .un, .un, .un, .un, .un, .un, .un, .un, .un, .un, .un, .un, .un] [] = .ok (ts.map D.int, [w2, .d (.int m), .un, .un, .un, .un, .un, .un, .un, .un, .un, .un, .un, .un, .un]) := e2
  simp [S_l_law_right_2, F_l_law_dip, hw.un, e1, hr, e3]
theorem st3 {c : Nat} {w o : O} {ts : List Int} (hw : Well c w) (hc : c ≤ 2 ^ 20) (hl : ts.length ≤ 9) (hb : ∀ t ∈ ts, -7 ≤ t ∧ t ≤ 7) : ∃ (us : List Int) (w' : O), S_l_law_right_3 [w, o, tD ts, .un, .un, .un, .un, .un, .un, .un, .un, .un, .un, .un, .un] = .nx [w', o, tD ts, tD us, .un, .un, .un, .un, .un, .un, .un, .un, .un, .un, .un] ∧
    us.length ≤ 11 ∧ (∀ t ∈ us, -7 ≤ t ∧ t ≤ 7) ∧ Well (c + 3) w' := by
  obtain ⟨us, w', e, h1, h2, h3⟩ := turned_eq (by omega) hb hw (by omega)
  exact ⟨us, w', by simp [S_l_law_right_3, hw.un, e], by omega, h2, h3⟩
theorem st4 {c : Nat} {w o p : O} {ts : List Int} (hw : Well c w) (hc : c ≤ 2 ^ 20) (hl : ts.length ≤ 11) (hb : ∀ t ∈ ts, -7 ≤ t ∧ t ≤ 7) : ∃ (us : List Int) (w' : O), S_l_law_right_4 [w, o, p, tD ts, .un, .un, .un, .un, .un, .un, .un, .un, .un, .un, .un] = .nx [w', o, p, tD us, .un, .un, .un, .un, .un, .un, .un, .un, .un, .un, .un] ∧
    us.length ≤ 13 ∧ (∀ t ∈ us, -7 ≤ t ∧ t ≤ 7) ∧ Well (c + 4) w' := by
  obtain ⟨v, w1, e1, g1, g2, hw1⟩ := dip_eq (m := 2) hw (by omega) (by decide) (by decide)
  by_cases h : v = 0
  · subst h
    obtain ⟨us, w', e, h1, h2, h3⟩ := turned_eq (by omega) hb hw1 (by omega)
    exact ⟨us, w', by simp [S_l_law_right_4, F_l_law_dip, hw.un, hw1.un, e1, e], by omega, h2, h3.mono (by omega)⟩
  · exact ⟨ts, w1, by simp [S_l_law_right_4, F_l_law_dip, hw.un, e1, h], by omega, hb, hw1.mono (by omega)⟩
theorem form_idem (us : List Int) : Q.form (Q.form us).reverse = Q.form us :=
  Q.same_eq (Q.form_nr _) (Q.form_nr _) fun s hs x h1 h2 => by
    rw [Q.form_led _ hs h1 h2, ← Q.back_led]
theorem due_iff {us js : List Int} (J : JL us js) : (Q.form us).reverse = us ↔ (Q.gat [] us).reverse = us ∧ js = [] := by
  constructor
  · intro h
    have hr : us.reverse = Q.form us := by rw [← h, List.reverse_reverse, form_idem]
    have n : Q.NR us.reverse := by
      rw [hr]
      exact Q.form_nr us
    obtain ⟨j1, j2⟩ := Q.of_nr n
    constructor
    · have := Q.gat_fix us (acc := []) (by rw [List.append_nil]; exact Q.NR.alt n)
      rw [this, List.append_nil, List.reverse_reverse]
    · cases js with
      | nil => rfl
      | cons j js =>
        rcases J.of j List.mem_cons_self with ⟨k, _, h⟩ | ⟨_, h⟩
        · exact absurd h (j1 k)
        · exact absurd h j2
  · rintro ⟨h1, h2⟩
    obtain ⟨g1, _, _⟩ := Q.gat_ok us (acc := []) trivial
    have e : us.reverse = Q.gat [] us := by rw [← h1, List.reverse_reverse, h1]
    rw [← e] at g1
    have := Q.done_ (F := us) (ts := us) g1 (J.nil h2).1 (J.nil h2).2 fun _ _ _ _ _ => rfl
    rw [← this, List.reverse_reverse]
theorem tot_app : ∀ a b : List Int, Q.tot (a ++ b) = Q.tot a + Q.tot b
  | [], b => by show Q.tot b = 0 + Q.tot b; omega
  | t :: a, b => by
    show Q.ab t + Q.tot (a ++ b) = Q.ab t + Q.tot a + Q.tot b
    rw [tot_app a b]
    omega
theorem tot_rev : ∀ a : List Int, Q.tot a.reverse = Q.tot a
  | [] => rfl
  | t :: a => by
    rw [List.reverse_cons, tot_app, tot_rev a]
    show Q.tot a + (Q.ab t + 0) = Q.ab t + Q.tot a
    omega
theorem sum_ab : ∀ ts : List Int, (ts.map Q.ab).sum = Q.tot ts
  | [] => rfl
  | t :: ts => by
    rw [List.map_cons, List.sum_cons, sum_ab ts]
    rfl
theorem mem_tot {t : Int} : ∀ {ts : List Int}, t ∈ ts → Q.ab t ≤ Q.tot ts
  | u :: ts, h => by
    have h0 := Q.tot_nonneg ts
    show Q.ab t ≤ Q.ab u + Q.tot ts
    rcases List.mem_cons.mp h with rfl | h
    · omega
    · have := mem_tot h
      have : 0 ≤ Q.ab u := by unfold Q.ab; omega
      omega
theorem tot_le : ∀ {ts : List Int}, (∀ t ∈ ts, -7 ≤ t ∧ t ≤ 7) → Q.tot ts ≤ 7 * ts.length
  | [], _ => Int.le_refl _
  | t :: ts, h => by
    have h1 := tot_le (ts := ts) fun t m => h t (List.mem_cons_of_mem _ m)
    have h2 := h t List.mem_cons_self
    show Q.ab t + Q.tot ts ≤ 7 * ((ts.length + 1 : Nat) : Int)
    unfold Q.ab
    omega
theorem fr_al (r : List Int) (h : r.length < 16777216) : Al 1 (.lst (fr r)) := by
  rw [fr_eq]
  exact al_ints _ (by rw [List.length_reverse]; exact h)
theorem al_three {n : Nat} {x y z : D} (hx : Al n x) (hy : Al n y) (hz : Al n z) : Al (n + 1) (.lst [x, y, z]) := .lst (fun u m => by
  simp only [List.mem_cons, List.not_mem_nil, or_false] at m
  rcases m with rfl | rfl | rfl
  · exact hx
  · exact hy
  · exact hz) (by simp)
theorem al_two {n : Nat} {x : D} (h : Al n x) : Al (n + 1) (.lst [x, x]) := .lst (fun y m => by
  simp only [List.mem_cons, List.not_mem_nil, or_false] at m
  rcases m with rfl | rfl <;> exact h) (by simp)
end LW

set_option Elab.async false
set_option maxRecDepth 100000
set_option linter.all false
namespace LW
open PySem PySem.Spec PyProof.Rows L2 VL
section
variable {w o1 o2 o3 o5 o6 o7 : O} {us : List Int}
abbrev fD (us : List Int) : D := .lst (fr (Q.form us))
abbrev B5 (w o1 o2 o3 : O) (us : List Int) (o5 o6 o7 : O) : Ev := [w, o1, o2, o3, tD us, o5, o6, o7, .un, .un, .un, .un, .un, .un, .un]
theorem b1 {c : Nat} (hw : Well c w) (hl : us.length ≤ 100) (hc : c ≤ 2 ^ 20) : ∃ w', S_l_law_right_5_1 (B5 w o1 o2 o3 us o5 o6 o7) = .nx (B5 w' o1 o2 o3 us (.d (fD us)) o6 o7) ∧ Well (c + 100) w' := by
  obtain ⟨w', e, hw'⟩ := lshort_eq (ts := us) (by omega) hw (by omega)
  exact ⟨w', by simp [S_l_law_right_5_1, hw.un, e], hw'.mono (by omega)⟩
theorem b2 (hl : us.length ≤ 100) : S_l_law_right_5_2 (B5 w o1 o2 o3 us (.d (fD us)) o6 o7) = .nx (B5 w o1 o2 o3 us (.d (fD us)) (.fl (fr (Q.form us))) o7) := by
  have e := short_eq (ts := us) (by omega)
  simp [S_l_law_right_5_2, e]
theorem short_due (hl : us.length ≤ 100) : F_short_form [.d (fD us)] = .ok (.fl (fr (Q.form us)), [.d (fD us)]) := by
  have l := form_le us
  have e := short_eq (ts := (Q.form us).reverse) (by rw [List.length_reverse]; omega)
  rw [form_idem] at e
  exact e
theorem is_due (hl : us.length ≤ 100) : F_is_short [.d (fD us)] = .ok (.d (.bl true), [.d (fD us)]) := by
  have l := form_le us
  have e := is_short_eq (ts := (Q.form us).reverse) (by rw [List.length_reverse]; omega)
  rw [form_idem, decide_eq_true rfl] at e
  exact e
theorem b3 (hl : us.length ≤ 100) : S_l_law_right_5_3 (B5 w o1 o2 o3 us (.d (fD us)) (.fl (fr (Q.form us))) o7) = .nx (B5 w o1 o2 o3 us (.d (fD us)) (.fl (fr (Q.form us))) o7) := by
  have l := form_le us
  have e := short_eq (ts := us) (by omega)
  have e2 := short_due hl
  have al := fr_al (Q.form us) (by omega)
  have a := alike_same (al_three al al al) 70 (by decide) (by decide)
  simp [S_l_law_right_5_3, F_alike, e, e2, a, evL, LArg.look, LArg.whole]
theorem b4 : S_l_law_right_5_4 (B5 w o1 o2 o3 us (.d (fD us)) o6 o7) = .nx (B5 w o1 o2 o3 us (.d (fD us)) o6 (.d (.bl (decide ((Q.form us).reverse = us))))) := by
  have q := eqD_ints (Q.form us).reverse us
  rw [← fr_eq] at q
  simp [S_l_law_right_5_4, q]
theorem b5 (hl : us.length ≤ 100) : S_l_law_right_5_5 (B5 w o1 o2 o3 us (.d (fD us)) o6 (.d (.bl (decide ((Q.form us).reverse = us))))) = .nx (B5 w o1 o2 o3 us (.d (fD us)) o6 (.d (.bl (decide ((Q.form us).reverse = us))))) := by
  have e1 := is_short_eq (ts := us) (by omega)
  have e2 := is_due hl
  have a := alike_same (al_three (n := 0) (.bl (decide ((Q.form us).reverse = us))) (.bl (decide ((Q.form us).reverse = us))) (.bl true)) 70 (by decide) (by decide)
  have e3 := gathered_eq (ts := us) (by omega)
  obtain ⟨js, e4, J⟩ := joinings_eq (F := us) (by omega)
  have q1 := eqD_ints (Q.gat [] us).reverse us
  rw [← fr_eq] at q1
  have q2 := eqD_ints js []
  rw [List.map_nil] at q2
  have iff_ := due_iff J
  by_cases h1 : (Q.gat [] us).reverse = us
  · by_cases h2 : js = []
    · rw [decide_eq_true (iff_.mpr ⟨h1, h2⟩)] at e1 a ⊢
      rw [decide_eq_true h1] at q1
      rw [decide_eq_true h2] at q2
      simp [S_l_law_right_5_5, F_alike, e1, e2, a, e3, e4, q1, q2]
    · have : ¬ (Q.form us).reverse = us := fun z => h2 (iff_.mp z).2
      rw [decide_eq_false this] at e1 a ⊢
      rw [decide_eq_true h1] at q1
      rw [decide_eq_false h2] at q2
      simp [S_l_law_right_5_5, F_alike, e1, e2, a, e3, e4, q1, q2]
  · have : ¬ (Q.form us).reverse = us := fun z => h1 (iff_.mp z).1
    rw [decide_eq_false this] at e1 a ⊢
    rw [decide_eq_false h1] at q1
    simp [S_l_law_right_5_5, F_alike, e1, e2, a, e3, e4, q1]
theorem b6 (hl : us.length ≤ 100) : S_l_law_right_5_6 (B5 w o1 o2 o3 us (.d (fD us)) o6 o7) = .nx (B5 w o1 o2 o3 us (.d (fD us)) o6 o7) := by
  have l := form_le us
  have n := Q.form_nr us
  have hF : (Q.form us).reverse.reverse = Q.form us := List.reverse_reverse _
  have hfr : fr (Q.form us) = (Q.form us).reverse.map D.int := rfl
  have hlen : (Q.form us).reverse.length = (Q.form us).length := List.length_reverse
  rw [← hF] at n
  unfold fD
  rw [hfr]
  generalize (Q.form us).reverse = F at *
  have e : lcL [14] (nameG 14) (tstE (op2 (cmpI fun i j => decide (j ≤ i)) (.val (opN absD [(.val (op2 ixD (.pk 5) (.pk 14)))])) (.val (opN absD [(.val (op2 ixD (.pk 5) (.val (op2 subD (.pk 14) (.val (cE (.int 1)))))))])))) (varE 14) (rangeL 2 (F.length - 2)) (B5 w o1 o2 o3 us (.d (.lst (F.map D.int))) o6 o7) [] = .ok ([], B5 w o1 o2 o3 us (.d (.lst (F.map D.int))) o6 o7) := by
    rw [lcL_pure (fun _ => none) _ [] (fun d m => ?_) (by rw [rangeL_length]; simp; omega)]
    · congr 2
      rw [List.nil_append]
      generalize rangeL 2 (F.length - 2) = L
      induction L with
      | nil => rfl
      | cons x L ih => rw [List.filterMap_cons_none rfl, ih]
    · unfold rangeL at m
      obtain ⟨i, hi, rfl⟩ := List.mem_map.mp m
      have hi2 := List.mem_range.mp hi
      have x1 := at_ix' F (i := 2 + (i : Int)) (k := 2 + i) (by omega) (by omega)
      have x2 := at_ix' F (i := 2 + (i : Int) - 1) (k := 2 + i - 1) (by omega) (by omega)
      have f := Q.falls_nr n (i := 2 + i) (by omega) (by omega)
      generalize Q.at_ F (2 + i) = a at *
      generalize Q.at_ F (2 + i - 1) = b at *
      have f2 : ¬ (if b < 0 then -b else b) ≤ (if a < 0 then -a else a) := by
        unfold Q.ab at f
        omega
      refine ⟨[w, o1, o2, o3, tD us, .d (.lst (F.map D.int)), o6, o7, .un, .un, .un, .un, .un, .un, .d (.int (2 + i))], by simp [B5], by simp, by simp [B5], .inl ⟨?_, rfl⟩⟩
      simp [x1, x2, f2]
  have hr : okR 2 = true := rfl
  have hr2 : okR (F.length : Int) = true := okR_nat (by omega)
  have ht : ((F.length : Int) - 2).toNat = F.length - 2 := by omega
  unfold B5 at e
  simp [S_l_law_right_5_6, hr, hr2, ht, e]
theorem b7 (hl : us.length ≤ 100) : S_l_law_right_5_7 (B5 w o1 o2 o3 us o5 (.fl (fr (Q.form us))) o7) = .nx (B5 w o1 o2 o3 us o5 (.fl (sn (fr (Q.form us)) (.int 0))) o7) := by
  have l := form_le us
  have z : (Q.form us).length < 16777216 := by omega
  simp [S_l_law_right_5_7, z]
theorem bL {c : Nat} (hw : Well c w) (hl : us.length ≤ 100) (hc : c ≤ 2 ^ 20) : ∃ w' o5' o6' o7', S_l_law_right_5L (B5 w o1 o2 o3 us o5 o6 o7) = .nx (B5 w' o1 o2 o3 us o5' o6' o7') ∧ Well (c + 100) w' := by
  obtain ⟨w', e, hw'⟩ := b1 (o1 := o1) (o2 := o2) (o3 := o3) (us := us) (o5 := o5) (o6 := o6) (o7 := o7) hw hl hc
  refine ⟨w', .d (fD us), .fl (sn (fr (Q.form us)) (.int 0)), .d (.bl (decide ((Q.form us).reverse = us))), ?_, hw'⟩
  simp only [S_l_law_right_5L, seqS_ap, seq_nx, e, b2 hl, b3 hl, b4, b5 hl, b6 hl, b7 hl]
end
end LW

set_option Elab.async false
set_option maxRecDepth 100000
set_option linter.all false
namespace LW
open PySem PySem.Spec PyProof.Rows L2 VL
section
variable {w o1 o4 o5 o6 o7 o8 o9 o10 o11 o12 : O} {ts us : List Int}
abbrev C5 (w o1 : O) (ts us : List Int) (o4 o5 o6 o7 o8 o9 o10 o11 o12 : O) : Ev := [w, o1, tD ts, tD us, o4, o5, o6, o7, o8, o9, o10, o11, o12, .un, .un]
theorem st5 {c : Nat} (hw : Well c w) (hc : c ≤ 2 ^ 19) (ht : ts.length ≤ 100) (hu : us.length ≤ 100) : ∃ w' o4' o5' o6' o7', S_l_law_right_5 (C5 w o1 ts us .un .un .un .un .un .un .un .un .un) = .nx (C5 w' o1 ts us o4' o5' o6' o7' .un .un .un .un .un) ∧ Well (c + 200) w' := by
  obtain ⟨w1, p5, p6, p7, e1, hw1⟩ := bL (o1 := o1) (o2 := tD ts) (o3 := tD us) (us := ts) (o5 := .un) (o6 := .un) (o7 := .un) hw ht (by omega)
  obtain ⟨w2, q5, q6, q7, e2, hw2⟩ := bL (o1 := o1) (o2 := tD ts) (o3 := tD us) (us := us) (o5 := p5) (o6 := p6) (o7 := p7) hw1 hu (by omega)
  refine ⟨w2, tD us, q5, q6, q7, ?_, hw2.mono (by omega)⟩
  have f : forL (nameG 4) S_l_law_right_5L [.lst (ts.map D.int), .lst (us.map D.int)] (C5 w o1 ts us .un .un .un .un .un .un .un .un .un) = .nx (C5 w2 o1 ts us (tD us) q5 q6 q7 .un .un .un .un .un) := by
    rw [for_go (e1 := B5 w o1 (tD ts) (tD us) ts .un .un .un) (by simp) e1, for_go (e1 := B5 w1 o1 (tD ts) (tD us) us p5 p6 p7) (by simp) e2]
    rfl
  simp [S_l_law_right_5, f]
theorem st6 {d : D} (ht : ts.length ≤ 13) (hu : us.length ≤ 13) (hbt : ∀ t ∈ ts, -7 ≤ t ∧ t ≤ 7) (hbu : ∀ t ∈ us, -7 ≤ t ∧ t ≤ 7) (h : Ap (Q.form ts) (Q.form us) d) :
    S_l_law_right_6 (C5 w o1 ts us o4 o5 o6 o7 .un .un .un .un .un) = .nx (C5 w o1 ts us o4 o5 o6 o7 (.d d) .un .un .un .un) := by
  have e1 := short_eq (ts := ts) (by omega)
  have e2 := short_eq (ts := us) (by omega)
  have lt := form_le ts
  have lu := form_le us
  have ab1 : ∀ r : List Int, r.length < 100 → lcL [13] (nameG 13) yesT (opN absD [(.pk 13)]) (fr r) (C5 w o1 ts us o4 o5 o6 o7 .un .un .un .un .un) [] = .ok ((r.reverse.map Q.ab).map D.int, C5 w o1 ts us o4 o5 o6 o7 .un .un .un .un .un) := fun r hr =>
    lc_ints Q.ab r.reverse (fun t _ => ⟨[w, o1, tD ts, tD us, o4, o5, o6, o7, .un, .un, .un, .un, .un, .d (.int t), .un], by simp, by simp, by simp, by simp [Q.ab]⟩) (by rw [List.length_reverse]; omega)
  have a1 := ab1 (Q.form ts) (by omega)
  have a2 := ab1 (Q.form us) (by omega)
  have sm1 : ∀ r : List Int, sumD [.lst ((r.reverse.map Q.ab).map D.int)] = some (.d (.int (Q.tot r))) := fun r => by
    have := sumD_lst (r.reverse.map Q.ab)
    rw [sum_ab, tot_rev] at this
    exact this
  have s1 := sm1 (Q.form ts)
  have s2 := sm1 (Q.form us)
  have b1 := Q.form_tot ts
  have b2 := Q.form_tot us
  have b3 := tot_le hbt
  have b4 := tot_le hbu
  have b5 := Q.mx_le_tot (Q.form ts)
  have b6 := Q.mx_le_tot (Q.form us)
  have b7 := Q.tot_nonneg (Q.form ts)
  have b8 := Q.tot_nonneg (Q.form us)
  obtain ⟨N, hN⟩ : ∃ N : Nat, (N : Int) = 1 + (if Q.tot (Q.form ts) < Q.tot (Q.form us) then Q.tot (Q.form us) else Q.tot (Q.form ts)) := ⟨(1 + (if Q.tot (Q.form ts) < Q.tot (Q.form us) then Q.tot (Q.form us) else Q.tot (Q.form ts))).toNat, by split <;> omega⟩
  have k := like_eq (N := N) h (by split at hN <;> omega) (by split at hN <;> omega) (by split at hN <;> omega)
  rw [hN] at k
  simp only [List.map_map, List.map_reverse, C5] at a1 a2 s1 s2
  simp [S_l_law_right_6, e1, e2, a1, a2, s1, s2, k]
theorem st7 {c : Nat} (hw : Well c w) (hc : c ≤ 2 ^ 20) (ht : ts.length ≤ 100) (hu : us.length ≤ 100) : ∃ w', S_l_law_right_7 (C5 w o1 ts us o4 o5 o6 o7 o8 .un .un .un .un) = .nx (C5 w' o1 ts us o4 o5 o6 o7 o8 (.d (.bl (decide (Q.form ts = Q.form us)))) .un .un .un) ∧ Well (c + 200) w' := by
  obtain ⟨w1, e1, hw1⟩ := lshort_eq (ts := ts) (by omega) hw (by omega)
  obtain ⟨w2, e2, hw2⟩ := lshort_eq (ts := us) (by omega) hw1 (by omega)
  have q := eqD_ints (Q.form ts).reverse (Q.form us).reverse
  have d : decide ((Q.form ts).reverse = (Q.form us).reverse) = decide (Q.form ts = Q.form us) := by simp
  rw [d, ← fr_eq, ← fr_eq] at q
  exact ⟨w2, by simp [S_l_law_right_7, hw.un, hw1.un, e1, e2, q], hw2.mono (by omega)⟩
theorem st8 {d : D} (h : Ap (Q.form ts) (Q.form us) d) (ht : ts.length ≤ 100) (hu : us.length ≤ 100) : S_l_law_right_8 (C5 w o1 ts us o4 o5 o6 o7 (.d d) (.d (.bl (decide (Q.form ts = Q.form us)))) .un .un .un) = .nx (C5 w o1 ts us o4 o5 o6 o7 (.d d) (.d (.bl (decide (Q.form ts = Q.form us)))) .un .un .un) := by
  have e1 := alike_eq (ts := ts) (us := us) (by omega) (by omega)
  have e2 := alike_eq (ts := us) (us := ts) (by omega) (by omega)
  have a := alike_same (al_two (n := 0) (.bl (decide (Q.form ts = Q.form us)))) 70 (by decide) (by decide)
  rw [show decide (Q.form us = Q.form ts) = decide (Q.form ts = Q.form us) by rw [decide_eq_decide]; exact eq_comm] at e2
  rcases h.non_ with ⟨h1, rfl⟩ | ⟨h1, S, x, rfl⟩
  · rw [decide_eq_true h1] at *
    simp [S_l_law_right_8, F_alike, e1, e2, a]
  · rw [decide_eq_false h1] at *
    simp [S_l_law_right_8, F_alike, e1, e2, a]
theorem st9 {d : D} (h : Ap (Q.form ts) (Q.form us) d) (ht : ts.length ≤ 100) (hu : us.length ≤ 100) : S_l_law_right_9 (C5 w o1 ts us o4 o5 o6 o7 (.d d) o9 .un .un .un) = .nx (C5 w o1 ts us o4 o5 o6 o7 (.d d) o9 .un .un .un) := by
  obtain ⟨d1, e1, h1⟩ := room_eq (ts := ts) (us := us) (by omega) (by omega)
  obtain ⟨d2, e2, h2⟩ := room_eq (ts := us) (us := ts) (by omega) (by omega)
  have := h.uniq h1
  subst this
  have h2' : Ap (Q.form ts) (Q.form us) d2 := by
    cases h2 with
    | same h => exact .same h.symm
    | part a1 a2 a3 a4 a5 a6 a7 a8 a9 => exact .part (fun e => a1 e.symm) a2 (fun s k1 k2 x k3 k4 => (a3 s k1 k2 x k3 k4).symm) a4 a5 (fun e => a6 e.symm) (fun y k1 k2 => (a7 y k1 k2).symm) a9 a8
  have := h.uniq h2'
  subst this
  have al : Al 1 d := by
    rcases h.non_ with ⟨_, rfl⟩ | ⟨_, S, x, rfl⟩
    · exact .non
    · exact .tup (fun y m => by
        simp only [List.mem_cons, List.not_mem_nil, or_false] at m
        rcases m with rfl | rfl <;> exact .int _) (by simp)
  have a := alike_same (al_two al) 70 (by decide) (by decide)
  simp [S_l_law_right_9, F_alike, e1, e2, a]
abbrev gr : Int := 10000000000000000000000000003
theorem st10 : S_l_law_right_10 (C5 w o1 ts us o4 o5 o6 o7 o8 o9 .un .un .un) = .nx (C5 w o1 ts us o4 o5 o6 o7 o8 o9 (.d (.int gr)) .un .un) := by
  simp [S_l_law_right_10]
theorem st11 (ht : ts.length ≤ 100) (hu : us.length ≤ 100) (hbt : ∀ t ∈ ts, -7 ≤ t ∧ t ≤ 7) (hbu : ∀ t ∈ us, -7 ≤ t ∧ t ≤ 7) :
    S_l_law_right_11 (C5 w o1 ts us o4 o5 o6 o7 o8 o9 (.d (.int gr)) .un .un) = .nx (C5 w o1 ts us o4 o5 o6 o7 o8 o9 (.d (.int gr)) (tD (ts.map (· * gr))) (tD (us.map (· * gr)))) := by
  have mu : ∀ vs : List Int, vs.length ≤ 100 → (∀ t ∈ vs, -7 ≤ t ∧ t ≤ 7) → lcL [13] (nameG 13) yesT (op2 mulD (.pk 13) (.pk 10)) (vs.map D.int) (C5 w o1 ts us o4 o5 o6 o7 o8 o9 (.d (.int gr)) .un .un) [] = .ok ((vs.map (· * gr)).map D.int, C5 w o1 ts us o4 o5 o6 o7 o8 o9 (.d (.int gr)) .un .un) := fun vs hv hb =>
    lc_ints (· * gr) vs (fun t h => by
      have := hb t h
      have hm : mulOk t 10000000000000000000000000003 = true := mulOk_l (by omega)
      exact ⟨[w, o1, tD ts, tD us, o4, o5, o6, o7, o8, o9, .d (.int gr), .un, .un, .d (.int t), .un], by simp, by simp, by simp, by simp [hm]⟩) (by omega)
  have e1 := mu ts ht hbt
  have e2 := mu us hu hbu
  simp only [List.map_map, C5] at e1 e2
  simp [S_l_law_right_11, parR, e1, e2]
theorem map_gr_inj {a b : List Int} (h : a.map (· * gr) = b.map (· * gr)) : a = b := List.map_inj_right (fun x y e => by
  have e : x * gr = y * gr := e
  exact Int.eq_of_mul_eq_mul_right (by decide) e) |>.mp h
theorem st12 {c : Nat} (hw : Well c w) (hc : c ≤ 2 ^ 20) (ht : ts.length ≤ 100) (hu : us.length ≤ 100) (hbt : ∀ t ∈ ts, -7 ≤ t ∧ t ≤ 7) :
    ∃ w' e, S_l_law_right_12 (C5 w o1 ts us o4 o5 o6 o7 o8 (.d (.bl (decide (Q.form ts = Q.form us)))) (.d (.int gr)) (tD (ts.map (· * gr))) (tD (us.map (· * gr)))) = .rt (.d (.bl true)) (w' :: e) ∧ Well (c + 100) w' := by
  obtain ⟨w1, e1, hw1⟩ := lshort_eq (ts := ts) (by omega) hw (by omega)
  have e2 := short_eq (ts := ts.map (· * gr)) (by rw [List.length_map]; omega)
  have hg : (0 : Int) < gr := by decide
  rw [Q.form_mul hg] at e2
  have e3 := alike_eq (ts := ts.map (· * gr)) (us := us.map (· * gr)) (by rw [List.length_map]; omega) (by rw [List.length_map]; omega)
  rw [Q.form_mul hg, Q.form_mul hg, show decide ((Q.form ts).map (· * gr) = (Q.form us).map (· * gr)) = decide (Q.form ts = Q.form us) by
    rw [decide_eq_decide]
    exact ⟨map_gr_inj, fun h => by rw [h]⟩] at e3
  have a := alike_same (n := 0) (.bl (decide (Q.form ts = Q.form us))) 70 (by decide) (by decide)
  have lt := form_le ts
  have b1 := Q.form_tot ts
  have b2 := tot_le hbt
  have mu : lcL [13] (nameG 13) yesT (op2 mulD (.pk 13) (.pk 10)) (fr (Q.form ts)) (C5 w1 o1 ts us o4 o5 o6 o7 o8 (.d (.bl (decide (Q.form ts = Q.form us)))) (.d (.int gr)) (tD (ts.map (· * gr))) (tD (us.map (· * gr)))) [] = .ok (((Q.form ts).reverse.map (· * gr)).map D.int, C5 w1 o1 ts us o4 o5 o6 o7 o8 (.d (.bl (decide (Q.form ts = Q.form us)))) (.d (.int gr)) (tD (ts.map (· * gr))) (tD (us.map (· * gr)))) :=
    lc_ints (· * gr) (Q.form ts).reverse (fun t h => by
      have := mem_tot (List.mem_reverse.mp h)
      unfold Q.ab at this
      have hm : mulOk t 10000000000000000000000000003 = true := mulOk_l (by omega)
      exact ⟨[w1, o1, tD ts, tD us, o4, o5, o6, o7, o8, .d (.bl (decide (Q.form ts = Q.form us))), .d (.int gr), tD (ts.map (· * gr)), tD (us.map (· * gr)), .d (.int t), .un], by simp, by simp, by simp, by simp [hm]⟩) (by rw [List.length_reverse]; omega)
  have q := eqD_ints ((Q.form ts).reverse.map (· * gr)) ((Q.form ts).reverse.map (· * gr))
  rw [decide_eq_true rfl] at q
  have hf : fr ((Q.form ts).map (· * gr)) = ((Q.form ts).reverse.map (· * gr)).map D.int := by
    rw [fr_eq, ← List.map_reverse]
  rw [hf] at e2
  refine ⟨w1, [o1, tD ts, tD us, o4, o5, o6, o7, o8, .d (.bl (decide (Q.form ts = Q.form us))), .d (.int gr), tD (ts.map (· * gr)), tD (us.map (· * gr)), .un, .un], ?_, hw1.mono (by omega)⟩
  generalize decide (Q.form ts = Q.form us) = B at *
  simp only [C5, tD] at mu e2 e3 q ⊢
  generalize ((Q.form ts).reverse.map (· * gr)).map D.int = R at *
  generalize (ts.map (· * gr)).map D.int = FT at *
  generalize (us.map (· * gr)).map D.int = FU at *
  simp [S_l_law_right_12, F_alike, hw.un, e1, e2, mu, q, e3, a]
end
end LW

set_option Elab.async false
set_option maxRecDepth 100000
set_option linter.all false
namespace LW
open PySem PySem.Spec PyProof.Rows L2 VL
theorem right_eq {c : Nat} {w : O} (hw : Well c w) (hc : c ≤ 2 ^ 18) : ∃ w', F_l_law_right [w] = .ok (.d (.bl true), [w']) ∧ Well (c + 600) w' := by
  obtain ⟨m, w1, s1, hm1, hm2, hw1⟩ := st1 hw (by omega)
  obtain ⟨ts, w2, s2, lt, bt, hw2⟩ := st2 hw1 (by omega) hm1 hm2
  obtain ⟨us0, w3, s3, lu0, bu0, hw3⟩ := st3 (o := .d (.int m)) hw2 (by omega) lt bt
  obtain ⟨us, w4, s4, lu, bu, hw4⟩ := st4 (o := .d (.int m)) (p := tD ts) hw3 (by omega) lu0 bu0
  obtain ⟨w5, o4, o5, o6, o7, s5, hw5⟩ := st5 (o1 := .d (.int m)) (ts := ts) (us := us) hw4 (by omega) (by omega) (by omega)
  obtain ⟨d, _, h⟩ := room_eq (ts := ts) (us := us) (by omega) (by omega)
  have s6 := st6 (w := w5) (o1 := .d (.int m)) (o4 := o4) (o5 := o5) (o6 := o6) (o7 := o7) (by omega) (by omega) bt bu h
  obtain ⟨w7, s7, hw7⟩ := st7 (o1 := .d (.int m)) (ts := ts) (us := us) (o4 := o4) (o5 := o5) (o6 := o6) (o7 := o7) (o8 := .d d) hw5 (by omega) (by omega) (by omega)
  have s8 := st8 (w := w7) (o1 := .d (.int m)) (o4 := o4) (o5 := o5) (o6 := o6) (o7 := o7) h (by omega) (by omega)
  have s9 := st9 (w := w7) (o1 := .d (.int m)) (o4 := o4) (o5 := o5) (o6 := o6) (o7 := o7) (o9 := .d (.bl (decide (Q.form ts = Q.form us)))) h (by omega) (by omega)
  have s10 := st10 (w := w7) (o1 := .d (.int m)) (ts := ts) (us := us) (o4 := o4) (o5 := o5) (o6 := o6) (o7 := o7) (o8 := .d d) (o9 := .d (.bl (decide (Q.form ts = Q.form us))))
  have s11 := st11 (w := w7) (o1 := .d (.int m)) (ts := ts) (us := us) (o4 := o4) (o5 := o5) (o6 := o6) (o7 := o7) (o8 := .d d) (o9 := .d (.bl (decide (Q.form ts = Q.form us)))) (by omega) (by omega) bt bu
  obtain ⟨w', e, s12, hw'⟩ := st12 (o1 := .d (.int m)) (ts := ts) (us := us) (o4 := o4) (o5 := o5) (o6 := o6) (o7 := o7) (o8 := .d d) hw7 (by omega) (by omega) (by omega) bt
  refine ⟨w', ?_, hw'.mono (by omega)⟩
  have sb : B_l_law_right [w, .un, .un, .un, .un, .un, .un, .un, .un, .un, .un, .un, .un, .un, .un] = .rt (.d (.bl true)) (w' :: e) := by
    simp only [B_l_law_right, seqS_ap, seq_nx, s1, s2, s3, s4, s5, s6, s7, s8, s9, s10, s11, s12]
  simp [F_l_law_right, bodyF_ap, hw.un, sb]
theorem far_eq {c : Nat} {u q : O} {s : O} (hw : Well c u) (hc : c ≤ 2 ^ 20) (hq : q.free = true) : ∃ (ts : List Int) (w' q' : O), S_law_3 [s, u, q, .un, .un] = .nx [s, w', q', tD ts, .un] ∧ ts.length = 60 ∧ Well (c + 60) w' := by
  have hmo : mulOk 2 100000000000000000000000000000 = true := mulOk_l (by decide)
  obtain ⟨zs, e, e2, hl, hz, w2, rfl, hw2⟩ := lcL_inv (vs := [2]) (tgt := nameG 2) (test := yesT) (elt := (op2 subD (.val (callE F_l_law_dip (some 0) [(.pk 1), (.val (op2 mulD (.val (cE (.int 2))) (.val (op2 powD (.val (cE (.int 10))) (.val (cE (.int 29)))))))])) (.val (op2 powD (.val (cE (.int 10))) (.val (cE (.int 29))))))) (fun z => ∃ i, z = D.int i ∧ True)
    (fun j env => ∃ w, env = [s, w, .un, .un, .un] ∧ Well (c + j) w) (rangeL 0 60) [] 0 [s, u, .un, .un, .un] (fun j d env hd ⟨w, e, hw⟩ => by
      subst e
      obtain ⟨hj, rfl⟩ := rangeL_get hd
      obtain ⟨r, w2, e2, g1, g2, hw2⟩ := dip_eq (m := 200000000000000000000000000000) hw (by omega) (by decide) (by decide)
      refine ⟨[s, w, .d (.int j), .un, .un], .d (.int (r - 100000000000000000000000000000)), [s, w2, .d (.int j), .un, .un], by simp, by simp, ?_, rfl, ⟨_, rfl, trivial⟩, by simp, w2, by simp, hw2.mono (by omega)⟩
      simp [F_l_law_dip, hw.un, e2, hmo]) (by rw [rangeL_length]; simp) ⟨u, rfl, hw⟩
  obtain ⟨ts, rfl, ht⟩ := ints_of_all hz
  rw [rangeL_length] at hl hw2
  rw [List.length_map] at hl
  have hr : okR 60 = true := rfl
  have e3 : lcL [2] (nameG 2) yesT (op2 subD (.val (callE dipF (some 0) [(.pk 1), (.val (op2 mulD (.val (cE (.int 2))) (.val (op2 powD (.val (cE (.int 10))) (.val (cE (.int 29)))))))])) (.val (op2 powD (.val (cE (.int 10))) (.val (cE (.int 29)))))) (rangeL 0 60) [s, u, .un, .un, .un] [] = .ok (ts.map D.int, [s, w2, .un, .un, .un]) := e2
  exact ⟨ts, w2, q, by simp [S_law_3, F_l_law_dip, hr, hq, e3], by simpa using hl, hw2.mono (by omega)⟩
theorem law4 {c : Nat} {u q s : O} {ts : List Int} (hw : Well c u) (hc : c ≤ 2 ^ 20) (hl : ts.length = 60) : ∃ w', S_law_4 [s, u, q, tD ts, .un] = .nx [s, w', q, tD ts, .un] := by
  obtain ⟨w1, e1, hw1⟩ := lshort_eq (ts := ts) (by omega) hw (by omega)
  have e2 := short_eq (ts := ts) (by omega)
  have l := form_le ts
  have e3 := is_short_eq (ts := (Q.form ts).reverse) (by rw [List.length_reverse]; omega)
  rw [form_idem, decide_eq_true rfl] at e3
  obtain ⟨d, e4, h⟩ := room_eq (ts := ts) (us := (Q.form ts).reverse) (by omega) (by rw [List.length_reverse]; omega)
  rw [form_idem] at h
  rw [← fr_eq] at e3 e4
  have q1 := neD_ints (Q.form ts).reverse (Q.form ts).reverse
  rw [← fr_eq, decide_eq_true rfl] at q1
  have n1 : notBD (.bl true) (.bl true) = some (.d (.bl false)) := rfl
  have n2 : notNonD .non .non = some (.d (.bl false)) := rfl
  rcases h.non_ with ⟨_, rfl⟩ | ⟨h1, _⟩
  · exact ⟨w1, by simp [S_law_4, hw.un, hw1.un, e1, e2, e3, e4, q1, n1, n2]⟩
  · exact absurd rfl h1
theorem law56 (a b c d : O) : seqS S_law_5 S_law_6 [a, b, c, d, .un] = .rt (.d (.bl true)) [a, b, c, d, .d (.int (10 ^ 29))] := by kernel_rfl
theorem law_pure : ∀ ns : List Int, ns.length ≤ 63 → ∃ outs, F_law [.d (.scr (ns.map D.int))] = .ok (.d (.bl true), outs) := by
  intro ns hn
  obtain ⟨u, e1, hu⟩ := well_eq hn
  obtain ⟨e, f, u', q, rfl, hq, hu'⟩ := forL_ev (tgt := nameG 2) (body := S_law_2_1) (ds := rangeL 0 16) (fun j env => ∃ u q, env = [.d (.scr (ns.map D.int)), u, q, .un, .un] ∧ q.free = true ∧ Well (600 * j) u) (env := [.d (.scr (ns.map D.int)), u, .un, .un, .un]) (fun k d env hk ⟨u, q, e, hq, hu⟩ => by
    subst e
    obtain ⟨hk1, rfl⟩ := rangeL_get hk
    obtain ⟨u', e2, hu'⟩ := right_eq hu (by omega)
    refine ⟨[.d (.scr (ns.map D.int)), u, .d (.int k), .un, .un], [.d (.scr (ns.map D.int)), u', .d (.int k), .un, .un], by simp, ?_, u', .d (.int k), rfl, rfl, hu'.mono (by omega)⟩
    simp [S_law_2_1, hu.un, e2]) ⟨u, .un, rfl, rfl, hu⟩
  have s1 : S_law_1 [.d (.scr (ns.map D.int)), .un, .un, .un, .un] = .nx [.d (.scr (ns.map D.int)), u, .un, .un, .un] := by
    simp [S_law_1, F_well, e1]
  have hr : okR 16 = true := rfl
  have s2 : S_law_2 [.d (.scr (ns.map D.int)), u, .un, .un, .un] = .nx [.d (.scr (ns.map D.int)), u', q, .un, .un] := by
    simp [S_law_2, hr, f]
  rw [rangeL_length] at hu'
  obtain ⟨ts, w3, q3, s3, hl, hw3⟩ := far_eq (s := .d (.scr (ns.map D.int))) hu' (by omega) hq
  obtain ⟨w4, s4⟩ := law4 (q := q3) (s := .d (.scr (ns.map D.int))) hw3 (by omega) hl
  refine ⟨[.d (.scr (ns.map D.int))], ?_⟩
  have sb : B_law [.d (.scr (ns.map D.int)), .un, .un, .un, .un] = .rt (.d (.bl true)) [.d (.scr (ns.map D.int)), w4, q3, tD ts, .d (.int (10 ^ 29))] := by
    have := law56 (.d (.scr (ns.map D.int))) w4 q3 (tD ts)
    rw [seqS_ap] at this
    simp only [B_law, seqS_ap, seq_nx, s1, s2, s3, s4, this]
  simp [F_law, bodyF_ap, sb]
end LW


set_option Elab.async false
set_option linter.all false
set_option maxRecDepth 100000
namespace LW
open PySem PySem.Spec PyProof.Rows L2 VL
theorem all_mk {l : PySem.W.OpenLaw} {w : World} {K : PySem.W.Frag} {h : Heap} {mg : Str → Option Value} {fa : Addr} (X : K.In h) (G : h.Ns mainGlobals mg) (hfa : mg "law" = some (.ref fa))
    {f0 : Addr} {od0 an0 : Option Addr} {sl0 : Array (Option Value)} {oc0 kV0 dc0 pm0 cd0 ct0 : Value}
    (a0 : PySem.W.nsIn K mainGlobals "_law_well" = some (some (.ref f0))) (l0 : K.lookup f0 = some ⟨oc0, od0, .func (PySem.W.fnOf "_law_well" "_law_well" (defArgs s_l_law_well) (defBody s_l_law_well) (defScope s_l_law_well) .none kV0 dc0 pm0 an0 cd0 ct0), sl0⟩) (c0 : PySem.W.codeIn K cd0 "_law_well" = true) (k0 : PySem.W.keepIn K (.ref f0) = true)
    {f1 : Addr} {od1 an1 : Option Addr} {sl1 : Array (Option Value)} {oc1 kV1 dc1 pm1 cd1 ct1 : Value}
    (a1 : PySem.W.nsIn K mainGlobals "_law_dip" = some (some (.ref f1))) (l1 : K.lookup f1 = some ⟨oc1, od1, .func (PySem.W.fnOf "_law_dip" "_law_dip" (defArgs s_l_law_dip) (defBody s_l_law_dip) (defScope s_l_law_dip) .none kV1 dc1 pm1 an1 cd1 ct1), sl1⟩) (c1 : PySem.W.codeIn K cd1 "_law_dip" = true) (k1 : PySem.W.keepIn K (.ref f1) = true)
    {f2 : Addr} {od2 an2 : Option Addr} {sl2 : Array (Option Value)} {oc2 kV2 dc2 pm2 cd2 ct2 : Value}
    (a2 : PySem.W.nsIn K mainGlobals "_law_one" = some (some (.ref f2))) (l2 : K.lookup f2 = some ⟨oc2, od2, .func (PySem.W.fnOf "_law_one" "_law_one" (defArgs s_l_law_one) (defBody s_l_law_one) (defScope s_l_law_one) .none kV2 dc2 pm2 an2 cd2 ct2), sl2⟩) (c2 : PySem.W.codeIn K cd2 "_law_one" = true) (k2 : PySem.W.keepIn K (.ref f2) = true)
    {f3 : Addr} {od3 an3 : Option Addr} {sl3 : Array (Option Value)} {oc3 kV3 dc3 pm3 cd3 ct3 : Value}
    (a3 : PySem.W.nsIn K mainGlobals "_law_turned" = some (some (.ref f3))) (l3 : K.lookup f3 = some ⟨oc3, od3, .func (PySem.W.fnOf "_law_turned" "_law_turned" (defArgs s_l_law_turned) (defBody s_l_law_turned) (defScope s_l_law_turned) .none kV3 dc3 pm3 an3 cd3 ct3), sl3⟩) (c3 : PySem.W.codeIn K cd3 "_law_turned" = true) (k3 : PySem.W.keepIn K (.ref f3) = true)
    {f4 : Addr} {od4 an4 : Option Addr} {sl4 : Array (Option Value)} {oc4 kV4 dc4 pm4 cd4 ct4 : Value}
    (a4 : PySem.W.nsIn K mainGlobals "_law_led" = some (some (.ref f4))) (l4 : K.lookup f4 = some ⟨oc4, od4, .func (PySem.W.fnOf "_law_led" "_law_led" (defArgs s_l_law_led) (defBody s_l_law_led) (defScope s_l_law_led) .none kV4 dc4 pm4 an4 cd4 ct4), sl4⟩) (c4 : PySem.W.codeIn K cd4 "_law_led" = true) (k4 : PySem.W.keepIn K (.ref f4) = true)
    {f5 : Addr} {od5 an5 : Option Addr} {sl5 : Array (Option Value)} {oc5 kV5 dc5 pm5 cd5 ct5 : Value}
    (a5 : PySem.W.nsIn K mainGlobals "_law_is_like" = some (some (.ref f5))) (l5 : K.lookup f5 = some ⟨oc5, od5, .func (PySem.W.fnOf "_law_is_like" "_law_is_like" (defArgs s_l_law_is_like) (defBody s_l_law_is_like) (defScope s_l_law_is_like) .none kV5 dc5 pm5 an5 cd5 ct5), sl5⟩) (c5 : PySem.W.codeIn K cd5 "_law_is_like" = true) (k5 : PySem.W.keepIn K (.ref f5) = true)
    {f6 : Addr} {od6 an6 : Option Addr} {sl6 : Array (Option Value)} {oc6 kV6 dc6 pm6 cd6 ct6 : Value}
    (a6 : PySem.W.nsIn K mainGlobals "_law_gathered" = some (some (.ref f6))) (l6 : K.lookup f6 = some ⟨oc6, od6, .func (PySem.W.fnOf "_law_gathered" "_law_gathered" (defArgs s_l_law_gathered) (defBody s_l_law_gathered) (defScope s_l_law_gathered) .none kV6 dc6 pm6 an6 cd6 ct6), sl6⟩) (c6 : PySem.W.codeIn K cd6 "_law_gathered" = true) (k6 : PySem.W.keepIn K (.ref f6) = true)
    {f7 : Addr} {od7 an7 : Option Addr} {sl7 : Array (Option Value)} {oc7 kV7 dc7 pm7 cd7 ct7 : Value}
    (a7 : PySem.W.nsIn K mainGlobals "_law_joinings" = some (some (.ref f7))) (l7 : K.lookup f7 = some ⟨oc7, od7, .func (PySem.W.fnOf "_law_joinings" "_law_joinings" (defArgs s_l_law_joinings) (defBody s_l_law_joinings) (defScope s_l_law_joinings) .none kV7 dc7 pm7 an7 cd7 ct7), sl7⟩) (c7 : PySem.W.codeIn K cd7 "_law_joinings" = true) (k7 : PySem.W.keepIn K (.ref f7) = true)
    {f8 : Addr} {od8 an8 : Option Addr} {sl8 : Array (Option Value)} {oc8 kV8 dc8 pm8 cd8 ct8 : Value}
    (a8 : PySem.W.nsIn K mainGlobals "_law_short" = some (some (.ref f8))) (l8 : K.lookup f8 = some ⟨oc8, od8, .func (PySem.W.fnOf "_law_short" "_law_short" (defArgs s_l_law_short) (defBody s_l_law_short) (defScope s_l_law_short) .none kV8 dc8 pm8 an8 cd8 ct8), sl8⟩) (c8 : PySem.W.codeIn K cd8 "_law_short" = true) (k8 : PySem.W.keepIn K (.ref f8) = true)
    {f9 : Addr} {od9 an9 : Option Addr} {sl9 : Array (Option Value)} {oc9 kV9 dc9 pm9 cd9 ct9 : Value}
    (a9 : PySem.W.nsIn K mainGlobals "add_turn" = some (some (.ref f9))) (l9 : K.lookup f9 = some ⟨oc9, od9, .func (PySem.W.fnOf "add_turn" "add_turn" (defArgs s_add_turn) (defBody s_add_turn) (defScope s_add_turn) .none kV9 dc9 pm9 an9 cd9 ct9), sl9⟩) (c9 : PySem.W.codeIn K cd9 "add_turn" = true) (k9 : PySem.W.keepIn K (.ref f9) = true)
    {f10 : Addr} {od10 an10 : Option Addr} {sl10 : Array (Option Value)} {oc10 kV10 dc10 pm10 cd10 ct10 : Value}
    (a10 : PySem.W.nsIn K mainGlobals "form_in" = some (some (.ref f10))) (l10 : K.lookup f10 = some ⟨oc10, od10, .func (PySem.W.fnOf "form_in" "form_in" (defArgs s_form_in) (defBody s_form_in) (defScope s_form_in) .none kV10 dc10 pm10 an10 cd10 ct10), sl10⟩) (c10 : PySem.W.codeIn K cd10 "form_in" = true) (k10 : PySem.W.keepIn K (.ref f10) = true)
    {f11 : Addr} {od11 an11 : Option Addr} {sl11 : Array (Option Value)} {oc11 kV11 dc11 pm11 cd11 ct11 : Value}
    (a11 : PySem.W.nsIn K mainGlobals "short_form" = some (some (.ref f11))) (l11 : K.lookup f11 = some ⟨oc11, od11, .func (PySem.W.fnOf "short_form" "short_form" (defArgs s_short_form) (defBody s_short_form) (defScope s_short_form) .none kV11 dc11 pm11 an11 cd11 ct11), sl11⟩) (c11 : PySem.W.codeIn K cd11 "short_form" = true) (k11 : PySem.W.keepIn K (.ref f11) = true)
    {f12 : Addr} {od12 an12 : Option Addr} {sl12 : Array (Option Value)} {oc12 kV12 dc12 pm12 cd12 ct12 : Value}
    (a12 : PySem.W.nsIn K mainGlobals "_law_alike" = some (some (.ref f12))) (l12 : K.lookup f12 = some ⟨oc12, od12, .func (PySem.W.fnOf "_law_alike" "_law_alike" (defArgs s_l_law_alike) (defBody s_l_law_alike) (defScope s_l_law_alike) .none kV12 dc12 pm12 an12 cd12 ct12), sl12⟩) (c12 : PySem.W.codeIn K cd12 "_law_alike" = true) (k12 : PySem.W.keepIn K (.ref f12) = true)
    {f13 : Addr} {od13 an13 : Option Addr} {sl13 : Array (Option Value)} {oc13 kV13 dc13 pm13 cd13 ct13 : Value}
    (a13 : PySem.W.nsIn K mainGlobals "turns_alike" = some (some (.ref f13))) (l13 : K.lookup f13 = some ⟨oc13, od13, .func (PySem.W.fnOf "turns_alike" "turns_alike" (defArgs s_turns_alike) (defBody s_turns_alike) (defScope s_turns_alike) .none kV13 dc13 pm13 an13 cd13 ct13), sl13⟩) (c13 : PySem.W.codeIn K cd13 "turns_alike" = true) (k13 : PySem.W.keepIn K (.ref f13) = true)
    {f14 : Addr} {od14 an14 : Option Addr} {sl14 : Array (Option Value)} {oc14 kV14 dc14 pm14 cd14 ct14 : Value}
    (a14 : PySem.W.nsIn K mainGlobals "cells_of" = some (some (.ref f14))) (l14 : K.lookup f14 = some ⟨oc14, od14, .func (PySem.W.fnOf "cells_of" "cells_of" (defArgs s_cells_of) (defBody s_cells_of) (defScope s_cells_of) .none kV14 dc14 pm14 an14 cd14 ct14), sl14⟩) (c14 : PySem.W.codeIn K cd14 "cells_of" = true) (k14 : PySem.W.keepIn K (.ref f14) = true)
    {f15 : Addr} {od15 an15 : Option Addr} {sl15 : Array (Option Value)} {oc15 kV15 dc15 pm15 cd15 ct15 : Value}
    (a15 : PySem.W.nsIn K mainGlobals "last_cell" = some (some (.ref f15))) (l15 : K.lookup f15 = some ⟨oc15, od15, .func (PySem.W.fnOf "last_cell" "last_cell" (defArgs s_last_cell) (defBody s_last_cell) (defScope s_last_cell) .none kV15 dc15 pm15 an15 cd15 ct15), sl15⟩) (c15 : PySem.W.codeIn K cd15 "last_cell" = true) (k15 : PySem.W.keepIn K (.ref f15) = true)
    {f16 : Addr} {od16 an16 : Option Addr} {sl16 : Array (Option Value)} {oc16 kV16 dc16 pm16 cd16 ct16 : Value}
    (a16 : PySem.W.nsIn K mainGlobals "is_down_at" = some (some (.ref f16))) (l16 : K.lookup f16 = some ⟨oc16, od16, .func (PySem.W.fnOf "is_down_at" "is_down_at" (defArgs s_is_down_at) (defBody s_is_down_at) (defScope s_is_down_at) .none kV16 dc16 pm16 an16 cd16 ct16), sl16⟩) (c16 : PySem.W.codeIn K cd16 "is_down_at" = true) (k16 : PySem.W.keepIn K (.ref f16) = true)
    {f17 : Addr} {od17 an17 : Option Addr} {sl17 : Array (Option Value)} {oc17 kV17 dc17 pm17 cd17 ct17 : Value}
    (a17 : PySem.W.nsIn K mainGlobals "size_apart" = some (some (.ref f17))) (l17 : K.lookup f17 = some ⟨oc17, od17, .func (PySem.W.fnOf "size_apart" "size_apart" (defArgs s_size_apart) (defBody s_size_apart) (defScope s_size_apart) .none kV17 dc17 pm17 an17 cd17 ct17), sl17⟩) (c17 : PySem.W.codeIn K cd17 "size_apart" = true) (k17 : PySem.W.keepIn K (.ref f17) = true)
    {f18 : Addr} {od18 an18 : Option Addr} {sl18 : Array (Option Value)} {oc18 kV18 dc18 pm18 cd18 ct18 : Value}
    (a18 : PySem.W.nsIn K mainGlobals "rise_of" = some (some (.ref f18))) (l18 : K.lookup f18 = some ⟨oc18, od18, .func (PySem.W.fnOf "rise_of" "rise_of" (defArgs s_rise_of) (defBody s_rise_of) (defScope s_rise_of) .none kV18 dc18 pm18 an18 cd18 ct18), sl18⟩) (c18 : PySem.W.codeIn K cd18 "rise_of" = true) (k18 : PySem.W.keepIn K (.ref f18) = true)
    {f19 : Addr} {od19 an19 : Option Addr} {sl19 : Array (Option Value)} {oc19 kV19 dc19 pm19 cd19 ct19 : Value}
    (a19 : PySem.W.nsIn K mainGlobals "scroll_apart" = some (some (.ref f19))) (l19 : K.lookup f19 = some ⟨oc19, od19, .func (PySem.W.fnOf "scroll_apart" "scroll_apart" (defArgs s_scroll_apart) (defBody s_scroll_apart) (defScope s_scroll_apart) .none kV19 dc19 pm19 an19 cd19 ct19), sl19⟩) (c19 : PySem.W.codeIn K cd19 "scroll_apart" = true) (k19 : PySem.W.keepIn K (.ref f19) = true)
    {f20 : Addr} {od20 an20 : Option Addr} {sl20 : Array (Option Value)} {oc20 kV20 dc20 pm20 cd20 ct20 : Value}
    (a20 : PySem.W.nsIn K mainGlobals "effect_from" = some (some (.ref f20))) (l20 : K.lookup f20 = some ⟨oc20, od20, .func (PySem.W.fnOf "effect_from" "effect_from" (defArgs s_effect_from) (defBody s_effect_from) (defScope s_effect_from) .none kV20 dc20 pm20 an20 cd20 ct20), sl20⟩) (c20 : PySem.W.codeIn K cd20 "effect_from" = true) (k20 : PySem.W.keepIn K (.ref f20) = true)
    {f21 : Addr} {od21 an21 : Option Addr} {sl21 : Array (Option Value)} {oc21 kV21 dc21 pm21 cd21 ct21 : Value}
    (a21 : PySem.W.nsIn K mainGlobals "between" = some (some (.ref f21))) (l21 : K.lookup f21 = some ⟨oc21, od21, .func (PySem.W.fnOf "between" "between" (defArgs s_between) (defBody s_between) (defScope s_between) .none kV21 dc21 pm21 an21 cd21 ct21), sl21⟩) (c21 : PySem.W.codeIn K cd21 "between" = true) (k21 : PySem.W.keepIn K (.ref f21) = true)
    {f22 : Addr} {od22 an22 : Option Addr} {sl22 : Array (Option Value)} {oc22 kV22 dc22 pm22 cd22 ct22 : Value}
    (a22 : PySem.W.nsIn K mainGlobals "effect_in" = some (some (.ref f22))) (l22 : K.lookup f22 = some ⟨oc22, od22, .func (PySem.W.fnOf "effect_in" "effect_in" (defArgs s_effect_in) (defBody s_effect_in) (defScope s_effect_in) .none kV22 dc22 pm22 an22 cd22 ct22), sl22⟩) (c22 : PySem.W.codeIn K cd22 "effect_in" = true) (k22 : PySem.W.keepIn K (.ref f22) = true)
    {f23 : Addr} {od23 an23 : Option Addr} {sl23 : Array (Option Value)} {oc23 kV23 dc23 pm23 cd23 ct23 : Value}
    (a23 : PySem.W.nsIn K mainGlobals "room_apart" = some (some (.ref f23))) (l23 : K.lookup f23 = some ⟨oc23, od23, .func (PySem.W.fnOf "room_apart" "room_apart" (defArgs s_room_apart) (defBody s_room_apart) (defScope s_room_apart) .none kV23 dc23 pm23 an23 cd23 ct23), sl23⟩) (c23 : PySem.W.codeIn K cd23 "room_apart" = true) (k23 : PySem.W.keepIn K (.ref f23) = true)
    {f24 : Addr} {od24 an24 : Option Addr} {sl24 : Array (Option Value)} {oc24 kV24 dc24 pm24 cd24 ct24 : Value}
    (a24 : PySem.W.nsIn K mainGlobals "is_short" = some (some (.ref f24))) (l24 : K.lookup f24 = some ⟨oc24, od24, .func (PySem.W.fnOf "is_short" "is_short" (defArgs s_is_short) (defBody s_is_short) (defScope s_is_short) .none kV24 dc24 pm24 an24 cd24 ct24), sl24⟩) (c24 : PySem.W.codeIn K cd24 "is_short" = true) (k24 : PySem.W.keepIn K (.ref f24) = true)
    {f25 : Addr} {od25 an25 : Option Addr} {sl25 : Array (Option Value)} {oc25 kV25 dc25 pm25 cd25 ct25 : Value}
    (a25 : PySem.W.nsIn K mainGlobals "_law_right" = some (some (.ref f25))) (l25 : K.lookup f25 = some ⟨oc25, od25, .func (PySem.W.fnOf "_law_right" "_law_right" (defArgs s_l_law_right) (defBody s_l_law_right) (defScope s_l_law_right) .none kV25 dc25 pm25 an25 cd25 ct25), sl25⟩) (c25 : PySem.W.codeIn K cd25 "_law_right" = true) (k25 : PySem.W.keepIn K (.ref f25) = true)
    {f26 : Addr} {od26 an26 : Option Addr} {sl26 : Array (Option Value)} {oc26 kV26 dc26 pm26 cd26 ct26 : Value}
    (a26 : PySem.W.nsIn K mainGlobals "law" = some (some (.ref f26))) (l26 : K.lookup f26 = some ⟨oc26, od26, .func (PySem.W.fnOf "law" "law" (defArgs s_law) (defBody s_law) (defScope s_law) .none kV26 dc26 pm26 an26 cd26 ct26), sl26⟩) (c26 : PySem.W.codeIn K cd26 "law" = true) (k26 : PySem.W.keepIn K (.ref f26) = true)
    (z0 : PySem.W.nsIn K mainGlobals "abs" = some none)
    (z1 : PySem.W.nsIn K mainGlobals "all" = some none)
    (z2 : PySem.W.nsIn K mainGlobals "bool" = some none)
    (z3 : PySem.W.nsIn K mainGlobals "dict" = some none)
    (z4 : PySem.W.nsIn K mainGlobals "enumerate" = some none)
    (z5 : PySem.W.nsIn K mainGlobals "int" = some none)
    (z6 : PySem.W.nsIn K mainGlobals "isinstance" = some none)
    (z7 : PySem.W.nsIn K mainGlobals "len" = some none)
    (z8 : PySem.W.nsIn K mainGlobals "list" = some none)
    (z9 : PySem.W.nsIn K mainGlobals "max" = some none)
    (z10 : PySem.W.nsIn K mainGlobals "min" = some none)
    (z11 : PySem.W.nsIn K mainGlobals "range" = some none)
    (z12 : PySem.W.nsIn K mainGlobals "sorted" = some none)
    (z13 : PySem.W.nsIn K mainGlobals "str" = some none)
    (z14 : PySem.W.nsIn K mainGlobals "sum" = some none)
    (z15 : PySem.W.nsIn K mainGlobals "tuple" = some none)
    : ∃ fd : FuncData, (∀ (s : Shared) (v : Value), BindsTo s fd ⟨[v], []⟩ [("script", v)]) ∧ ∀ base : Heap, K.In base → base.Ns mainGlobals mg → FnOk l.prog w K mg base (L2.CX l.prog w) 72 fa fd ["script"] (spT K) := by
  have e := hfa.symm.trans (PySem.W.mg_of X G a26)
  have e2 : fa = f26 := by
    cases e
    rfl
  rw [e2]
  have F0 := fun_mk (st := s_l_law_well) l0 c0 k0
  have F1 := fun_mk (st := s_l_law_dip) l1 c1 k1
  have F2 := fun_mk (st := s_l_law_one) l2 c2 k2
  have F3 := fun_mk (st := s_l_law_turned) l3 c3 k3
  have F4 := fun_mk (st := s_l_law_led) l4 c4 k4
  have F5 := fun_mk (st := s_l_law_is_like) l5 c5 k5
  have F6 := fun_mk (st := s_l_law_gathered) l6 c6 k6
  have F7 := fun_mk (st := s_l_law_joinings) l7 c7 k7
  have F8 := fun_mk (st := s_l_law_short) l8 c8 k8
  have F9 := fun_mk (st := s_add_turn) l9 c9 k9
  have F10 := fun_mk (st := s_form_in) l10 c10 k10
  have F11 := fun_mk (st := s_short_form) l11 c11 k11
  have F12 := fun_mk (st := s_l_law_alike) l12 c12 k12
  have F13 := fun_mk (st := s_turns_alike) l13 c13 k13
  have F14 := fun_mk (st := s_cells_of) l14 c14 k14
  have F15 := fun_mk (st := s_last_cell) l15 c15 k15
  have F16 := fun_mk (st := s_is_down_at) l16 c16 k16
  have F17 := fun_mk (st := s_size_apart) l17 c17 k17
  have F18 := fun_mk (st := s_rise_of) l18 c18 k18
  have F19 := fun_mk (st := s_scroll_apart) l19 c19 k19
  have F20 := fun_mk (st := s_effect_from) l20 c20 k20
  have F21 := fun_mk (st := s_between) l21 c21 k21
  have F22 := fun_mk (st := s_effect_in) l22 c22 k22
  have F23 := fun_mk (st := s_room_apart) l23 c23 k23
  have F24 := fun_mk (st := s_is_short) l24 c24 k24
  have F25 := fun_mk (st := s_l_law_right) l25 c25 k25
  have F26 := fun_mk (st := s_law) l26 c26 k26
  let T : Txt l.prog K mg := {
    l_law_well := ⟨f0, _, F0, F0.binds fun _ _ _ _ _ _ us hl => (match us, hl with | [_], _ => rfl), PySem.W.mg_of X G a0⟩
    l_law_dip := ⟨f1, _, F1, F1.binds fun _ _ _ _ _ _ us hl => (match us, hl with | [_, _], _ => rfl), PySem.W.mg_of X G a1⟩
    l_law_one := ⟨f2, _, F2, F2.binds fun _ _ _ _ _ _ us hl => (match us, hl with | [_, _], _ => rfl), PySem.W.mg_of X G a2⟩
    l_law_turned := ⟨f3, _, F3, F3.binds fun _ _ _ _ _ _ us hl => (match us, hl with | [_, _], _ => rfl), PySem.W.mg_of X G a3⟩
    l_law_led := ⟨f4, _, F4, F4.binds fun _ _ _ _ _ _ us hl => (match us, hl with | [_, _, _], _ => rfl), PySem.W.mg_of X G a4⟩
    l_law_is_like := ⟨f5, _, F5, F5.binds fun _ _ _ _ _ _ us hl => (match us, hl with | [_, _, _], _ => rfl), PySem.W.mg_of X G a5⟩
    l_law_gathered := ⟨f6, _, F6, F6.binds fun _ _ _ _ _ _ us hl => (match us, hl with | [_], _ => rfl), PySem.W.mg_of X G a6⟩
    l_law_joinings := ⟨f7, _, F7, F7.binds fun _ _ _ _ _ _ us hl => (match us, hl with | [_], _ => rfl), PySem.W.mg_of X G a7⟩
    l_law_short := ⟨f8, _, F8, F8.binds fun _ _ _ _ _ _ us hl => (match us, hl with | [_, _], _ => rfl), PySem.W.mg_of X G a8⟩
    add_turn := ⟨f9, _, F9, F9.binds fun _ _ _ _ _ _ us hl => (match us, hl with | [_, _], _ => rfl), PySem.W.mg_of X G a9⟩
    form_in := ⟨f10, _, F10, F10.binds fun _ _ _ _ _ _ us hl => (match us, hl with | [_], _ => rfl), PySem.W.mg_of X G a10⟩
    short_form := ⟨f11, _, F11, F11.binds fun _ _ _ _ _ _ us hl => (match us, hl with | [_], _ => rfl), PySem.W.mg_of X G a11⟩
    l_law_alike := ⟨f12, _, F12, F12.binds fun _ _ _ _ _ _ us hl => (match us, hl with | [_, _], _ => rfl), PySem.W.mg_of X G a12⟩
    turns_alike := ⟨f13, _, F13, F13.binds fun _ _ _ _ _ _ us hl => (match us, hl with | [_, _], _ => rfl), PySem.W.mg_of X G a13⟩
    cells_of := ⟨f14, _, F14, F14.binds fun _ _ _ _ _ _ us hl => (match us, hl with | [_], _ => rfl), PySem.W.mg_of X G a14⟩
    last_cell := ⟨f15, _, F15, F15.binds fun _ _ _ _ _ _ us hl => (match us, hl with | [_], _ => rfl), PySem.W.mg_of X G a15⟩
    is_down_at := ⟨f16, _, F16, F16.binds fun _ _ _ _ _ _ us hl => (match us, hl with | [_, _], _ => rfl), PySem.W.mg_of X G a16⟩
    size_apart := ⟨f17, _, F17, F17.binds fun _ _ _ _ _ _ us hl => (match us, hl with | [_, _], _ => rfl), PySem.W.mg_of X G a17⟩
    rise_of := ⟨f18, _, F18, F18.binds fun _ _ _ _ _ _ us hl => (match us, hl with | [_, _], _ => rfl), PySem.W.mg_of X G a18⟩
    scroll_apart := ⟨f19, _, F19, F19.binds fun _ _ _ _ _ _ us hl => (match us, hl with | [_, _, _], _ => rfl), PySem.W.mg_of X G a19⟩
    effect_from := ⟨f20, _, F20, F20.binds fun _ _ _ _ _ _ us hl => (match us, hl with | [_, _, _], _ => rfl), PySem.W.mg_of X G a20⟩
    between := ⟨f21, _, F21, F21.binds fun _ _ _ _ _ _ us hl => (match us, hl with | [_, _, _], _ => rfl), PySem.W.mg_of X G a21⟩
    effect_in := ⟨f22, _, F22, F22.binds fun _ _ _ _ _ _ us hl => (match us, hl with | [_, _], _ => rfl), PySem.W.mg_of X G a22⟩
    room_apart := ⟨f23, _, F23, F23.binds fun _ _ _ _ _ _ us hl => (match us, hl with | [_, _], _ => rfl), PySem.W.mg_of X G a23⟩
    is_short := ⟨f24, _, F24, F24.binds fun _ _ _ _ _ _ us hl => (match us, hl with | [_], _ => rfl), PySem.W.mg_of X G a24⟩
    l_law_right := ⟨f25, _, F25, F25.binds fun _ _ _ _ _ _ us hl => (match us, hl with | [_], _ => rfl), PySem.W.mg_of X G a25⟩
    law := ⟨f26, _, F26, F26.binds fun _ _ _ _ _ _ us hl => (match us, hl with | [_], _ => rfl), PySem.W.mg_of X G a26⟩
    n_abs := PySem.W.mg_none_of X G z0
    n_all := PySem.W.mg_none_of X G z1
    n_bool := PySem.W.mg_none_of X G z2
    n_dict := PySem.W.mg_none_of X G z3
    n_enumerate := PySem.W.mg_none_of X G z4
    n_int := PySem.W.mg_none_of X G z5
    n_isinstance := PySem.W.mg_none_of X G z6
    n_len := PySem.W.mg_none_of X G z7
    n_list := PySem.W.mg_none_of X G z8
    n_max := PySem.W.mg_none_of X G z9
    n_min := PySem.W.mg_none_of X G z10
    n_range := PySem.W.mg_none_of X G z11
    n_sorted := PySem.W.mg_none_of X G z12
    n_str := PySem.W.mg_none_of X G z13
    n_sum := PySem.W.mg_none_of X G z14
    n_tuple := PySem.W.mg_none_of X G z15
  }
  exact ⟨T.law.fd, fun s v => .of_eq rfl, fun base _ _ => law_fn (ok_law T) law_pure⟩
end LW
open PySem PySem.W PyProof.Rows
set_option pp.maxSteps 60
set_option maxHeartbeats 0 in
theorem PySem.Challenge.cw_listworks_k38_whole_short_forms_joined_i_holds : PySem.Challenge.rw_listworks_k38_whole_short_forms_joined_i.Holds := by
  w_on; o_law; k_head; (case hw => w_witness2)
  k_fill
  refine L2.walk_of (l := PySem.Challenge.rw_listworks_k38_whole_short_forms_joined_i) (n := 63) (k := 72) (x := "script") (CX := fun w => L2.CX PySem.Challenge.pw_listworks_k38_whole_short_forms_joined_i w) (sp := fun w => VL.spT _) rfl (by decide) rfl ⟨rfl, by decide, by decide⟩ (fun w h Y => PySem.W.kIn_of Y) ?F (fun _ _ a ns hl _ hS => ⟨a, ns, rfl, hl, hS, fun _ => rfl⟩) (fun _ _ _ _ _ ⟨_, _, _, _, _, _, _, _, _, _, _, _, h⟩ => h)
  case F =>
    intro w mg fa h KX G hmg
    refine' LW.all_mk (l := PySem.Challenge.rw_listworks_k38_whole_short_forms_joined_i) KX G hmg ?a0 ?l0 ?c0 ?k0 ?a1 ?l1 ?c1 ?k1 ?a2 ?l2 ?c2 ?k2 ?a3 ?l3 ?c3 ?k3 ?a4 ?l4 ?c4 ?k4 ?a5 ?l5 ?c5 ?k5 ?a6 ?l6 ?c6 ?k6 ?a7 ?l7 ?c7 ?k7 ?a8 ?l8 ?c8 ?k8 ?a9 ?l9 ?c9 ?k9 ?a10 ?l10 ?c10 ?k10 ?a11 ?l11 ?c11 ?k11 ?a12 ?l12 ?c12 ?k12 ?a13 ?l13 ?c13 ?k13 ?a14 ?l14 ?c14 ?k14 ?a15 ?l15 ?c15 ?k15 ?a16 ?l16 ?c16 ?k16 ?a17 ?l17 ?c17 ?k17 ?a18 ?l18 ?c18 ?k18 ?a19 ?l19 ?c19 ?k19 ?a20 ?l20 ?c20 ?k20 ?a21 ?l21 ?c21 ?k21 ?a22 ?l22 ?c22 ?k22 ?a23 ?l23 ?c23 ?k23 ?a24 ?l24 ?c24 ?k24 ?a25 ?l25 ?c25 ?k25 ?a26 ?l26 ?c26 ?k26 ?z0 ?z1 ?z2 ?z3 ?z4 ?z5 ?z6 ?z7 ?z8 ?z9 ?z10 ?z11 ?z12 ?z13 ?z14 ?z15
    (case a0 => k_is)
    (case l0 => k_is)
    (case c0 => k_is)
    (case k0 => k_is)
    (case a1 => k_is)
    (case l1 => k_is)
    (case c1 => k_is)
    (case k1 => k_is)
    (case a2 => k_is)
    (case l2 => k_is)
    (case c2 => k_is)
    (case k2 => k_is)
    (case a3 => k_is)
    (case l3 => k_is)
    (case c3 => k_is)
    (case k3 => k_is)
    (case a4 => k_is)
    (case l4 => k_is)
    (case c4 => k_is)
    (case k4 => k_is)
    (case a5 => k_is)
    (case l5 => k_is)
    (case c5 => k_is)
    (case k5 => k_is)
    (case a6 => k_is)
    (case l6 => k_is)
    (case c6 => k_is)
    (case k6 => k_is)
    (case a7 => k_is)
    (case l7 => k_is)
    (case c7 => k_is)
    (case k7 => k_is)
    (case a8 => k_is)
    (case l8 => k_is)
    (case c8 => k_is)
    (case k8 => k_is)
    (case a9 => k_is)
    (case l9 => k_is)
    (case c9 => k_is)
    (case k9 => k_is)
    (case a10 => k_is)
    (case l10 => k_is)
    (case c10 => k_is)
    (case k10 => k_is)
    (case a11 => k_is)
    (case l11 => k_is)
    (case c11 => k_is)
    (case k11 => k_is)
    (case a12 => k_is)
    (case l12 => k_is)
    (case c12 => k_is)
    (case k12 => k_is)
    (case a13 => k_is)
    (case l13 => k_is)
    (case c13 => k_is)
    (case k13 => k_is)
    (case a14 => k_is)
    (case l14 => k_is)
    (case c14 => k_is)
    (case k14 => k_is)
    (case a15 => k_is)
    (case l15 => k_is)
    (case c15 => k_is)
    (case k15 => k_is)
    (case a16 => k_is)
    (case l16 => k_is)
    (case c16 => k_is)
    (case k16 => k_is)
    (case a17 => k_is)
    (case l17 => k_is)
    (case c17 => k_is)
    (case k17 => k_is)
    (case a18 => k_is)
    (case l18 => k_is)
    (case c18 => k_is)
    (case k18 => k_is)
    (case a19 => k_is)
    (case l19 => k_is)
    (case c19 => k_is)
    (case k19 => k_is)
    (case a20 => k_is)
    (case l20 => k_is)
    (case c20 => k_is)
    (case k20 => k_is)
    (case a21 => k_is)
    (case l21 => k_is)
    (case c21 => k_is)
    (case k21 => k_is)
    (case a22 => k_is)
    (case l22 => k_is)
    (case c22 => k_is)
    (case k22 => k_is)
    (case a23 => k_is)
    (case l23 => k_is)
    (case c23 => k_is)
    (case k23 => k_is)
    (case a24 => k_is)
    (case l24 => k_is)
    (case c24 => k_is)
    (case k24 => k_is)
    (case a25 => k_is)
    (case l25 => k_is)
    (case c25 => k_is)
    (case k25 => k_is)
    (case a26 => k_is)
    (case l26 => k_is)
    (case c26 => k_is)
    (case k26 => k_is)
    (case z0 => k_is)
    (case z1 => k_is)
    (case z2 => k_is)
    (case z3 => k_is)
    (case z4 => k_is)
    (case z5 => k_is)
    (case z6 => k_is)
    (case z7 => k_is)
    (case z8 => k_is)
    (case z9 => k_is)
    (case z10 => k_is)
    (case z11 => k_is)
    (case z12 => k_is)
    (case z13 => k_is)
    (case z14 => k_is)
    (case z15 => k_is)

