import PyProof.Rows.All
import Wide.All
import OpenK.AllK
import Wide.FinOn
import HandS.ForMost
import HandS.ForExc
import HandS.IsInst
import HandS.CallSlots
import HandS.TryMany
import HandS.TupAny
import HandS.TupMul
import HandS.Walk
import HandS.ExcOwn
import HandS.WordsExc
import HandS.Ends
import HandS.HeadEnd
import HandS.SortInts
import HandS.Conv
import HandS.ExcIs
import HandS.TupSets
import HandS.RaiseMore
import PyProof.ReprRoads
import HandS.Defaults
import HandS.HeadHook4
import HandS.Head2
import HandS.TryOnly
import PySem.Challenge.RW_steadyspan_k53_rounds
set_option Elab.async false
set_option linter.all false
set_option maxRecDepth 100000
set_option autoImplicit false
/-! G3a: data, how data lies in the abstract heap, the frame's slots, steps. -/
namespace G3
open PySem PySem.Spec PyProof.Rows L2

/-- plain data -/
inductive D where
  | non | bl (b : Bool) | int (i : Int) | str (s : Str)
  | lst (xs : List D) | tup (xs : List D)
  | scr (ns : List Int)
  | dct (ks vs : List D) | obj (c : Str) (fs : List Str) (vs : List D)
instance : Inhabited D := ⟨.non⟩

mutual
/-- the value stands for the data, by what the stable heap S holds -/
inductive Rp (K : PySem.W.Frag) (mg : Str → Option Value) (S : Hp) : V → D → Prop
  | non : Rp K mg S .non .non
  | bl (b : Bool) : Rp K mg S (.bl b) (.bl b)
  | int (i : Int) : Rp K mg S (.int i) (.int i)
  | str (x : Str) : Rp K mg S (.str x) (.str x)
  | lst {a : Addr} {xs : List V} {ds : List D} : S a = some (.lst xs) → RpA K mg S xs ds → Rp K mg S (.ref a) (.lst ds)
  | scr {a : Addr} {ns : List Int} : SqL K S a (ns.map V.int) → Rp K mg S (.ref a) (.scr ns)
  | tup {a : Addr} {xs : List V} {ds : List D} : SqT K S a xs → RpA K mg S xs ds → Rp K mg S (.ref a) (.tup ds)
  | dK {a : Addr} {kvs : List (Key × V)} {ks vs : List D} : S a = some (.dK kvs) → RpA K mg S (kvs.map fun p => kV p.1) ks → RpA K mg S (kvs.map (·.2)) vs → Rp K mg S (.ref a) (.dct ks vs)
  | dT {a : Addr} {kvs : List (List Key × V)} {ks : List (List D)} {vs : List D} : S a = some (.dT kvs) → RpK K mg S (kvs.map (·.1)) ks → RpA K mg S (kvs.map (·.2)) vs → Rp K mg S (.ref a) (.dct (ks.map D.tup) vs)
  | obj {a C dx : Addr} {fl : List (Str × V)} {c : Str} {fs : List Str} {vs : List D} : S a = some (.ins C dx fl) → mg c = some (.ref C) → fl.map (·.1) = fs → RpA K mg S (fl.map (·.2)) vs → Rp K mg S (.ref a) (.obj c fs vs)
inductive RpA (K : PySem.W.Frag) (mg : Str → Option Value) (S : Hp) : List V → List D → Prop
  | nil : RpA K mg S [] []
  | cons {v : V} {vs : List V} {d : D} {ds : List D} : Rp K mg S v d → RpA K mg S vs ds → RpA K mg S (v :: vs) (d :: ds)
inductive RpK (K : PySem.W.Frag) (mg : Str → Option Value) (S : Hp) : List (List Key) → List (List D) → Prop
  | nil : RpK K mg S [] []
  | cons {k : List Key} {ks : List (List Key)} {d : List D} {ds : List (List D)} : RpA K mg S (k.map kV) d → RpK K mg S ks ds → RpK K mg S (k :: ks) (d :: ds)
end

section
variable {K : PySem.W.Frag} {mg : Str → Option Value} {S S' H : Hp}
def Le (S S' : Hp) : Prop := ∀ a o, S a = some o → S' a = some o
theorem Le.refl (S : Hp) : Le S S := fun _ _ h => h
theorem Le.trans {A B C : Hp} (h : Le A B) (g : Le B C) : Le A C := fun a o e => g a o (h a o e)
theorem Le.rd {a : Addr} {u : HO} (h : Le S S') (r : Rd S a u) : Rd S' a u := by
  rcases r with r | ⟨o, r⟩
  · exact .inl (h _ _ r)
  · exact .inr ⟨o, h _ _ r⟩
theorem Le.sqL {a : Addr} {xs : List V} (h : Le S S') (r : SqL K S a xs) : SqL K S' a xs := by
  rcases r with r | r
  · exact .inl (h.rd r)
  · exact .inr r
theorem Le.sqT {a : Addr} {xs : List V} (h : Le S S') (r : SqT K S a xs) : SqT K S' a xs := by
  rcases r with r | r
  · exact .inl (h.rd r)
  · exact .inr r
theorem Le.upd_new {a : Addr} {o : HO} (h : S a = none) : Le S (upd S a o) := fun b u e => by
  rw [upd_ne (ne_of_none e h)]; exact e
mutual
theorem Rp.mono (h : Le S S') : ∀ {v : V} {d : D}, Rp K mg S v d → Rp K mg S' v d
  | _, _, .non => .non
  | _, _, .bl b => .bl b
  | _, _, .int i => .int i
  | _, _, .str x => .str x
  | _, _, .lst a b => .lst (h _ _ a) (RpA.mono h b)
  | _, _, .scr a => .scr (h.sqL a)
  | _, _, .tup a b => .tup (h.sqT a) (RpA.mono h b)
  | _, _, .dK a b c => .dK (h _ _ a) (RpA.mono h b) (RpA.mono h c)
  | _, _, .dT a b c => .dT (h _ _ a) (RpK.mono h b) (RpA.mono h c)
  | _, _, .obj a b c e => .obj (h _ _ a) b c (RpA.mono h e)
theorem RpA.mono (h : Le S S') : ∀ {vs : List V} {ds : List D}, RpA K mg S vs ds → RpA K mg S' vs ds
  | _, _, .nil => .nil
  | _, _, .cons a b => .cons (Rp.mono h a) (RpA.mono h b)
theorem RpK.mono (h : Le S S') : ∀ {vs : List (List Key)} {ds : List (List D)}, RpK K mg S vs ds → RpK K mg S' vs ds
  | _, _, .nil => .nil
  | _, _, .cons a b => .cons (RpA.mono h a) (RpK.mono h b)
end
theorem RpA.length : ∀ {vs : List V} {ds : List D}, RpA K mg S vs ds → vs.length = ds.length
  | _, _, .nil => rfl
  | _, _, .cons _ b => by simp [RpA.length b]
theorem RpA.get : ∀ {vs : List V} {ds : List D} {i : Nat} {d : D}, RpA K mg S vs ds → ds[i]? = some d → ∃ v, vs[i]? = some v ∧ Rp K mg S v d
  | _, _, _, _, .nil, e => by simp at e
  | _, _, 0, _, .cons r _, e => by simp at e; subst e; exact ⟨_, rfl, r⟩
  | _, _, i + 1, d, .cons _ t, e => by
    obtain ⟨u, h1, h2⟩ := RpA.get (i := i) (d := d) t (by simpa using e)
    exact ⟨u, by simpa using h1, h2⟩
theorem RpA.getV : ∀ {vs : List V} {ds : List D} {i : Nat} {v : V}, RpA K mg S vs ds → vs[i]? = some v → ∃ d, ds[i]? = some d ∧ Rp K mg S v d
  | _, _, _, _, .nil, e => by simp at e
  | _, _, 0, _, .cons r _, e => by simp at e; subst e; exact ⟨_, rfl, r⟩
  | _, _, i + 1, d, .cons _ t, e => by
    obtain ⟨u, h1, h2⟩ := RpA.getV (i := i) (v := d) t (by simpa using e)
    exact ⟨u, by simpa using h1, h2⟩
theorem RpA.append : ∀ {vs ws : List V} {ds es : List D}, RpA K mg S vs ds → RpA K mg S ws es → RpA K mg S (vs ++ ws) (ds ++ es)
  | _, _, _, _, .nil, h => h
  | _, _, _, _, .cons a b, h => .cons a (RpA.append b h)
theorem RpA.take : ∀ {vs : List V} {ds : List D} (n : Nat), RpA K mg S vs ds → RpA K mg S (vs.take n) (ds.take n)
  | _, _, 0, _ => .nil
  | _, _, _ + 1, .nil => .nil
  | _, _, n + 1, .cons a b => .cons a (RpA.take n b)
theorem RpA.drop : ∀ {vs : List V} {ds : List D} (n : Nat), RpA K mg S vs ds → RpA K mg S (vs.drop n) (ds.drop n)
  | _, _, 0, h => h
  | _, _, _ + 1, .nil => .nil
  | _, _, n + 1, .cons _ b => RpA.drop n b
theorem RpA.set : ∀ {vs : List V} {ds : List D} {v : V} {d : D} (n : Nat), RpA K mg S vs ds → Rp K mg S v d → RpA K mg S (vs.set n v) (ds.set n d)
  | _, _, _, _, _, .nil, _ => .nil
  | _, _, _, _, 0, .cons _ b, h => .cons h b
  | _, _, _, _, n + 1, .cons a b, h => .cons a (RpA.set n b h)
theorem RpA.erase : ∀ {vs : List V} {ds : List D} (n : Nat), RpA K mg S vs ds → RpA K mg S (vs.eraseIdx n) (ds.eraseIdx n)
  | _, _, _, .nil => .nil
  | _, _, 0, .cons _ b => b
  | _, _, n + 1, .cons a b => .cons a (RpA.erase n b)
theorem RpA.rep {vs : List V} {ds : List D} (h : RpA K mg S vs ds) : ∀ n : Nat, RpA K mg S (List.replicate n vs).flatten (List.replicate n ds).flatten
  | 0 => .nil
  | n + 1 => by
    rw [List.replicate_succ, List.replicate_succ, List.flatten_cons, List.flatten_cons]
    exact h.append (RpA.rep h n)
theorem RpA.reverse {vs : List V} {ds : List D} (h : RpA K mg S vs ds) : RpA K mg S vs.reverse ds.reverse := by
  induction vs generalizing ds with
  | nil => cases h; exact .nil
  | cons v vs ih =>
    cases h with
    | cons a b =>
      rw [List.reverse_cons, List.reverse_cons]
      exact (ih b).append (.cons a .nil)
theorem RpA.ints : ∀ ns : List Int, RpA K mg S (ns.map V.int) (ns.map D.int)
  | [] => .nil
  | n :: r => .cons (.int n) (RpA.ints r)
end

/-! ### slots -/
/-- what stands in a slot: nothing that is known, a value shared with others, a list that nobody else knows (k: it is the caller's too, and stays in its slot) -/
inductive Sl where
  | un | sh (d : D) | ow (k : Bool) (ds : List D)
instance : Inhabited Sl := ⟨.un⟩

/-- the addresses of the frame's own lists -/
def Own (env : List Sl) (σ : L2.St) (a : Addr) : Prop := ∃ (i : Nat) (k : Bool) (ds : List D), env[i]? = some (.ow k ds) ∧ σ[i]? = some (some (.ref a))

structure Rep (K : PySem.W.Frag) (mg : Str → Option Value) (env : List Sl) (S : Hp) (σ : L2.St) (H : Hp) : Prop where
  sub : Le S H
  len : env.length = σ.length
  sh : ∀ (i : Nat) (d : D), env[i]? = some (.sh d) → ∃ v, σ[i]? = some (some v) ∧ Rp K mg S v d
  ow : ∀ (i : Nat) (k : Bool) (ds : List D), env[i]? = some (.ow k ds) → ∃ a xs, σ[i]? = some (some (.ref a)) ∧ S a = none ∧ H a = some (.lst xs) ∧ RpA K mg S xs ds
  inj : ∀ (i j : Nat) (k l : Bool) (ds es : List D) (a : Addr), env[i]? = some (.ow k ds) → env[j]? = some (.ow l es) → σ[i]? = some (some (.ref a)) → σ[j]? = some (some (.ref a)) → i = j

structure Stp (env : List Sl) (σ : L2.St) (S H : Hp) (env' : List Sl) (σ' : L2.St) (S' H' : Hp) : Prop where
  up : Le S S'
  new : ∀ a o, S' a = some o → S a = some o ∨ H a = none ∨ Own env σ a
  keep : ∀ a o, H a = some o → ¬ Own env σ a → H' a = some o
  own : ∀ a, Own env' σ' a → Own env σ a ∨ H a = none
  there : ∀ a o, H a = some o → ∃ o', H' a = some o'
  fix : ∀ (i : Nat) (ds : List D), env[i]? = some (.ow true ds) → σ'[i]? = σ[i]? ∧ ∃ ds', env'[i]? = some (.ow true ds')
  len : σ'.length = σ.length

section
variable {K : PySem.W.Frag} {mg : Str → Option Value} {env env' env'' : List Sl} {σ σ' σ'' : L2.St} {S S' S'' H H' H'' : Hp}
theorem Stp.refl : Stp env σ S H env σ S H := ⟨Le.refl _, fun _ _ h => .inl h, fun _ _ h _ => h, fun _ h => .inl h, fun _ o h => ⟨o, h⟩, fun _ ds h => ⟨rfl, ds, h⟩, rfl⟩
theorem Stp.back (a : Stp env σ S H env' σ' S' H') {b : Addr} (h : H' b = none) : H b = none := by
  cases e : H b with
  | none => rfl
  | some o =>
    obtain ⟨o', q⟩ := a.there b o e
    rw [q] at h; cases h
theorem Stp.trans (a : Stp env σ S H env' σ' S' H') (b : Stp env' σ' S' H' env'' σ'' S'' H'') : Stp env σ S H env'' σ'' S'' H'' where
  up := a.up.trans b.up
  new := fun c o e => by
    rcases b.new c o e with h | h | h
    · exact a.new c o h
    · exact .inr (.inl (a.back h))
    · exact .inr ((a.own c h).symm)
  keep := fun c o e n => b.keep c o (a.keep c o e n) fun z => by
    rcases a.own c z with h | h
    · exact n h
    · rw [e] at h; cases h
  own := fun c h => by
    rcases b.own c h with h | h
    · exact a.own c h
    · exact .inr (a.back h)
  there := fun c o e => by
    obtain ⟨o', e'⟩ := a.there c o e
    exact b.there c o' e'
  fix := fun i ds e => by
    obtain ⟨e1, ds1, e2⟩ := a.fix i ds e
    obtain ⟨e3, ds2, e4⟩ := b.fix i ds1 e2
    exact ⟨e3.trans e1, ds2, e4⟩
  len := b.len.trans a.len
/-- where the end is not another frame's: an address that was held and not own stays -/
theorem Rep.free (r : Rep K mg env S σ H) {a : Addr} (h : H a = none) : S a = none := by
  cases e : S a with
  | none => rfl
  | some o => rw [r.sub a o e] at h; cases h
theorem Rep.noOwn (r : Rep K mg env S σ H) {a : Addr} (h : H a = none) : ¬ Own env σ a := fun ⟨i, k, ds, z1, z2⟩ => by
  obtain ⟨b, xs, h1, _, h3, _⟩ := r.ow i k ds z1
  rw [z2] at h1; cases h1; rw [h] at h3; cases h3
/-- a new object is laid and is shared from the start -/
theorem Rep.lay (r : Rep K mg env S σ H) {p : Addr} {o : HO} (h : H p = none) : Rep K mg env (upd S p o) σ (upd H p o) where
  sub := fun a u e => by
    by_cases q : a = p
    · subst q; rw [upd_same] at e ⊢; exact e
    · rw [upd_ne q] at e ⊢; exact r.sub a u e
  len := r.len
  sh := fun i d e => let ⟨v, h1, h2⟩ := r.sh i d e; ⟨v, h1, h2.mono (Le.upd_new (r.free h))⟩
  ow := fun i k ds e => by
    obtain ⟨a, xs, h1, h2, h3, h4⟩ := r.ow i k ds e
    have q : a ≠ p := ne_of_none h3 h
    exact ⟨a, xs, h1, by rw [upd_ne q]; exact h2, by rw [upd_ne q]; exact h3, h4.mono (Le.upd_new (r.free h))⟩
  inj := r.inj
theorem Rep.layStp (r : Rep K mg env S σ H) {p : Addr} {o : HO} (h : H p = none) : Stp env σ S H env σ (upd S p o) (upd H p o) where
  up := Le.upd_new (r.free h)
  new := fun a u e => by
    by_cases q : a = p
    · subst q; exact .inr (.inl h)
    · rw [upd_ne q] at e; exact .inl e
  keep := fun a u e _ => by rw [upd_ne (ne_of_none e h)]; exact e
  own := fun a h => .inl h
  there := fun a u e => ⟨u, by rw [upd_ne (ne_of_none e h)]; exact e⟩
  fix := fun i ds e => ⟨rfl, ds, e⟩
  len := rfl
/-- a new object is laid, not shared -/
theorem Rep.layO (r : Rep K mg env S σ H) {p : Addr} {o : HO} (h : H p = none) : Rep K mg env S σ (upd H p o) where
  sub := fun a u e => by rw [upd_ne (ne_of_none (r.sub a u e) h)]; exact r.sub a u e
  len := r.len
  sh := r.sh
  ow := fun i k ds e => by
    obtain ⟨a, xs, h1, h2, h3, h4⟩ := r.ow i k ds e
    exact ⟨a, xs, h1, h2, by rw [upd_ne (ne_of_none h3 h)]; exact h3, h4⟩
  inj := r.inj
theorem Rep.layOStp (r : Rep K mg env S σ H) {p : Addr} {o : HO} (h : H p = none) : Stp env σ S H env σ S (upd H p o) where
  up := Le.refl _
  new := fun a u e => .inl e
  keep := fun a u e _ => by rw [upd_ne (ne_of_none e h)]; exact e
  own := fun a h => .inl h
  there := fun a u e => ⟨u, by rw [upd_ne (ne_of_none e h)]; exact e⟩
  fix := fun i ds e => ⟨rfl, ds, e⟩
  len := rfl
/-- a slot's own list is shared from now on -/
theorem Rep.frz (r : Rep K mg env S σ H) {i : Nat} {ds : List D} {a : Addr} {xs : List V} (e : env[i]? = some (.ow false ds)) (e1 : σ[i]? = some (some (.ref a))) (e2 : S a = none) (e3 : H a = some (.lst xs)) (e4 : RpA K mg S xs ds) :
    Rep K mg (env.set i (.sh (.lst ds))) (upd S a (.lst xs)) σ H ∧ Stp env σ S H (env.set i (.sh (.lst ds))) σ (upd S a (.lst xs)) H ∧ Rp K mg (upd S a (.lst xs)) (.ref a) (.lst ds) := by
  have hi : i < env.length := (List.getElem?_eq_some_iff.mp e).1
  have up : Le S (upd S a (.lst xs)) := Le.upd_new e2
  have rp : Rp K mg (upd S a (.lst xs)) (.ref a) (.lst ds) := .lst upd_same (e4.mono up)
  have oth : ∀ j l es, (env.set i (.sh (.lst ds)))[j]? = some (.ow l es) → j ≠ i ∧ env[j]? = some (.ow l es) := fun j l es q => by
    by_cases z : i = j
    · subst z; rw [List.getElem?_set_self hi] at q; cases q
    · rw [List.getElem?_set_ne z] at q; exact ⟨Ne.symm z, q⟩
  refine ⟨⟨fun b o q => ?_, by rw [List.length_set]; exact r.len, fun j d q => ?_, fun j l es q => ?_, fun j k l l' es fs b q1 q2 => ?_⟩, ⟨up, fun b o q => ?_, fun b o q _ => q, fun b ⟨j, l, es, q1, q2⟩ => ?_, fun b o q => ⟨o, q⟩, fun j es q => ⟨rfl, es, ?_⟩, rfl⟩, rp⟩
  · by_cases z : b = a
    · subst z; rw [upd_same] at q; rw [e3]; exact q
    · rw [upd_ne z] at q; exact r.sub b o q
  · by_cases z : i = j
    · subst z; rw [List.getElem?_set_self hi] at q; cases q; exact ⟨_, e1, rp⟩
    · rw [List.getElem?_set_ne z] at q
      obtain ⟨v, h1, h2⟩ := r.sh j d q
      exact ⟨v, h1, h2.mono up⟩
  · obtain ⟨z, q⟩ := oth j l es q
    obtain ⟨b, ys, h1, h2, h3, h4⟩ := r.ow j l es q
    have ne : b ≠ a := fun z' => by subst z'; exact z (r.inj j i l false es ds b q e h1 e1)
    exact ⟨b, ys, h1, by rw [upd_ne ne]; exact h2, h3, h4.mono up⟩
  · exact r.inj j k l l' es fs b (oth j l es q1).2 (oth k l' fs q2).2
  · by_cases z : b = a
    · subst z; exact .inr (.inr ⟨i, false, ds, e, e1⟩)
    · rw [upd_ne z] at q; exact .inl q
  · exact .inl ⟨j, l, es, (oth j l es q1).2, q2⟩
  · by_cases z : i = j
    · subst z; rw [e] at q; cases q
    · rw [List.getElem?_set_ne z]; exact q
end
end G3

/-! G3b: runs with slots, what a piece of syntax computes. -/
namespace G3
open PySem PySem.Spec PyProof.Rows L2

/-- how a run ends: with a value, or with an exception of a class, its fields -/
inductive R (α : Type) where
  | ok (a : α) (env : List Sl)
  | ex (c : Str) (fs : List (Str × D)) (env : List Sl)
abbrev EV (α : Type) : Type := List Sl → Option (R α)
def ret {α : Type} (a : α) : EV α := fun env => some (.ok a env)
def stuck {α : Type} : EV α := fun _ => none
def lift {α : Type} (o : Option α) : EV α := fun env => match o with
  | some a => some (.ok a env)
  | none => none
def bnd {α β : Type} (f : EV α) (g : α → EV β) : EV β := fun env => match f env with
  | some (.ok a env1) => g a env1
  | some (.ex c fs env1) => some (.ex c fs env1)
  | none => none
theorem bnd_ok {α β : Type} {f : EV α} {g : α → EV β} {env env1 : List Sl} {a : α} (h : f env = some (.ok a env1)) : bnd f g env = g a env1 := by unfold bnd; rw [h]

/-- an exception's class and dict as values -/
def ExR (K : PySem.W.Frag) (mg : Str → Option Value) (S : Hp) (c : Str) (fs : List (Str × D)) (cls : Value) (dd : Option Addr) : Prop :=
  mg c = some cls ∧ ((fs = [] ∧ dd = none) ∨ ∃ d fl, fs ≠ [] ∧ dd = some d ∧ S d = some (.xd fl) ∧ fl.map (·.1) = fs.map (·.1) ∧ RpA K mg S (fl.map (·.2)) (fs.map (·.2)))

section
variable (K : PySem.W.Frag) (mg : Str → Option Value) (W : WX)
def Run {α : Type} (f : EV α) (σ : L2.St) (env : List Sl) (S H : Hp) (P : α → List Sl → Hp → Hp → Prop) : Prop :=
  ∃ r, f env = some r ∧ match r with
    | .ok a env' => ∀ S' H', Stp env σ S H env' σ S' H' → Rep K mg env' S' σ H' → P a env' S' H'
    | .ex c fs env' => ∀ cls dd S' H', Stp env σ S H env' σ S' H' → Rep K mg env' S' σ H' → ExR K mg S' c fs cls dd → W cls dd σ H'
def tE (f : EV D) : TE := fun σ H Q => ∃ env S, Rep K mg env S σ H ∧ Run K mg W f σ env S H fun d _ S' H' => ∀ v, Rp K mg S' v d → Q v H'
def tT (f : EV Bool) : TT := fun σ H Q => ∃ env S, Rep K mg env S σ H ∧ Run K mg W f σ env S H fun b _ _ H' => Q b H'
def tA (f : EV (List D)) : TA := fun σ H Q => ∃ env S, Rep K mg env S σ H ∧ Run K mg W f σ env S H fun ds _ S' H' => ∀ vs, RpA K mg S' vs ds → Q vs H'
/-- a new list that nobody else knows -/
def tO (f : EV (List D)) : TE := fun σ H Q => ∃ env S, Rep K mg env S σ H ∧ Run K mg W f σ env S H fun ds env' S' H' =>
  ∀ a xs, H a = none → S' a = none → ¬ Own env' σ a → H' a = some (.lst xs) → RpA K mg S' xs ds → Q (.ref a) H'
end
section
variable {K : PySem.W.Frag} {mg : Str → Option Value} {W : WX} {α β : Type} {σ : L2.St} {env : List Sl} {S H : Hp}
theorem Run.then {f : EV α} {g : α → EV β} {P : β → List Sl → Hp → Hp → Prop} (h : Run K mg W (bnd f g) σ env S H P) :
    Run K mg W f σ env S H fun a env1 S1 H1 => Run K mg W (g a) σ env1 S1 H1 fun b env2 S2 H2 => P b env2 S2 H2 := by
  obtain ⟨r, e, h⟩ := h
  unfold bnd at e
  cases q : f env with
  | none => rw [q] at e; cases e
  | some r1 =>
    rw [q] at e
    cases r1 with
    | ex c fs env1 =>
      cases e
      exact ⟨_, q, h⟩
    | ok a env1 =>
      refine ⟨_, q, fun S1 H1 st1 rep1 => ⟨r, e, ?_⟩⟩
      cases r with
      | ok b env2 => exact fun S2 H2 st2 rep2 => h S2 H2 (st1.trans st2) rep2
      | ex c fs env2 => exact fun cls dd S2 H2 st2 rep2 x => h cls dd S2 H2 (st1.trans st2) rep2 x
theorem Run.imp {f : EV α} {P P' : α → List Sl → Hp → Hp → Prop} (h : Run K mg W f σ env S H P) (k : ∀ a env1 S1 H1, Stp env σ S H env1 σ S1 H1 → Rep K mg env1 S1 σ H1 → P a env1 S1 H1 → P' a env1 S1 H1) : Run K mg W f σ env S H P' := by
  obtain ⟨r, e, h⟩ := h
  refine ⟨r, e, ?_⟩
  cases r with
  | ok a env1 => exact fun S1 H1 st rep => k a env1 S1 H1 st rep (h S1 H1 st rep)
  | ex c fs env1 => exact h
theorem Run.lift {o : Option α} {P : α → List Sl → Hp → Hp → Prop} (h : Run K mg W (lift o) σ env S H P) :
    ∃ a, o = some a ∧ ∀ S' H', Stp env σ S H env σ S' H' → Rep K mg env S' σ H' → P a env S' H' := by
  obtain ⟨r, e, h⟩ := h
  unfold G3.lift at e
  cases o with
  | none => cases e
  | some a => cases e; exact ⟨a, rfl, h⟩
theorem Run.ret {a : α} {P : α → List Sl → Hp → Hp → Prop} (h : Run K mg W (G3.ret a) σ env S H P) (rep : Rep K mg env S σ H) : P a env S H := by
  obtain ⟨r, e, h⟩ := h
  cases e
  exact h S H Stp.refl rep
theorem Run.noStuck {P : α → List Sl → Hp → Hp → Prop} (h : Run K mg W (G3.stuck) σ env S H P) : False := by
  obtain ⟨r, e, h⟩ := h; cases e
end

/-- what is known of where the code stands -/
structure Ctx where
  N : List Str
  sc : Scope
  k : Nat
  fn : Str → Bool
  calm : Bool
  top : Bool
/-- the ground: the program, the world, the written part, the module's names -/
structure Gr where
  P : Program
  w : World
  K : PySem.W.Frag
  mg : Str → Option Value
  base : Heap
structure Good (g : Gr) (G : Ctx) (X : Cx) : Prop where
  hp : X.prog = g.P
  hw : X.w = g.w
  hK : X.K = g.K
  hm : X.mg = g.mg
  hb : X.base = g.base
  hN : X.N = G.N
  hs : X.env.scope = G.sc
  fn : ∀ x, G.fn x = true → X.fn x = true
  calm : G.calm = true → X.calm = true ∧ Room G.k X.A
  gds : X.A.guards = some []
  top : G.top = true → X.stack = X.env :: X.outer ∧ X.env.frame = some X.env.locals ∧ PassesOwn (model X.prog X.w) X.A X.env X.xe

section
variable (g : Gr) (G : Ctx)
def SE (e : Expr) (f : EV D) : Prop := ∀ X W, Good g G X → Takes X W → PE X e (tE g.K g.mg W f)
def ST (e : Expr) (f : EV Bool) : Prop := ∀ X W, Good g G X → Takes X W → PT X e (tT g.K g.mg W f)
/-- a test whatever its whole is -/
def SW (e : Expr) (f : EV Bool) : Prop := ∀ X W, Good g G X → Takes X W → PW X e (tT g.K g.mg W f)
def SA (es : List Expr) (f : EV (List D)) : Prop := ∀ X W, Good g G X → Takes X W → PA X es (tA g.K g.mg W f)
def SO (e : Expr) (f : EV (List D)) : Prop := ∀ X W, Good g G X → Takes X W → PE X e (tO g.K g.mg W f)
end

section
variable {X : Cx} {e : Expr}
theorem PE.weak {t t' : TE} (h : PE X e t) (k : ∀ σ H Q, t' σ H Q → t σ H Q) : PE X e t' := ⟨fun pins s σ H Q I q => h.run pins s σ H Q I (k σ H Q q)⟩
theorem PT.weak {t t' : TT} (h : PT X e t) (k : ∀ σ H Q, t' σ H Q → t σ H Q) : PT X e t' := ⟨fun pins s σ H Q I q => h.run pins s σ H Q I (k σ H Q q)⟩
theorem PW.weak {t t' : TT} (h : PW X e t) (k : ∀ σ H Q, t' σ H Q → t σ H Q) : PW X e t' := ⟨fun wh pins s σ H Q I q => h.run wh pins s σ H Q I (k σ H Q q)⟩
theorem PA.weak {es : List Expr} {t t' : TA} (h : PA X es t) (k : ∀ σ H Q, t' σ H Q → t σ H Q) : PA X es t' := ⟨fun pos pins s σ H Q I q => h.run pos pins s σ H Q I (k σ H Q q)⟩
theorem PS.weak {st : Stmt} {t t' : TS} (h : PS X st t) (k : ∀ D σ H, t' D σ H → t D σ H) : PS X st t' := ⟨fun pins s σ H D I q => h.run pins s σ H D I (k D σ H q)⟩
theorem PSs.weak {st : List Stmt} {t t' : TS} (h : PSs X st t) (k : ∀ D σ H, t' D σ H → t D σ H) : PSs X st t' := ⟨fun pins s σ H D I q => h.run pins s σ H D I (k D σ H q)⟩
/-- an expression that the run never comes to, or that is not served -/
theorem pe_never : PE X e (fun _ _ _ => False) := ⟨fun _ _ _ _ _ _ h => h.elim⟩
end

section
variable {g : Gr} {G : Ctx}
theorem se_stuck {e : Expr} : SE g G e stuck := fun X W gd tk => PE.weak pe_never fun σ H Q ⟨env, S, rep, h⟩ => h.noStuck

/-! ### names and constants -/
def eLit (d : D) : EV D := ret d
def eVar (i : Nat) : EV D := fun env => match env[i]? with
  | some (.sh d) => some (.ok d env)
  | some (.ow false ds) => some (.ok (.lst ds) (env.set i (.sh (.lst ds))))
  | _ => none
theorem se_int {i : Int} {j : Nat} {pos : Pos} : SE g G (.Constant (.int i) j pos) (eLit (.int i)) := fun X W gd tk => PE.weak pe_int fun σ H Q ⟨env, S, rep, h⟩ => h.ret rep _ (.int i)
theorem se_bl {i : Bool} {j : Nat} {pos : Pos} : SE g G (.Constant (.bool i) j pos) (eLit (.bl i)) := fun X W gd tk => PE.weak pe_bl fun σ H Q ⟨env, S, rep, h⟩ => h.ret rep _ (.bl i)
theorem se_non {j : Nat} {pos : Pos} : SE g G (.Constant .none j pos) (eLit .non) := fun X W gd tk => PE.weak pe_non fun σ H Q ⟨env, S, rep, h⟩ => h.ret rep _ .non
theorem se_str {x : Str} {j : Nat} {pos : Pos} : SE g G (.Constant (.str x) j pos) (eLit (.str x)) := fun X W gd tk => PE.weak pe_str fun σ H Q ⟨env, S, rep, h⟩ => h.ret rep _ (.str x)
/-- the name's kind by the scope -/
def visB (sc : Scope) (x : Str) : Bool := match sc.names.lookup x with
  | some .local => true
  | some .cell => true
  | some .free => true
  | _ => false
theorem vis_of {sc : Scope} {x : Str} (h : visB sc x = true) : Vis sc x := by
  unfold visB at h
  unfold Vis
  split at h
  · exact .inl (by assumption)
  · exact .inr (.inl (by assumption))
  · exact .inr (.inr (by assumption))
  · cases h
def nameOk (x : Str) : Bool := !(x == ("__debug__" : Str)) && !(x == ("__classdict__" : Str)) && !(x == ("__name__" : Str))
theorem nameOk_1 {x : Str} (h : nameOk x = true) : (x == ("__debug__" : Str)) = false ∧ (x == ("__classdict__" : Str)) = false ∧ x ≠ "__name__" := by
  unfold nameOk at h
  simp only [Bool.and_eq_true, Bool.not_eq_true'] at h
  exact ⟨h.1.1, h.1.2, fun e => by rw [e] at h; exact absurd h.2 (by decide)⟩
/-- x stands at the slot i -/
def varB (G : Ctx) (i : Nat) (x : Str) : Bool := decide (G.N[i]? = some x) && visB G.sc x && nameOk x
theorem se_var {i : Nat} {x : Str} {pos : Pos} (h : varB G i x = true) : SE g G (.Name x pos) (eVar i) := fun X W gd tk => by
  unfold varB at h
  simp only [Bool.and_eq_true, decide_eq_true_eq] at h
  refine PE.weak (pe_var (i := i) (by rw [gd.hN]; exact h.1.1) (by rw [gd.hs]; exact vis_of h.1.2) (nameOk_1 h.2).1 (nameOk_1 h.2).2.1) fun σ H Q ⟨env, S, rep, r, e, q⟩ => ?_
  unfold eVar at e
  cases z : env[i]? with
  | none => rw [z] at e; cases e
  | some sl =>
    rw [z] at e
    cases sl with
    | un => cases e
    | sh d =>
      cases e
      obtain ⟨v, h1, h2⟩ := rep.sh i d z
      exact ⟨v, h1, q S H Stp.refl rep v h2⟩
    | ow k ds =>
      cases k with
      | true => cases e
      | false =>
        cases e
        obtain ⟨a, xs, h1, h2, h3, h4⟩ := rep.ow i false ds z
        obtain ⟨rep', st, rp⟩ := rep.frz z h1 h2 h3 h4
        exact ⟨_, h1, q _ H st rep' _ rp⟩
/-- a module's name is global here -/
def gloB (G : Ctx) (x : Str) : Bool := (match G.sc.names.lookup x with
  | some .globalImplicit => true
  | _ => false) && nameOk x
theorem gl_of {X : Cx} (gd : Good g G X) {x : Str} (h : gloB G x = true) : Gl X x := by
  unfold gloB at h
  rw [Bool.and_eq_true] at h
  unfold Gl PySem.Env.kindOf
  rw [gd.hs]
  have h1 := h.1
  split at h1
  · assumption
  · cases h1
theorem glo_nm {x : Str} (h : gloB G x = true) : nameOk x = true := (Bool.and_eq_true_iff.mp h).2
/-- a module's constant -/
def Cst (g : Gr) (x : Str) (d : D) : Prop := ∃ v u, g.mg x = some u ∧ RelV v u ∧ ∀ S, Rp g.K g.mg S v d
theorem se_cst {x : Str} {d : D} {pos : Pos} (h : gloB G x = true) (c : Cst g x d) : SE g G (.Name x pos) (eLit d) := fun X W gd tk => by
  obtain ⟨v, u, h1, h2, h3⟩ := c
  exact PE.weak (pe_glob (gl_of gd h) (by rw [gd.hm]; exact h1) h2 (nameOk_1 (glo_nm h)).1) fun σ H Q ⟨env, S, rep, h⟩ => h.ret rep _ (h3 S)

/-! ### operators -/
/-- an operator on data, over the model's on values -/
def OpOk (g : Gr) (G : Ctx) (f : Value → Value → Sem Value) (op : D → D → Option D) : Prop :=
  ∀ X, Good g G X → ∃ r : R2, OpR X f r ∧ ∀ (env : List Sl) (S : Hp) (σ : L2.St) (H : Hp) (x y : V) (a b d : D) (Q : VK), Rep g.K g.mg env S σ H → Rp g.K g.mg S x a → Rp g.K g.mg S y b → op a b = some d →
    (∀ S' H', Stp env σ S H env σ S' H' → Rep g.K g.mg env S' σ H' → ∀ v, Rp g.K g.mg S' v d → Q v H') → r x y H Q
def eBin (op : D → D → Option D) (f h : EV D) : EV D := bnd f fun a => bnd h fun b => lift (op a b)
theorem tOp_of {W : WX} {f h : EV D} {op : D → D → Option D} {r : R2}
    (hr : ∀ (env : List Sl) (S : Hp) (σ : L2.St) (H : Hp) (x y : V) (a b d : D) (Q : VK), Rep g.K g.mg env S σ H → Rp g.K g.mg S x a → Rp g.K g.mg S y b → op a b = some d →
      (∀ S' H', Stp env σ S H env σ S' H' → Rep g.K g.mg env S' σ H' → ∀ v, Rp g.K g.mg S' v d → Q v H') → r x y H Q)
    (σ : L2.St) (H : Hp) (Q : VK) (q : tE g.K g.mg W (eBin op f h) σ H Q) : tOp r (tE g.K g.mg W f) (tE g.K g.mg W h) σ H Q := by
  obtain ⟨env, S, rep, q⟩ := q
  refine ⟨env, S, rep, q.then.imp fun a env1 S1 H1 st1 rep1 q1 v rv => ?_⟩
  refine ⟨env1, S1, rep1, q1.then.imp fun b env2 S2 H2 st2 rep2 q2 w rw' => ?_⟩
  obtain ⟨d, e, q3⟩ := q2.lift
  exact hr env2 S2 σ H2 v w a b d Q rep2 (rv.mono st2.up) rw' e fun S' H' st' rep' u ru => q3 S' H' st' rep' u ru
theorem se_bin {a b : Expr} {o : Operator} {op : D → D → Option D} {f h : EV D} {pos : Pos} (ok : OpOk g G (binaryOp o) op) (ha : SE g G a f) (hb : SE g G b h) : SE g G (.BinOp a o b pos) (eBin op f h) := fun X W gd tk => by
  obtain ⟨r, o1, o2⟩ := ok X gd
  exact PE.weak (pe_op o1 (ha X W gd tk) (hb X W gd tk)) (tOp_of o2)
def cmpB (o : CmpOp) : Bool := match o with
  | .In => false
  | .NotIn => false
  | _ => true
theorem nomark_of {o : CmpOp} {b : Expr} (h : cmpB o = true) : behindInMarks o b = false := by
  cases o <;> first | exact nomark b | cases h
/-- behind in stands no written set -/
def inB (b : Expr) : Bool := match b with
  | .Set .. => false
  | _ => true
theorem inmark_of {o : CmpOp} {b : Expr} (h : inB b = true) : behindInMarks o b = false := by
  cases b <;> first | rfl | cases h
theorem se_cmp {a b : Expr} {o : CmpOp} {op : D → D → Option D} {f h : EV D} {pos : Pos} (ok : OpOk g G (compareOp o) op) (ha : SE g G a f) (hb : SE g G b h) (hm : inB b = true) : SE g G (.Compare a [o] [b] pos) (eBin op f h) := fun X W gd tk => by
  obtain ⟨r, o1, o2⟩ := ok X gd
  exact PE.weak (pe_cmpR o1 (ha X W gd tk) (hb X W gd tk) (inmark_of hm)) (tOp_of o2)
/-- a bool as a test's answer -/
def asB (f : EV D) : EV Bool := bnd f fun d => match d with
  | .bl b => ret b
  | _ => stuck
theorem tTest_of {W : WX} {t : TE} {f : EV D} (ht : ∀ σ H Q, tE g.K g.mg W f σ H Q → t σ H Q) (σ : L2.St) (H : Hp) (Q : Bool → Hp → Prop) (q : tT g.K g.mg W (asB f) σ H Q) : t σ H fun x H' => ∃ k, x = .bl k ∧ Q k H' := by
  obtain ⟨env, S, rep, q⟩ := q
  refine ht σ H _ ⟨env, S, rep, q.then.imp fun d env1 S1 H1 st1 rep1 q1 v rv => ?_⟩
  cases rv with
  | bl b => exact ⟨b, rfl, q1.ret rep1⟩
  | _ => exact q1.noStuck.elim
theorem st_cmp {a b : Expr} {o : CmpOp} {op : D → D → Option D} {f h : EV D} {pos : Pos} (ok : OpOk g G (compareOp o) op) (ha : SE g G a f) (hb : SE g G b h) (hm : inB b = true) : ST g G (.Compare a [o] [b] pos) (asB (eBin op f h)) := fun X W gd tk => by
  obtain ⟨r, o1, o2⟩ := ok X gd
  exact PT.weak (pt_cmpR o1 (ha X W gd tk) (hb X W gd tk) (inmark_of hm)) fun σ H Q q => tTest_of (tOp_of o2) σ H Q q
/-- a o1 b o2 c -/
def eChain (o1 o2 : D → D → Option D) (f h k : EV D) : EV D := bnd f fun a => bnd h fun b => bnd (lift (o1 a b)) fun c => match c with
  | .bl true => bnd k fun d => lift (o2 b d)
  | .bl false => ret (.bl false)
  | _ => stuck
theorem tChain_of {W : WX} {f h k : EV D} {op op' : D → D → Option D} {r r' : R2}
    (hr : ∀ (env : List Sl) (S : Hp) (σ : L2.St) (H : Hp) (x y : V) (a b d : D) (Q : VK), Rep g.K g.mg env S σ H → Rp g.K g.mg S x a → Rp g.K g.mg S y b → op a b = some d →
      (∀ S' H', Stp env σ S H env σ S' H' → Rep g.K g.mg env S' σ H' → ∀ v, Rp g.K g.mg S' v d → Q v H') → r x y H Q)
    (hr' : ∀ (env : List Sl) (S : Hp) (σ : L2.St) (H : Hp) (x y : V) (a b d : D) (Q : VK), Rep g.K g.mg env S σ H → Rp g.K g.mg S x a → Rp g.K g.mg S y b → op' a b = some d →
      (∀ S' H', Stp env σ S H env σ S' H' → Rep g.K g.mg env S' σ H' → ∀ v, Rp g.K g.mg S' v d → Q v H') → r' x y H Q)
    (σ : L2.St) (H : Hp) (Q : VK) (q : tE g.K g.mg W (eChain op op' f h k) σ H Q) : tChain r r' (tE g.K g.mg W f) (tE g.K g.mg W h) (tE g.K g.mg W k) σ H Q := by
  obtain ⟨env, S, rep, q⟩ := q
  refine ⟨env, S, rep, q.then.imp fun a env1 S1 H1 st1 rep1 q1 v rv => ?_⟩
  refine ⟨env1, S1, rep1, q1.then.imp fun b env2 S2 H2 st2 rep2 q2 w rw' => ?_⟩
  obtain ⟨d, e, q3⟩ := q2.then.lift
  refine hr env2 S2 σ H2 v w a b d _ rep2 (rv.mono st2.up) rw' e fun S3 H3 st3 rep3 u ru => ?_
  have q4 := q3 S3 H3 st3 rep3
  cases ru with
  | bl c =>
    cases c with
    | true =>
      refine ⟨true, rfl, ?_⟩
      rw [if_pos rfl]
      refine ⟨env2, S3, rep3, q4.then.imp fun d4 env4 S4 H4 st4 rep4 q5 v4 r4 => ?_⟩
      obtain ⟨d5, e5, q6⟩ := q5.lift
      exact hr' env4 S4 σ H4 w v4 b d4 d5 Q rep4 (rw'.mono (st3.up.trans st4.up)) r4 e5 fun S' H' st' rep' u ru => q6 S' H' st' rep' u ru
    | false =>
      refine ⟨false, rfl, ?_⟩
      rw [if_neg Bool.false_ne_true]
      exact q4.ret rep3 _ (.bl false)
  | _ => exact q4.noStuck.elim
theorem chmark_of {o o' : CmpOp} {b c : Expr} (h : inB c = true) : lastMarks [o, o'] [b, c] = false := by
  show behindInMarks o' c = false
  exact inmark_of h
theorem se_chain {a b c : Expr} {o o' : CmpOp} {op op' : D → D → Option D} {f h k : EV D} {pos : Pos} (ok : OpOk g G (compareOp o) op) (ok' : OpOk g G (compareOp o') op') (ha : SE g G a f) (hb : SE g G b h) (hc : SE g G c k) (hm : inB c = true) :
    SE g G (.Compare a [o, o'] [b, c] pos) (eChain op op' f h k) := fun X W gd tk => by
  obtain ⟨r, o1, o2⟩ := ok X gd
  obtain ⟨r', o1', o2'⟩ := ok' X gd
  exact PE.weak (pe_chain o1 o1' (ha X W gd tk) (hb X W gd tk) (hc X W gd tk) (chmark_of hm)) (tChain_of o2 o2')
theorem st_chain {a b c : Expr} {o o' : CmpOp} {op op' : D → D → Option D} {f h k : EV D} {pos : Pos} (ok : OpOk g G (compareOp o) op) (ok' : OpOk g G (compareOp o') op') (ha : SE g G a f) (hb : SE g G b h) (hc : SE g G c k) (hm : inB c = true) :
    ST g G (.Compare a [o, o'] [b, c] pos) (asB (eChain op op' f h k)) := fun X W gd tk => by
  obtain ⟨r, o1, o2⟩ := ok X gd
  obtain ⟨r', o1', o2'⟩ := ok' X gd
  exact PT.weak (pt_chain o1 o1' (ha X W gd tk) (hb X W gd tk) (hc X W gd tk) (chmark_of hm)) fun σ H Q q => tTest_of (tChain_of o2 o2') σ H Q q
/-! ### a value as a test; and, or, not -/
/-- syntax whose test is its value's truth -/
def plainT (e : Expr) : Bool := match e with
  | .Name .. => true
  | .Call .. => true
  | .Subscript .. => true
  | .Attribute .. => true
  | .Constant .. => true
  | .BinOp .. => true
  | _ => false
theorem plainT_ok {e : Expr} {env : Env} (h : plainT e = true) (whole : Sem Value) : isTrue e env whole = (do let v ← whole; standAt e.pos; holding [v] (truthy v)) := by
  cases e <;> first | rfl | cases h
theorem st_val {e : Expr} {f : EV D} (he : SE g G e f) (h : plainT e = true) : ST g G e (asB f) := fun X W gd tk =>
  PT.weak (pt_val (he X W gd tk) (plainT_ok h)) fun σ H Q q => tTest_of (fun _ _ _ z => z) σ H Q q
def bAnd (f h : EV Bool) : EV Bool := bnd f fun a => if a = true then h else ret false
def bOr (f h : EV Bool) : EV Bool := bnd f fun a => if a = true then ret true else h
def bNot (f : EV Bool) : EV Bool := bnd f fun a => ret (!a)
theorem tAnd_of {W : WX} {f h : EV Bool} (σ : L2.St) (H : Hp) (Q : Bool → Hp → Prop) (q : tT g.K g.mg W (bAnd f h) σ H Q) : tAnd (tT g.K g.mg W f) (tT g.K g.mg W h) σ H Q := by
  obtain ⟨env, S, rep, q⟩ := q
  refine ⟨env, S, rep, q.then.imp fun b env1 S1 H1 st1 rep1 q1 => ?_⟩
  cases b with
  | true => rw [if_pos rfl] at q1 ⊢; exact ⟨env1, S1, rep1, q1⟩
  | false => rw [if_neg Bool.false_ne_true] at q1 ⊢; exact q1.ret rep1
theorem tOr_of {W : WX} {f h : EV Bool} (σ : L2.St) (H : Hp) (Q : Bool → Hp → Prop) (q : tT g.K g.mg W (bOr f h) σ H Q) : tOr (tT g.K g.mg W f) (tT g.K g.mg W h) σ H Q := by
  obtain ⟨env, S, rep, q⟩ := q
  refine ⟨env, S, rep, q.then.imp fun b env1 S1 H1 st1 rep1 q1 => ?_⟩
  cases b with
  | true => rw [if_pos rfl] at q1 ⊢; exact q1.ret rep1
  | false => rw [if_neg Bool.false_ne_true] at q1 ⊢; exact ⟨env1, S1, rep1, q1⟩
theorem tNot_of {W : WX} {f : EV Bool} (σ : L2.St) (H : Hp) (Q : Bool → Hp → Prop) (q : tT g.K g.mg W (bNot f) σ H Q) : tNot (tT g.K g.mg W f) σ H Q := by
  obtain ⟨env, S, rep, q⟩ := q
  exact ⟨env, S, rep, q.then.imp fun b env1 S1 H1 st1 rep1 q1 => q1.ret rep1⟩
variable {a b : Expr} {rest : List Expr} {f h : EV Bool} {pos : Pos}
theorem sw_and1 (ha : ST g G a f) : SW g G (.BoolOp .And [a] pos) f := fun X W gd tk => pw_and1 (ha X W gd tk)
theorem sw_or1 (ha : ST g G a f) : SW g G (.BoolOp .Or [a] pos) f := fun X W gd tk => pw_or1 (ha X W gd tk)
theorem sw_and (ha : ST g G a f) (hb : SW g G (.BoolOp .And (b :: rest) pos) h) : SW g G (.BoolOp .And (a :: b :: rest) pos) (bAnd f h) := fun X W gd tk => PW.weak (pw_and (ha X W gd tk) (hb X W gd tk)) tAnd_of
theorem sw_or (ha : ST g G a f) (hb : SW g G (.BoolOp .Or (b :: rest) pos) h) : SW g G (.BoolOp .Or (a :: b :: rest) pos) (bOr f h) := fun X W gd tk => PW.weak (pw_or (ha X W gd tk) (hb X W gd tk)) tOr_of
theorem st_w {e : Expr} (h' : SW g G e f) : ST g G e f := fun X W gd tk => (h' X W gd tk).pt
theorem st_not (ha : ST g G a f) : ST g G (.UnaryOp .Not a pos) (bNot f) := fun X W gd tk => PT.weak (pt_not (ha X W gd tk)) tNot_of
end
end G3

/-! G3c: more of expressions. -/
namespace G3
open PySem PySem.Spec PyProof.Rows L2
section
variable {g : Gr} {G : Ctx} {a b c e : Expr} {es rest : List Expr} {f h k : EV D} {pos : Pos}
/-! ### and, or, not as values; a if t else b -/
def eAnd (f h : EV D) : EV D := bnd f fun d => match d with
  | .bl true => h
  | .bl false => ret (.bl false)
  | _ => stuck
def eOr (f h : EV D) : EV D := bnd f fun d => match d with
  | .bl true => ret (.bl true)
  | .bl false => h
  | _ => stuck
def eNot (f : EV D) : EV D := bnd f fun d => match d with
  | .bl c => ret (.bl (!c))
  | _ => stuck
def eIf (t : EV Bool) (f h : EV D) : EV D := bnd t fun c => if c = true then f else h
theorem se_one {op : BoolOp} (ha : SE g G a f) : SE g G (.BoolOp op [a] pos) f := fun X W gd tk => pe_one (ha X W gd tk)
theorem se_and (ha : SE g G a f) (hb : SE g G (.BoolOp .And (b :: rest) pos) h) : SE g G (.BoolOp .And (a :: b :: rest) pos) (eAnd f h) := fun X W gd tk =>
  PE.weak (pe_and (ha X W gd tk) (hb X W gd tk)) fun σ H Q ⟨env, S, rep, q⟩ => ⟨env, S, rep, q.then.imp fun d env1 S1 H1 st1 rep1 q1 v rv => by
    cases rv with
    | bl c =>
      cases c with
      | true => exact ⟨true, rfl, by rw [if_pos rfl]; exact ⟨env1, S1, rep1, q1⟩⟩
      | false => exact ⟨false, rfl, by rw [if_neg Bool.false_ne_true]; exact q1.ret rep1 _ (.bl false)⟩
    | _ => exact q1.noStuck.elim⟩
theorem se_or (ha : SE g G a f) (hb : SE g G (.BoolOp .Or (b :: rest) pos) h) : SE g G (.BoolOp .Or (a :: b :: rest) pos) (eOr f h) := fun X W gd tk =>
  PE.weak (pe_or (ha X W gd tk) (hb X W gd tk)) fun σ H Q ⟨env, S, rep, q⟩ => ⟨env, S, rep, q.then.imp fun d env1 S1 H1 st1 rep1 q1 v rv => by
    cases rv with
    | bl c =>
      cases c with
      | true => exact ⟨true, rfl, by rw [if_pos rfl]; exact q1.ret rep1 _ (.bl true)⟩
      | false => exact ⟨false, rfl, by rw [if_neg Bool.false_ne_true]; exact ⟨env1, S1, rep1, q1⟩⟩
    | _ => exact q1.noStuck.elim⟩
theorem se_not (ha : SE g G a f) : SE g G (.UnaryOp .Not a pos) (eNot f) := fun X W gd tk =>
  PE.weak (pe_not (ha X W gd tk)) fun σ H Q ⟨env, S, rep, q⟩ => ⟨env, S, rep, q.then.imp fun d env1 S1 H1 st1 rep1 q1 v rv => by
    cases rv with
    | bl c => exact ⟨c, rfl, q1.ret rep1 _ (.bl _)⟩
    | _ => exact q1.noStuck.elim⟩
theorem se_if {t : EV Bool} (hc : ST g G c t) (ha : SE g G a f) (hb : SE g G b h) : SE g G (.IfExp c a b pos) (eIf t f h) := fun X W gd tk =>
  PE.weak (pe_ifExp (hc X W gd tk) (ha X W gd tk) (hb X W gd tk)) fun σ H Q ⟨env, S, rep, q⟩ => ⟨env, S, rep, q.then.imp fun d env1 S1 H1 st1 rep1 q1 => by
    cases d with
    | true => rw [if_pos rfl] at q1 ⊢; exact ⟨env1, S1, rep1, q1⟩
    | false => rw [if_neg Bool.false_ne_true] at q1 ⊢; exact ⟨env1, S1, rep1, q1⟩⟩
/-! ### -a -/
def negD : D → Option D
  | .int i => some (.int (-i))
  | _ => none
def eNeg (f : EV D) : EV D := bnd f fun d => lift (negD d)
theorem se_neg (ha : SE g G a f) : SE g G (.UnaryOp .USub a pos) (eNeg f) := fun X W gd tk =>
  PE.weak (pe_un un_neg (ha X W gd tk)) fun σ H Q ⟨env, S, rep, q⟩ => ⟨env, S, rep, q.then.imp fun d env1 S1 H1 st1 rep1 q1 v rv => by
    obtain ⟨d2, e2, q2⟩ := q1.lift
    cases rv with
    | int i => cases e2; exact ⟨i, rfl, q2 S1 H1 Stp.refl rep1 _ (.int _)⟩
    | _ => cases e2⟩
/-! ### argument lists, displays -/
def starB (e : Expr) : Bool := match e with
  | .Starred .. => false
  | _ => true
theorem star_of {env : Env} (h : starB e = true) : starEach (e :: es) env = (false, eval e env) :: starEach es env := by
  cases e <;> first | rfl | cases h
/-- no star in it -/
def starsB : List Expr → Bool
  | [] => true
  | e :: r => starB e && starsB r
theorem stars_any {env : Env} (pos : Pos) : ∀ {es : List Expr}, starsB es = true → (backTo pos (starEach es env)).any (·.1) = false
  | [], _ => rfl
  | e :: r, h => by
    have h1 := Bool.and_eq_true_iff.mp h
    rw [star_of h1.1]
    have ih := stars_any (env := env) pos h1.2
    unfold backTo at ih ⊢
    simpa using ih
def aNil : EV (List D) := ret []
def aCons (f : EV D) (h : EV (List D)) : EV (List D) := bnd f fun d => bnd h fun ds => ret (d :: ds)
theorem sa_nil : SA g G [] aNil := fun X W gd tk => PA.weak pa_nil fun σ H Q ⟨env, S, rep, q⟩ => q.ret rep _ .nil
theorem sa_cons {h : EV (List D)} (ha : SE g G e f) (hr : SA g G es h) (hs : starB e = true) : SA g G (e :: es) (aCons f h) := fun X W gd tk =>
  PA.weak (pa_cons (ha X W gd tk) (hr X W gd tk) (star_of hs)) fun σ H Q ⟨env, S, rep, q⟩ => ⟨env, S, rep, q.then.imp fun d env1 S1 H1 st1 rep1 q1 v rv =>
    ⟨env1, S1, rep1, q1.then.imp fun ds env2 S2 H2 st2 rep2 q2 vs rvs => q2.ret rep2 _ (.cons (rv.mono st2.up) rvs)⟩⟩
def eTup (h : EV (List D)) : EV D := bnd h fun ds => if ds.length ≤ sizeLine then ret (.tup ds) else stuck
def oLst (h : EV (List D)) : EV (List D) := bnd h fun ds => if ds.length ≤ sizeLine then ret ds else stuck
theorem se_tup {h : EV (List D)} {x1 : Nat} (ha : SA g G es h) : SE g G (.Tuple es x1 pos) (eTup h) := fun X W gd tk =>
  PE.weak (pe_tup (ha X W gd tk)) fun σ H Q ⟨env, S, rep, q⟩ => ⟨env, S, rep, q.then.imp fun ds env1 S1 H1 st1 rep1 q1 vs rvs => by
    by_cases z : ds.length ≤ sizeLine
    · rw [if_pos z] at q1
      obtain ⟨r, e1, q1⟩ := q1
      cases e1
      refine ⟨by rw [rvs.length]; exact z, fun p hp => ?_⟩
      have up : Le S1 (upd S1 p (.tup vs)) := Le.upd_new (rep1.free hp)
      exact q1 _ _ (rep1.layStp hp) (rep1.lay hp) _ (.tup (SqT.of upd_same) (rvs.mono up))
    · rw [if_neg z] at q1; exact q1.noStuck.elim⟩
theorem so_lst {h : EV (List D)} (ha : SA g G es h) : SO g G (.List es pos) (oLst h) := fun X W gd tk =>
  PE.weak (pe_lst (ha X W gd tk)) fun σ H Q ⟨env, S, rep, q⟩ => ⟨env, S, rep, q.then.imp fun ds env1 S1 H1 st1 rep1 q1 vs rvs => by
    by_cases z : ds.length ≤ sizeLine
    · rw [if_pos z] at q1
      obtain ⟨r, e1, q1⟩ := q1
      cases e1
      refine ⟨by rw [rvs.length]; exact z, fun p hp => ?_⟩
      exact q1 _ _ (rep1.layOStp hp) (rep1.layO hp) p vs (st1.back hp) (rep1.free hp) (rep1.noOwn hp) upd_same rvs
    · rw [if_neg z] at q1; exact q1.noStuck.elim⟩
end
end G3

/-! G3d: freezing, subscripts, slices, operators on data. -/
namespace G3
open PySem PySem.Spec PyProof.Rows L2
section
variable {g : Gr} {G : Ctx} {a b c e : Expr} {es rest : List Expr} {f h k : EV D} {pos : Pos}
/-- a new list is shared from the start -/
def eFrz (f : EV (List D)) : EV D := bnd f fun ds => ret (.lst ds)
theorem Rep.share {K : PySem.W.Frag} {mg : Str → Option Value} {env : List Sl} {σ : L2.St} {S H : Hp} (r : Rep K mg env S σ H) {a : Addr} {o : HO} (h1 : S a = none) (h2 : ¬ Own env σ a) (h3 : H a = some o) : Rep K mg env (upd S a o) σ H where
  sub := fun b u e => by
    by_cases q : b = a
    · subst q; rw [upd_same] at e; rw [h3]; exact e
    · rw [upd_ne q] at e; exact r.sub b u e
  len := r.len
  sh := fun i d e => let ⟨v, q1, q2⟩ := r.sh i d e; ⟨v, q1, q2.mono (Le.upd_new h1)⟩
  ow := fun i k ds e => by
    obtain ⟨b, xs, q1, q2, q3, q4⟩ := r.ow i k ds e
    have q : b ≠ a := fun z => h2 ⟨i, k, ds, e, by rw [← z]; exact q1⟩
    exact ⟨b, xs, q1, by rw [upd_ne q]; exact q2, q3, q4.mono (Le.upd_new h1)⟩
  inj := r.inj
theorem Stp.share {env env' : List Sl} {σ σ' : L2.St} {S H S' H' : Hp} (st : Stp env σ S H env' σ' S' H') {a : Addr} {o : HO} (h0 : H a = none) (h1 : S' a = none) : Stp env σ S H env' σ' (upd S' a o) H' where
  up := st.up.trans (Le.upd_new h1)
  new := fun b u e => by
    by_cases q : b = a
    · subst q; exact .inr (.inl h0)
    · rw [upd_ne q] at e; exact st.new b u e
  keep := st.keep
  own := st.own
  there := st.there
  fix := st.fix
  len := st.len
theorem se_frz {h : EV (List D)} (hq : SO g G e h) : SE g G e (eFrz h) := fun X W gd tk =>
  PE.weak (hq X W gd tk) fun σ H Q ⟨env, S, rep, q⟩ => ⟨env, S, rep, by
    obtain ⟨r, e1, q⟩ := q
    unfold eFrz bnd at e1
    cases z : h env with
    | none => rw [z] at e1; cases e1
    | some r1 =>
      rw [z] at e1
      refine ⟨r1, z, ?_⟩
      cases r1 with
      | ex c fs env1 => cases e1; exact q
      | ok ds env1 =>
        cases e1
        exact fun S1 H1 st rep1 a xs n0 n1 n2 hl ra => q _ _ (st.share n0 n1) (rep1.share n1 n2 hl) _ (.lst upd_same (ra.mono (Le.upd_new n1)))⟩
/-! ### x[i] -/
def atD : D → D → Option D
  | .lst ds, .int i => atI ds i
  | .tup ds, .int i => atI ds i
  | .str z, .int i => if z.length ≤ sizeLine then (atI z.cps.toList i).map fun c => .str ⟨#[c]⟩ else none
  | _, _ => none
theorem RpA.atI {K : PySem.W.Frag} {mg : Str → Option Value} {S : Hp} {vs : List V} {ds : List D} {i : Int} {d : D} (r : RpA K mg S vs ds) (e : atI ds i = some d) : ∃ v, L2.atI vs i = some v ∧ Rp K mg S v d := by
  unfold L2.atI at e ⊢
  rw [r.length]
  cases z : ixN ds.length i with
  | none => rw [z] at e; cases e
  | some j =>
    rw [z] at e
    obtain ⟨v, h1, h2⟩ := r.get (i := j) (d := d) (by simpa using e)
    exact ⟨v, by simpa using h1, h2⟩
def ixB (b : Expr) : Bool := match b with
  | .Slice .. => false
  | _ => true
theorem plainIx_of {b : Expr} (h : ixB b = true) : PlainIx b := by
  cases b <;> first | exact (fun _ _ => rfl) | cases h
theorem sqT_of {K : PySem.W.Frag} {S H : Hp} {a : Addr} {xs : List V} (h : Le S H) (r : SqT K S a xs) : SqT K H a xs := h.sqT r
theorem se_ix (ha : SE g G a f) (hb : SE g G b h) (hi : ixB b = true) : SE g G (.Subscript a b pos) (eBin atD f h) := fun X W gd tk => by
  refine PE.weak (pe_ix ix_seq (ha X W gd tk) (hb X W gd tk) (plainIx_of hi)) (tOp_of fun env S σ H x y a b d Q rep rx ry e q => ?_)
  unfold atD at e
  split at e
  · cases rx with
    | lst hs hr =>
      cases ry
      obtain ⟨v, h1, h2⟩ := hr.atI e
      exact .inl ⟨_, _, _, v, rfl, rfl, SqL.of (rep.sub _ _ hs), h1, q S H Stp.refl rep v h2⟩
  · cases rx with
    | tup hs hr =>
      cases ry
      obtain ⟨v, h1, h2⟩ := hr.atI e
      exact .inr (.inl ⟨_, _, _, v, rfl, rfl, by rw [gd.hK]; exact rep.sub.sqT hs, h1, q S H Stp.refl rep v h2⟩)
  · cases rx
    cases ry
    split at e
    · rename_i z i hz
      cases z2 : L2.atI z.cps.toList i with
      | none => rw [z2] at e; cases e
      | some c =>
        rw [z2] at e
        cases e
        exact .inr (.inr ⟨_, _, c, rfl, rfl, hz, z2, q S H Stp.refl rep _ (.str _)⟩)
    · cases e
  · cases e
/-- the data of a known slot -/
def slD : Sl → Option D
  | .un => none
  | .sh d => some d
  | .ow _ ds => some (.lst ds)
/-- a slot's data, nothing is shared by it -/
def rdV (i : Nat) : EV D := fun env => match env[i]?.bind slD with
  | none => none
  | some d => some (.ok d env)
theorem Run.rd {K : PySem.W.Frag} {mg : Str → Option Value} {W : WX} {σ : L2.St} {env : List Sl} {S H : Hp} {i : Nat} {P : D → List Sl → Hp → Hp → Prop} (h : Run K mg W (rdV i) σ env S H P) (rep : Rep K mg env S σ H) :
    ∃ d, env[i]?.bind slD = some d ∧ P d env S H := by
  obtain ⟨r, e, q⟩ := h
  unfold rdV at e
  cases z : env[i]?.bind slD with
  | none => rw [z] at e; cases e
  | some d => rw [z] at e; cases e; exact ⟨d, rfl, q S H Stp.refl rep⟩
/-- x[i], x a name; a list that is the frame's own stays so -/
def eIxV (i : Nat) (h : EV D) : EV D := bnd (rdV i) fun _ => bnd h fun j => bnd (rdV i) fun d0 => lift (atD d0 j)
theorem Rep.slot {K : PySem.W.Frag} {mg : Str → Option Value} {env : List Sl} {σ : L2.St} {S H : Hp} {i : Nat} {d : D} (rep : Rep K mg env S σ H) (e : env[i]?.bind slD = some d) :
    ∃ v, σ[i]? = some (some v) ∧ ((env[i]? = some (.sh d) ∧ Rp K mg S v d) ∨ ∃ a xs ds k, v = .ref a ∧ d = .lst ds ∧ env[i]? = some (.ow k ds) ∧ S a = none ∧ H a = some (.lst xs) ∧ RpA K mg S xs ds) := by
  cases z : env[i]? with
  | none => rw [z] at e; cases e
  | some sl =>
    rw [z] at e
    cases sl with
    | un => cases e
    | sh d1 => cases e; obtain ⟨v, h1, h2⟩ := rep.sh i d z; exact ⟨v, h1, .inl ⟨rfl, h2⟩⟩
    | ow k ds => cases e; obtain ⟨a, xs, h1, h2, h3, h4⟩ := rep.ow i k ds z; exact ⟨_, h1, .inr ⟨a, xs, ds, k, rfl, rfl, rfl, h2, h3, h4⟩⟩
/-- reading a slot by its place, the list not shared -/
theorem rIx_of {K : PySem.W.Frag} {mg : Str → Option Value} {S H : Hp} {x y : V} {d0 j d : D} {Q : VK} (sub : Le S H) (hx : Rp K mg S x d0 ∨ ∃ a xs ds, x = .ref a ∧ d0 = .lst ds ∧ H a = some (.lst xs) ∧ RpA K mg S xs ds) (ry : Rp K mg S y j) (e : atD d0 j = some d)
    (q : ∀ v, Rp K mg S v d → Q v H) : rIx K x y H Q := by
  rcases hx with rx | ⟨a, xs, ds, rfl, rfl, h3, h4⟩
  · unfold atD at e
    split at e
    · cases rx with
      | lst hs hr =>
        cases ry
        obtain ⟨v, h1, h2⟩ := hr.atI e
        exact .inl ⟨_, _, _, v, rfl, rfl, SqL.of (sub _ _ hs), h1, q v h2⟩
    · cases rx with
      | tup hs hr =>
        cases ry
        obtain ⟨v, h1, h2⟩ := hr.atI e
        exact .inr (.inl ⟨_, _, _, v, rfl, rfl, sub.sqT hs, h1, q v h2⟩)
    · cases rx
      cases ry
      split at e
      · rename_i z i hz
        cases z2 : L2.atI z.cps.toList i with
        | none => rw [z2] at e; cases e
        | some c =>
          rw [z2] at e
          cases e
          exact .inr (.inr ⟨_, _, c, rfl, rfl, hz, z2, q _ (.str _)⟩)
      · cases e
    · cases e
  · cases j with
    | int i =>
      cases ry
      obtain ⟨v, h1, h2⟩ := h4.atI (i := i) (d := d) e
      exact .inl ⟨_, _, _, v, rfl, rfl, SqL.of h3, h1, q v h2⟩
    | _ => cases e
theorem se_ixV {i : Nat} {x : Str} {pos' : Pos} (hx : varB G i x = true) (hb : SE g G b h) (hi : ixB b = true) : SE g G (.Subscript (.Name x pos') b pos) (eIxV i h) := fun X W gd tk => by
  unfold varB at hx
  simp only [Bool.and_eq_true, decide_eq_true_eq] at hx
  have pv := pe_var (X := X) (i := i) (x := x) (pos := pos') (by rw [gd.hN]; exact hx.1.1) (by rw [gd.hs]; exact vis_of hx.1.2) (nameOk_1 hx.2).1 (nameOk_1 hx.2).2.1
  refine PE.weak (pe_ix ix_seq pv (hb X W gd tk) (plainIx_of hi)) fun σ H Q ⟨env, S, rep, q⟩ => ?_
  obtain ⟨d0, z0, q⟩ := q.then.rd rep
  obtain ⟨v, hv, _⟩ := rep.slot z0
  refine ⟨v, hv, env, S, rep, q.then.imp fun j env1 S1 H1 st1 rep1 q1 y ry => ?_⟩
  obtain ⟨d1, z1, q1⟩ := q1.then.rd rep1
  obtain ⟨v1, hv1, hc⟩ := rep1.slot z1
  rw [hv] at hv1; cases hv1
  obtain ⟨d, e2, q2⟩ := q1.lift
  rw [gd.hK]
  refine rIx_of rep1.sub ?_ ry e2 fun u ru => q2 S1 H1 Stp.refl rep1 u ru
  rcases hc with ⟨_, h2⟩ | ⟨a, xs, ds, _, h1, h2, _, _, h3, h4⟩
  · exact .inl h2
  · exact .inr ⟨a, xs, ds, h1, h2, h3, h4⟩
/-! ### slices -/
/-- a slice's parts, as far as they are told -/
def pNone : EV (Option Int) := ret none
def pSome (f : EV D) : EV (Option Int) := bnd f fun d => match d with
  | .int i => ret (some i)
  | _ => stuck
def tP (K : PySem.W.Frag) (mg : Str → Option Value) (W : WX) (f : EV (Option Int)) : TO := fun σ H Q => ∃ env S, Rep K mg env S σ H ∧ Run K mg W f σ env S H fun o _ _ H' => Q o H'
def SP (g : Gr) (G : Ctx) (e : Option Expr) (f : EV (Option Int)) : Prop := ∀ X W, Good g G X → Takes X W → PO X e (tP g.K g.mg W f)
theorem PO.weak {X : Cx} {e : Option Expr} {t t' : TO} (h : PO X e t) (k : ∀ σ H Q, t' σ H Q → t σ H Q) : PO X e t' := ⟨fun pins s σ H Q I q => h.run pins s σ H Q I (k σ H Q q)⟩
theorem sp_none : SP g G none pNone := fun X W gd tk => PO.weak po_none fun σ H Q ⟨env, S, rep, q⟩ => q.ret rep
theorem sp_some (ha : SE g G a f) : SP g G (some a) (pSome f) := fun X W gd tk => PO.weak (po_some (ha X W gd tk)) fun σ H Q ⟨env, S, rep, q⟩ => ⟨env, S, rep, q.then.imp fun d env1 S1 H1 st1 rep1 q1 v rv => by
    cases rv with
    | int i => exact ⟨i, rfl, q1.ret rep1⟩
    | _ => exact q1.noStuck.elim⟩
/-- the items of xs[lo:hi] -/
def cutD {α : Type} (xs : List α) (lo hi : Option Int) : List α := (xs.drop (HT.sIx xs.length 0 lo)).take (HT.sIx xs.length xs.length hi - HT.sIx xs.length 0 lo)
theorem RpA.cut {K : PySem.W.Frag} {mg : Str → Option Value} {S : Hp} {vs : List V} {ds : List D} (r : RpA K mg S vs ds) (lo hi : Option Int) : RpA K mg S (cutV vs lo hi) (cutD ds lo hi) := by
  unfold cutV cutD
  rw [r.length]
  exact (r.drop _).take _
theorem cutD_whole {α : Type} (xs : List α) (lo hi : Option Int) (h1 : HT.sIx xs.length 0 lo = 0) (h2 : HT.sIx xs.length xs.length hi = xs.length) : cutD xs lo hi = xs := by
  unfold cutD; rw [h1, h2]; simp
def slcD (d : D) (lo hi : Option Int) : Option D := match d with
  | .lst ds => some (.lst (cutD ds lo hi))
  | .tup ds => some (.tup (cutD ds lo hi))
  | _ => none
def eSl (f : EV D) (l u : EV (Option Int)) : EV D := bnd f fun d => bnd l fun lo => bnd u fun hi => lift (slcD d lo hi)
theorem se_slice {lo hi : Option Expr} {l u : EV (Option Int)} {p2 : Pos} (ha : SE g G a f) (hl : SP g G lo l) (hu : SP g G hi u) : SE g G (.Subscript a (.Slice lo hi none p2) pos) (eSl f l u) := fun X W gd tk => by
  refine PE.weak (pe_slice (SlR.or sl_list sl_tupA) (ha X W gd tk) (hl X W gd tk) (hu X W gd tk)) fun σ H Q ⟨env, S, rep, q⟩ => ?_
  refine ⟨env, S, rep, q.then.imp fun d env1 S1 H1 st1 rep1 q1 v rv => ?_⟩
  refine ⟨env1, S1, rep1, q1.then.imp fun lo env2 S2 H2 st2 rep2 q2 => ?_⟩
  refine ⟨env2, S2, rep2, q2.then.imp fun hi env3 S3 H3 st3 rep3 q3 => ?_⟩
  obtain ⟨d2, e2, q4⟩ := q3.lift
  have rv3 := (rv.mono st2.up).mono st3.up
  cases rv3 with
  | lst hs hr =>
    cases e2
    refine .inl ⟨_, _, rfl, SqL.of (rep3.sub _ _ hs), fun p hp => ?_⟩
    exact q4 _ _ (rep3.layStp hp) (rep3.lay hp) _ (.lst upd_same ((hr.cut lo hi).mono (Le.upd_new (rep3.free hp))))
  | tup hs hr =>
    cases e2
    have hq := rep3.sub.sqT hs
    rw [← gd.hK] at hq
    refine .inr ⟨_, _, rfl, hq, ?_, ?_⟩
    · rintro ⟨w1, w2⟩
      refine q4 _ _ Stp.refl rep3 _ (.tup hs ?_)
      rw [hr.length] at w1 w2
      rw [cutD_whole _ _ _ w1 w2]
      exact hr
    · intro _ p hp
      exact q4 _ _ (rep3.layStp hp) (rep3.lay hp) _ (.tup (SqT.of upd_same) ((hr.cut lo hi).mono (Le.upd_new (rep3.free hp))))
  | _ => cases e2
end
end G3

/-! G3e: operators on data. -/
namespace G3
open PySem PySem.Spec PyProof.Rows L2
/-! ### data as the library's data -/
mutual
def D.py : D → PyData
  | .non => .none
  | .bl b => .bool b
  | .int i => .int i
  | .str s => .str s
  | .lst xs => .list (pys xs)
  | .tup xs => .tuple (pys xs)
  | .scr _ => .none
  | .dct _ _ => .none
  | .obj _ _ _ => .none
def pys : List D → List PyData
  | [] => []
  | x :: xs => x.py :: pys xs
end
mutual
/-- None, bools, ints, texts, lists and tuples of such -/
def D.pure : D → Bool
  | .non => true
  | .bl _ => true
  | .int _ => true
  | .str _ => true
  | .lst xs => pures xs
  | .tup xs => pures xs
  | .scr _ => false
  | .dct _ _ => false
  | .obj _ _ _ => false
def pures : List D → Bool
  | [] => true
  | x :: xs => x.pure && pures xs
end
section
variable {K : PySem.W.Frag} {mg : Str → Option Value} {S H : Hp}
mutual
theorem Rp.dp (h : Le S H) : ∀ {v : V} {d : D}, Rp K mg S v d → d.pure = true → Dp K H v d.py
  | _, _, .non, _ => .non
  | _, _, .bl b, _ => .bl b
  | _, _, .int i, _ => .int i
  | _, _, .str x, _ => .str x
  | _, _, .lst a b, p => .lst (SqL.of (h _ _ a)) (RpA.dp h b p)
  | _, _, .tup a b, p => .tup (h.sqT a) (RpA.dp h b p)
  | _, _, .scr _, p => nomatch p
  | _, _, .dK _ _ _, p => nomatch p
  | _, _, .dT _ _ _, p => nomatch p
  | _, _, .obj _ _ _ _, p => nomatch p
theorem RpA.dp (h : Le S H) : ∀ {vs : List V} {ds : List D}, RpA K mg S vs ds → pures ds = true → DpAll K H vs (pys ds)
  | _, _, .nil, _ => .nil
  | _, _, .cons a b, p => .cons (Rp.dp h a (Bool.and_eq_true_iff.mp p).1) (RpA.dp h b (Bool.and_eq_true_iff.mp p).2)
end
end
def okD (d : D) : Bool := d.pure && SeqAt.shaped d.py
def eqv (a b : D) : Bool := PyData.eqv a.py b.py

/-! ### what the operators give -/
def mulOk (i j : Int) : Bool := !(decide (Builtin.Int.intBits i > shortFactorBits) && decide (Builtin.Int.intBits j > shortFactorBits) && Builtin.Int.intTooBig (Builtin.Int.intBits i + Builtin.Int.intBits j))
def divOk (i j : Int) : Bool := decide (j ≠ 0) && !Builtin.divisionGoesByPylong i j
def powOk (i j : Int) : Bool := decide (0 ≤ j) && decide (j ≤ 1000000) && decide (i.natAbs < 2 ^ 64)
def oAdd : D → D → Option D
  | .int i, .int j => some (.int (i + j))
  | .str x, .str y => if x.length + y.length ≤ sizeLine then some (.str (x ++ y)) else none
  | .tup xs, .tup ys => if xs.length + ys.length ≤ sizeLine then some (.tup (xs ++ ys)) else none
  | .lst xs, .lst ys => if xs.length + ys.length ≤ sizeLine then some (.lst (xs ++ ys)) else none
  | _, _ => none
def oSub : D → D → Option D
  | .int i, .int j => some (.int (i - j))
  | _, _ => none
def oMul : D → D → Option D
  | .int i, .int j => if mulOk i j = true then some (.int (i * j)) else none
  | .tup xs, .int k => if xs ≠ [] ∧ 2 ≤ k ∧ k ≤ 1000 ∧ xs.length ≤ 1000 then some (.tup (List.replicate k.toNat xs).flatten) else none
  | .lst xs, .int k => if -(2 ^ 63) ≤ k ∧ k < 2 ^ 63 ∧ xs.length * k.toNat ≤ sizeLine then some (.lst (List.replicate k.toNat xs).flatten) else none
  | _, _ => none
def oFdiv : D → D → Option D
  | .int i, .int j => if divOk i j = true then some (.int (i.fdiv j)) else none
  | _, _ => none
def oMod : D → D → Option D
  | .int i, .int j => if j ≠ 0 then some (.int (i.fmod j)) else none
  | _, _ => none
def oPow : D → D → Option D
  | .int i, .int j => if powOk i j = true then some (.int (i ^ j.toNat)) else none
  | _, _ => none
instance {xs : List D} {k : Int} : Decidable (xs ≠ [] ∧ 2 ≤ k ∧ k ≤ 1000 ∧ xs.length ≤ 1000) := by
  cases xs with
  | nil => exact isFalse fun h => h.1 rfl
  | cons x xs => exact decidable_of_iff (2 ≤ k ∧ k ≤ 1000 ∧ (x :: xs).length ≤ 1000) ⟨fun h => ⟨(fun z => nomatch z), h⟩, fun h => h.2⟩
def oEq (a b : D) : Option D := if okD a = true ∧ okD b = true then some (.bl (eqv a b)) else none
def oNe (a b : D) : Option D := if okD a = true ∧ okD b = true then some (.bl (!eqv a b)) else none
def oLt : D → D → Option D
  | .int i, .int j => some (.bl (decide (i < j)))
  | _, _ => none
def oLe : D → D → Option D
  | .int i, .int j => some (.bl (decide (i ≤ j)))
  | _, _ => none
def oGt : D → D → Option D
  | .int i, .int j => some (.bl (decide (j < i)))
  | _, _ => none
def oGe : D → D → Option D
  | .int i, .int j => some (.bl (decide (j ≤ i)))
  | _, _ => none
def flatD : D → Bool
  | .non => true
  | .bl _ => true
  | .int _ => true
  | .str _ => true
  | _ => false
def inD (x : D) (xs : List D) : Bool := xs.any fun y => eqv y x
def oIn : D → D → Option D
  | .str i, .str j => some (.bl (!(Builtin.Str.occurrences j i 0 j.length 1).isEmpty))
  | x, .tup ys => if flatD x = true ∧ ys.all flatD = true then some (.bl (inD x ys)) else none
  | x, .lst ys => if flatD x = true ∧ ys.all flatD = true then some (.bl (inD x ys)) else none
  | _, _ => none
def oNotIn : D → D → Option D
  | .str i, .str j => some (.bl (!(!(Builtin.Str.occurrences j i 0 j.length 1).isEmpty)))
  | x, .tup ys => if flatD x = true ∧ ys.all flatD = true then some (.bl (!inD x ys)) else none
  | x, .lst ys => if flatD x = true ∧ ys.all flatD = true then some (.bl (!inD x ys)) else none
  | _, _ => none
def isNon : D → Bool
  | .non => true
  | _ => false
def oIs : D → D → Option D
  | x, .non => some (.bl (isNon x))
  | _, _ => none
def oIsNot : D → D → Option D
  | x, .non => some (.bl (!isNon x))
  | _, _ => none
section
variable {g : Gr} {G : Ctx}
variable {K : PySem.W.Frag} {mg : Str → Option Value} {env : List Sl} {σ : L2.St} {S H : Hp}
/-- a new tuple as an answer -/
theorem fin_tup (rep : Rep K mg env S σ H) {p : Addr} (hp : H p = none) {vs : List V} {ds : List D} (r : RpA K mg S vs ds) {Q : VK}
    (q : ∀ S' H', Stp env σ S H env σ S' H' → Rep K mg env S' σ H' → ∀ v, Rp K mg S' v (.tup ds) → Q v H') : Q (.ref p) (upd H p (.tup vs)) :=
  q _ _ (rep.layStp hp) (rep.lay hp) _ (.tup (SqT.of upd_same) (r.mono (Le.upd_new (rep.free hp))))
theorem fin_lst (rep : Rep K mg env S σ H) {p : Addr} (hp : H p = none) {vs : List V} {ds : List D} (r : RpA K mg S vs ds) {Q : VK}
    (q : ∀ S' H', Stp env σ S H env σ S' H' → Rep K mg env S' σ H' → ∀ v, Rp K mg S' v (.lst ds) → Q v H') : Q (.ref p) (upd H p (.lst vs)) :=
  q _ _ (rep.layStp hp) (rep.lay hp) _ (.lst upd_same (r.mono (Le.upd_new (rep.free hp))))
theorem op_mulX {X : Cx} : OpR X (binaryOp .Mult) (rI (fun i j => mulOk i j = true) fun i j => .int (i * j)) := opI fun i j _ _ _ _ _ hc q => mul_int q (fun z => by unfold mulOk at hc; rw [z] at hc; cases hc)
theorem op_fdivX {X : Cx} : OpR X (binaryOp .FloorDiv) (rI (fun i j => divOk i j = true) fun i j => .int (i.fdiv j)) := opI fun i j _ _ _ _ _ hc q => by
  unfold divOk at hc
  simp only [Bool.and_eq_true, decide_eq_true_eq, Bool.not_eq_true'] at hc
  exact floordiv_int hc.1 q (.inl hc.2)
theorem ok_add : OpOk g G (binaryOp .Add) oAdd := fun X gd => by
  refine ⟨_, OpR.or (OpR.or op_add op_add_str) (OpR.or op_catA op_cat), fun env S σ H x y a b d Q rep rx ry e q => ?_⟩
  cases rx with
  | int i => cases ry with
    | int j => cases e; exact .inl (.inl ⟨i, j, rfl, rfl, q S H Stp.refl rep _ (.int _)⟩)
    | _ => cases e
  | str i => cases ry with
    | str j =>
      unfold oAdd at e; dsimp only at e
      split at e
      · cases e; exact .inl (.inr ⟨i, j, rfl, rfl, by assumption, q S H Stp.refl rep _ (.str _)⟩)
      · cases e
    | _ => cases e
  | tup hs hr => cases ry with
    | tup hs' hr' =>
      unfold oAdd at e; dsimp only at e
      split at e
      · rename_i hz
        cases e
        have h1 := rep.sub.sqT hs
        have h2 := rep.sub.sqT hs'
        rw [← gd.hK] at h1 h2
        refine .inr (.inl ⟨_, _, _, _, rfl, rfl, h1, h2, by rw [hr.length, hr'.length]; exact hz, fun z => ?_, fun z1 z => ?_, fun z1 z2 p hp => ?_⟩)
        · subst z; cases hr; exact q S H Stp.refl rep _ (.tup hs' hr')
        · subst z; cases hr'; rw [List.append_nil] at q; exact q S H Stp.refl rep _ (.tup hs hr)
        · exact fin_tup rep hp (hr.append hr') q
      · cases e
    | _ => cases e
  | lst hs hr => cases ry with
    | lst hs' hr' =>
      unfold oAdd at e; dsimp only at e
      split at e
      · rename_i hz
        cases e
        exact .inr (.inr ⟨_, _, _, _, rfl, rfl, rep.sub _ _ hs, rep.sub _ _ hs', by rw [hr.length, hr'.length]; exact hz, fun p hp => fin_lst rep hp (hr.append hr') q⟩)
      · cases e
    | _ => cases e
  | _ => cases e
theorem ok_sub : OpOk g G (binaryOp .Sub) oSub := fun X gd => ⟨_, op_sub, fun env S σ H x y a b d Q rep rx ry e q => by
  cases rx with
  | int i => cases ry with
    | int j => cases e; exact ⟨i, j, rfl, rfl, q S H Stp.refl rep _ (.int _)⟩
    | _ => cases e
  | _ => cases e⟩
theorem ok_mul : OpOk g G (binaryOp .Mult) oMul := fun X gd => by
  refine ⟨_, OpR.or op_mulX (OpR.or op_repT op_rep), fun env S σ H x y a b d Q rep rx ry e q => ?_⟩
  cases rx with
  | int i => cases ry with
    | int j =>
      unfold oMul at e; dsimp only at e
      split at e
      · cases e; exact .inl ⟨i, j, rfl, rfl, by assumption, q S H Stp.refl rep _ (.int _)⟩
      · cases e
    | _ => cases e
  | tup hs hr => cases ry with
    | int k =>
      unfold oMul at e; dsimp only at e
      split at e
      · rename_i hz
        cases e
        have h1 := rep.sub.sqT hs
        rw [← gd.hK] at h1
        refine .inr (.inl ⟨_, _, _, rfl, rfl, h1, fun z => ?_, hz.2.1, hz.2.2.1, by rw [hr.length]; exact hz.2.2.2, fun p hp => fin_tup rep hp (hr.rep _) q⟩)
        subst z; cases hr; exact hz.1 rfl
      · cases e
    | _ => cases e
  | lst hs hr => cases ry with
    | int k =>
      unfold oMul at e; dsimp only at e
      split at e
      · rename_i hz
        cases e
        exact .inr (.inr ⟨_, _, _, rfl, rfl, rep.sub _ _ hs, hz.1, hz.2.1, by rw [hr.length]; exact hz.2.2, fun p hp => fin_lst rep hp (hr.rep _) q⟩)
      · cases e
    | _ => cases e
  | _ => cases e
theorem ok_fdiv : OpOk g G (binaryOp .FloorDiv) oFdiv := fun X gd => ⟨_, op_fdivX, fun env S σ H x y a b d Q rep rx ry e q => by
  cases rx with
  | int i => cases ry with
    | int j =>
      unfold oFdiv at e; dsimp only at e
      split at e
      · cases e; exact ⟨i, j, rfl, rfl, by assumption, q S H Stp.refl rep _ (.int _)⟩
      · cases e
    | _ => cases e
  | _ => cases e⟩
theorem ok_mod : OpOk g G (binaryOp .Mod) oMod := fun X gd => ⟨_, op_modN, fun env S σ H x y a b d Q rep rx ry e q => by
  cases rx with
  | int i => cases ry with
    | int j =>
      unfold oMod at e; dsimp only at e
      split at e
      · cases e; exact ⟨i, j, rfl, rfl, by assumption, q S H Stp.refl rep _ (.int _)⟩
      · cases e
    | _ => cases e
  | _ => cases e⟩
theorem ok_pow : OpOk g G (binaryOp .Pow) oPow := fun X gd => ⟨_, op_pow, fun env S σ H x y a b d Q rep rx ry e q => by
  cases rx with
  | int i => cases ry with
    | int j =>
      unfold oPow at e; dsimp only at e
      split at e
      · rename_i hz
        cases e
        unfold powOk at hz
        simp only [Bool.and_eq_true, decide_eq_true_eq] at hz
        exact ⟨i, j, rfl, rfl, ⟨hz.1.1, hz.1.2, hz.2⟩, q S H Stp.refl rep _ (.int _)⟩
      · cases e
    | _ => cases e
  | _ => cases e⟩
theorem units_of {X : Cx} (gd : Good g G X) (hc : G.calm = true) : X.A.units + 64 < cLine := (gd.calm hc).2.units
theorem ok_eq (hc : G.calm = true) : OpOk g G (compareOp .Eq) oEq := fun X gd => ⟨_, op_eqD (units_of gd hc), fun env S σ H x y a b d Q rep rx ry e q => by
  unfold oEq at e
  split at e
  · rename_i hz
    cases e
    obtain ⟨h1, h2⟩ := hz
    unfold okD at h1 h2
    rw [Bool.and_eq_true] at h1 h2
    have r1 := rx.dp rep.sub h1.1
    have r2 := ry.dp rep.sub h2.1
    rw [← gd.hK] at r1 r2
    exact ⟨_, _, r1, r2, h1.2, h2.2, q S H Stp.refl rep _ (.bl _)⟩
  · cases e⟩
theorem ok_ne (hc : G.calm = true) : OpOk g G (compareOp .NotEq) oNe := fun X gd => ⟨_, op_neD (units_of gd hc), fun env S σ H x y a b d Q rep rx ry e q => by
  unfold oNe at e
  split at e
  · rename_i hz
    cases e
    obtain ⟨h1, h2⟩ := hz
    unfold okD at h1 h2
    rw [Bool.and_eq_true] at h1 h2
    have r1 := rx.dp rep.sub h1.1
    have r2 := ry.dp rep.sub h2.1
    rw [← gd.hK] at r1 r2
    exact ⟨_, _, r1, r2, h1.2, h2.2, q S H Stp.refl rep _ (.bl _)⟩
  · cases e⟩
theorem ok_lt : OpOk g G (compareOp .Lt) oLt := fun X gd => ⟨_, op_lt, fun env S σ H x y a b d Q rep rx ry e q => by
  cases rx with
  | int i => cases ry with
    | int j => cases e; exact ⟨i, j, rfl, rfl, q S H Stp.refl rep _ (.bl _)⟩
    | _ => cases e
  | _ => cases e⟩
theorem ok_le : OpOk g G (compareOp .LtE) oLe := fun X gd => ⟨_, op_le, fun env S σ H x y a b d Q rep rx ry e q => by
  cases rx with
  | int i => cases ry with
    | int j => cases e; exact ⟨i, j, rfl, rfl, q S H Stp.refl rep _ (.bl _)⟩
    | _ => cases e
  | _ => cases e⟩
theorem ok_gt : OpOk g G (compareOp .Gt) oGt := fun X gd => ⟨_, op_gt, fun env S σ H x y a b d Q rep rx ry e q => by
  cases rx with
  | int i => cases ry with
    | int j => cases e; exact ⟨i, j, rfl, rfl, q S H Stp.refl rep _ (.bl _)⟩
    | _ => cases e
  | _ => cases e⟩
theorem ok_ge : OpOk g G (compareOp .GtE) oGe := fun X gd => ⟨_, op_ge, fun env S σ H x y a b d Q rep rx ry e q => by
  cases rx with
  | int i => cases ry with
    | int j => cases e; exact ⟨i, j, rfl, rfl, q S H Stp.refl rep _ (.bl _)⟩
    | _ => cases e
  | _ => cases e⟩
theorem flat_of {v : V} {d : D} (r : Rp K mg S v d) (h : flatD d = true) : flatV v = true := by
  cases r <;> first | rfl | cases h
theorem flats_of : ∀ {vs : List V} {ds : List D}, RpA K mg S vs ds → ds.all flatD = true → vs.all flatV = true
  | _, _, .nil, _ => rfl
  | _, _, .cons a b, h => by
    rw [List.all_cons, Bool.and_eq_true] at h ⊢
    exact ⟨flat_of a h.1, flats_of b h.2⟩
theorem eqV_of {x y : V} {a b : D} (rx : Rp K mg S x a) (ry : Rp K mg S y b) (h1 : flatD a = true) (h2 : flatD b = true) : eqV x y = eqv a b := by
  cases rx <;> first | (cases h1; done) | (cases ry <;> first | (cases h2; done) | rfl)
theorem inV_of {x : V} {a : D} (rx : Rp K mg S x a) (h1 : flatD a = true) : ∀ {vs : List V} {ds : List D}, RpA K mg S vs ds → ds.all flatD = true → inV x vs = inD a ds
  | _, _, .nil, _ => rfl
  | _, _, .cons r b, h => by
    rw [List.all_cons, Bool.and_eq_true] at h
    have ih := inV_of rx h1 b h.2
    unfold inV inD at ih ⊢
    rw [List.any_cons, List.any_cons, ih, eqV_of r rx h.1 h1]
theorem ok_in : OpOk g G (compareOp .In) oIn := fun X gd => ⟨_, OpR.or op_in_str op_in_seq, fun env S σ H x y a b d Q rep rx ry e q => by
  unfold oIn at e
  split at e
  · cases rx; cases ry; cases e; exact .inl ⟨_, _, rfl, rfl, q S H Stp.refl rep _ (.bl _)⟩
  · cases ry with
    | tup hs hr =>
      split at e
      · rename_i hz
        cases e
        have h1 := rep.sub.sqT hs
        rw [← gd.hK] at h1
        refine .inr ⟨_, _, rfl, .inr h1, flat_of rx hz.1, flats_of hr hz.2, ?_⟩
        rw [if_neg Bool.false_ne_true, inV_of rx hz.1 hr hz.2]
        exact q S H Stp.refl rep _ (.bl _)
      · cases e
  · cases ry with
    | lst hs hr =>
      split at e
      · rename_i hz
        cases e
        refine .inr ⟨_, _, rfl, .inl (SqL.of (rep.sub _ _ hs)), flat_of rx hz.1, flats_of hr hz.2, ?_⟩
        rw [if_neg Bool.false_ne_true, inV_of rx hz.1 hr hz.2]
        exact q S H Stp.refl rep _ (.bl _)
      · cases e
  · cases e⟩
theorem ok_notIn : OpOk g G (compareOp .NotIn) oNotIn := fun X gd => ⟨_, OpR.or op_notin_str op_notIn_seq, fun env S σ H x y a b d Q rep rx ry e q => by
  unfold oNotIn at e
  split at e
  · cases rx; cases ry; cases e; exact .inl ⟨_, _, rfl, rfl, q S H Stp.refl rep _ (.bl _)⟩
  · cases ry with
    | tup hs hr =>
      split at e
      · rename_i hz
        cases e
        have h1 := rep.sub.sqT hs
        rw [← gd.hK] at h1
        refine .inr ⟨_, _, rfl, .inr h1, flat_of rx hz.1, flats_of hr hz.2, ?_⟩
        rw [if_pos rfl, inV_of rx hz.1 hr hz.2]
        exact q S H Stp.refl rep _ (.bl _)
      · cases e
  · cases ry with
    | lst hs hr =>
      split at e
      · rename_i hz
        cases e
        refine .inr ⟨_, _, rfl, .inl (SqL.of (rep.sub _ _ hs)), flat_of rx hz.1, flats_of hr hz.2, ?_⟩
        rw [if_pos rfl, inV_of rx hz.1 hr hz.2]
        exact q S H Stp.refl rep _ (.bl _)
      · cases e
  · cases e⟩
theorem isNon_of {x : V} {a : D} (rx : Rp K mg S x a) : decide (x = .non) = isNon a := by
  cases rx <;> first | rfl | exact decide_eq_false (fun z => nomatch z)
theorem ok_is : OpOk g G (compareOp .Is) oIs := fun X gd => ⟨_, op_isN, fun env S σ H x y a b d Q rep rx ry e q => by
  unfold oIs at e
  split at e
  · cases ry; cases e
    exact ⟨rfl, by rw [isNon_of rx]; exact q S H Stp.refl rep _ (.bl _)⟩
  · cases e⟩
theorem ok_isNot : OpOk g G (compareOp .IsNot) oIsNot := fun X gd => ⟨_, op_notN, fun env S σ H x y a b d Q rep rx ry e q => by
  unfold oIsNot at e
  split at e
  · cases ry; cases e
    exact ⟨rfl, by rw [isNon_of rx]; exact q S H Stp.refl rep _ (.bl _)⟩
  · cases e⟩
end
end G3

/-! G3f: targets, statements. -/
namespace G3
open PySem PySem.Spec PyProof.Rows L2
/-- how a statement ends -/
inductive Rt where
  | sh (d : D) | own (ds : List D)
inductive Fl where
  | nx | rt (r : Rt)
abbrev SV : Type := EV Fl
section
variable (K : PySem.W.Frag) (mg : Str → Option Value) (W : WX)
/-- a run that may change the slots -/
def RunS {α : Type} (f : EV α) (σ : L2.St) (env : List Sl) (S H : Hp) (P : α → List Sl → L2.St → Hp → Hp → Prop) : Prop :=
  ∃ r, f env = some r ∧ match r with
    | .ok a env' => ∀ σ' S' H', Stp env σ S H env' σ' S' H' → Rep K mg env' S' σ' H' → P a env' σ' S' H'
    | .ex c fs env' => ∀ cls dd σ' S' H', Stp env σ S H env' σ' S' H' → Rep K mg env' S' σ' H' → ExR K mg S' c fs cls dd → W cls dd σ' H'
/-- what is wanted behind a statement -/
def EndF (D' : Ends) (H : Hp) (fl : Fl) (env' : List Sl) (σ' : L2.St) (S' H' : Hp) : Prop := match fl with
  | .nx => D'.nx σ' H'
  | .rt (.sh d) => ∀ v, Rp K mg S' v d → D'.rt v H'
  | .rt (.own ds) => ∀ a xs, H a = none → S' a = none → H' a = some (.lst xs) → RpA K mg S' xs ds → ¬ Own env' σ' a → D'.rt (.ref a) H'
def tS (f : SV) : TS := fun D' σ H => ∃ env S, Rep K mg env S σ H ∧ RunS K mg W f σ env S H fun fl env' σ' S' H' => EndF K mg D' H fl env' σ' S' H'
end
section
variable {K : PySem.W.Frag} {mg : Str → Option Value} {W : WX} {α β : Type} {σ : L2.St} {env : List Sl} {S H : Hp}
theorem RunS.then {f : EV α} {g : α → EV β} {P : β → List Sl → L2.St → Hp → Hp → Prop} (h : RunS K mg W (bnd f g) σ env S H P) :
    RunS K mg W f σ env S H fun a env1 σ1 S1 H1 => RunS K mg W (g a) σ1 env1 S1 H1 P := by
  obtain ⟨r, e, h⟩ := h
  unfold bnd at e
  cases q : f env with
  | none => rw [q] at e; cases e
  | some r1 =>
    rw [q] at e
    cases r1 with
    | ex c fs env1 => cases e; exact ⟨_, q, h⟩
    | ok a env1 =>
      refine ⟨_, q, fun σ1 S1 H1 st1 rep1 => ⟨r, e, ?_⟩⟩
      cases r with
      | ok b env2 => exact fun σ2 S2 H2 st2 rep2 => h σ2 S2 H2 (st1.trans st2) rep2
      | ex c fs env2 => exact fun cls dd σ2 S2 H2 st2 rep2 x => h cls dd σ2 S2 H2 (st1.trans st2) rep2 x
theorem RunS.imp {f : EV α} {P P' : α → List Sl → L2.St → Hp → Hp → Prop} (h : RunS K mg W f σ env S H P) (k : ∀ a env1 σ1 S1 H1, Stp env σ S H env1 σ1 S1 H1 → Rep K mg env1 S1 σ1 H1 → P a env1 σ1 S1 H1 → P' a env1 σ1 S1 H1) : RunS K mg W f σ env S H P' := by
  obtain ⟨r, e, h⟩ := h
  refine ⟨r, e, ?_⟩
  cases r with
  | ok a env1 => exact fun σ1 S1 H1 st rep => k a env1 σ1 S1 H1 st rep (h σ1 S1 H1 st rep)
  | ex c fs env1 => exact h
/-- the slots' values are as they were -/
theorem RunS.run {f : EV α} {P : α → List Sl → L2.St → Hp → Hp → Prop} (h : RunS K mg W f σ env S H P) : Run K mg W f σ env S H fun a env' S' H' => P a env' σ S' H' := by
  obtain ⟨r, e, h⟩ := h
  refine ⟨r, e, ?_⟩
  cases r with
  | ok a env1 => exact fun S1 H1 st rep => h σ S1 H1 st rep
  | ex c fs env1 => exact fun cls dd S1 H1 st rep x => h cls dd σ S1 H1 st rep x
theorem RunS.ret {a : α} {P : α → List Sl → L2.St → Hp → Hp → Prop} (h : RunS K mg W (G3.ret a) σ env S H P) (rep : Rep K mg env S σ H) : P a env σ S H := by
  obtain ⟨r, e, h⟩ := h
  cases e
  exact h σ S H Stp.refl rep
theorem RunS.noStuck {P : α → List Sl → L2.St → Hp → Hp → Prop} (h : RunS K mg W (G3.stuck) σ env S H P) : False := by
  obtain ⟨r, e, h⟩ := h; cases e
/-- a step that gives new slots, no exception -/
def put (t : List Sl → Option (List Sl)) : EV Unit := fun env => match t env with
  | some env' => some (.ok () env')
  | none => none
theorem RunS.put {t : List Sl → Option (List Sl)} {P : Unit → List Sl → L2.St → Hp → Hp → Prop} (h : RunS K mg W (G3.put t) σ env S H P) :
    ∃ env', t env = some env' ∧ ∀ σ' S' H', Stp env σ S H env' σ' S' H' → Rep K mg env' S' σ' H' → P () env' σ' S' H' := by
  obtain ⟨r, e, h⟩ := h
  unfold G3.put at e
  cases z : t env with
  | none => rw [z] at e; cases e
  | some env' => rw [z] at e; cases e; exact ⟨env', rfl, h⟩
end
section
variable (g : Gr) (G : Ctx)
def SS (st : Stmt) (f : SV) : Prop := ∀ X W, Good g G X → Takes X W → PS X st (tS g.K g.mg W f)
def SSs (st : List Stmt) (f : SV) : Prop := ∀ X W, Good g G X → Takes X W → PSs X st (tS g.K g.mg W f)
def tGn (K : PySem.W.Frag) (mg : Str → Option Value) (T : D → List Sl → Option (List Sl)) (vs : List Nat) : TG := fun v σ H Q => ∃ env S d env', Rep K mg env S σ H ∧ Rp K mg S v d ∧ T d env = some env' ∧
  ∀ σ', Rep K mg env' S σ' H → Stp env σ S H env' σ' S H → wipe σ' vs = wipe σ vs → Q σ' H
/-- a target of names: vs the slots that are stored -/
def SG (tg : Expr) (T : D → List Sl → Option (List Sl)) (vs : List Nat) : Prop := ∀ X, Good g G X → PG X tg (tGn g.K g.mg T vs)
def SGs (tg : List Expr) (T : List D → List Sl → Option (List Sl)) (vs : List Nat) : Prop := ∀ X, Good g G X → PGs X tg fun us σ H Q => ∃ env S ds env', Rep g.K g.mg env S σ H ∧ RpA g.K g.mg S us ds ∧ T ds env = some env' ∧
  ∀ σ', Rep g.K g.mg env' S σ' H → Stp env σ S H env' σ' S H → wipe σ' vs = wipe σ vs → Q σ' H
end
section
variable {g : Gr} {G : Ctx}
theorem PG.weak {X : Cx} {tg : Expr} {t t' : TG} (h : PG X tg t) (k : ∀ v σ H Q, t' v σ H Q → t v σ H Q) : PG X tg t' := ⟨fun pins s σ H v u Q I r q => h.run pins s σ H v u Q I r (k v σ H Q q)⟩
theorem PGs.weak {X : Cx} {tg : List Expr} {t t' : TGs} (h : PGs X tg t) (k : ∀ v σ H Q, t' v σ H Q → t v σ H Q) : PGs X tg t' := ⟨fun pins s σ H v u Q I r q => h.run pins s σ H v u Q I r (k v σ H Q q)⟩
/-! ### storing into a slot -/
def stSl (i : Nat) (sl : Sl) (env : List Sl) : Option (List Sl) := match env[i]? with
  | none => none
  | some (.ow true _) => none
  | some _ => some (env.set i sl)
theorem stSl_some {i : Nat} {sl : Sl} {env env' : List Sl} (h : stSl i sl env = some env') : env' = env.set i sl ∧ i < env.length ∧ ∀ ds, env[i]? ≠ some (.ow true ds) := by
  unfold stSl at h
  cases z : env[i]? with
  | none => rw [z] at h; cases h
  | some s0 =>
    rw [z] at h
    have hi := (List.getElem?_eq_some_iff.mp z).1
    cases s0 with
    | un => cases h; exact ⟨rfl, hi, fun ds q => nomatch q⟩
    | sh d => cases h; exact ⟨rfl, hi, fun ds q => nomatch q⟩
    | ow k ds =>
      cases k with
      | true => cases h
      | false => cases h; exact ⟨rfl, hi, fun ds q => nomatch q⟩
variable {K : PySem.W.Frag} {mg : Str → Option Value} {env env' : List Sl} {σ : L2.St} {S H : Hp}
/-- what other slots hold is as it was -/
theorem set_other {α : Type} {l : List α} {i j : Nat} {x y : α} (h : (l.set i x)[j]? = some y) (n : x ≠ y) : i ≠ j ∧ l[j]? = some y := by
  by_cases z : i = j
  · subst z
    have hi : i < l.length := by
      have := (List.getElem?_eq_some_iff.mp h).1
      simpa using this
    rw [List.getElem?_set_self hi] at h
    exact absurd (Option.some.inj h) n
  · rw [List.getElem?_set_ne z] at h; exact ⟨z, h⟩
theorem wipe_set {i : Nat} {x : Option V} : ∀ {vs : List Nat} {σ : L2.St}, i ∈ vs → wipe (σ.set i x) vs = wipe σ vs
  | v :: vs, σ, h => by
    show (wipe (σ.set i x) vs).set v none = (wipe σ vs).set v none
    by_cases z : i ∈ vs
    · rw [wipe_set z]
    · have e : v = i := by
        rcases List.mem_cons.mp h with q | q
        · exact q.symm
        · exact absurd q z
      subst e
      have key : ∀ (us : List Nat) (τ : L2.St), wipe (τ.set v x) us = (wipe τ us).set v (if v ∈ us then none else x) := by
        intro us
        induction us with
        | nil => intro τ; simp [wipe]
        | cons u us ih =>
          intro τ
          show (wipe (τ.set v x) us).set u none = ((wipe τ us).set u none).set v _
          rw [ih]
          by_cases q : u = v
          · subst q; simp
          · rw [List.set_comm _ _ (Ne.symm q)]
            have e2 : (if v ∈ u :: us then (none : Option V) else x) = (if v ∈ us then none else x) := by
              have : (v ∈ u :: us) ↔ v ∈ us := by simp [Ne.symm q]
              simp [this]
            rw [e2]
      rw [key]
      simp
theorem Rep.store (r : Rep K mg env S σ H) {i : Nat} {v : V} {d : D} (h : stSl i (.sh d) env = some env') (rv : Rp K mg S v d) : Rep K mg env' S (σ.set i (some v)) H ∧ Stp env σ S H env' (σ.set i (some v)) S H := by
  obtain ⟨rfl, hi, nk⟩ := stSl_some h
  have hσ : i < σ.length := by rw [← r.len]; exact hi
  have oth : ∀ {j k es}, (env.set i (.sh d))[j]? = some (Sl.ow k es) → i ≠ j ∧ env[j]? = some (.ow k es) := fun q => set_other q (fun z => nomatch z)
  refine ⟨⟨r.sub, by simpa using r.len, fun j e q => ?_, fun j k es q => ?_, fun j l k k' es fs b q1 q2 q3 q4 => ?_⟩, ⟨Le.refl _, fun _ _ h => .inl h, fun _ _ h _ => h, fun b ⟨j, k, es, q1, q2⟩ => ?_, fun _ o h => ⟨o, h⟩, fun j es q => ?_, by simp⟩⟩
  · by_cases z : i = j
    · subst z
      rw [List.getElem?_set_self hi] at q
      cases q
      exact ⟨v, List.getElem?_set_self hσ, rv⟩
    · rw [List.getElem?_set_ne z] at q ⊢
      exact r.sh j e q
  · obtain ⟨z, q⟩ := oth q
    rw [List.getElem?_set_ne z]
    exact r.ow j k es q
  · obtain ⟨z1, q1⟩ := oth q1
    obtain ⟨z2, q2⟩ := oth q2
    rw [List.getElem?_set_ne z1] at q3
    rw [List.getElem?_set_ne z2] at q4
    exact r.inj j l k k' es fs b q1 q2 q3 q4
  · obtain ⟨z, q1⟩ := oth q1
    rw [List.getElem?_set_ne z] at q2
    exact .inl ⟨j, k, es, q1, q2⟩
  · have z : i ≠ j := fun z => nk es (by rw [z]; exact q)
    exact ⟨List.getElem?_set_ne z, es, by rw [List.getElem?_set_ne z]; exact q⟩
/-- a new list, nobody else's -/
theorem Rep.storeO (r : Rep K mg env S σ H) {i : Nat} {a : Addr} {xs : List V} {ds : List D} (h : stSl i (.ow false ds) env = some env') (n1 : S a = none) (n2 : ¬ Own env σ a) (n3 : H a = some (.lst xs)) (ra : RpA K mg S xs ds) : Rep K mg env' S (σ.set i (some (.ref a))) H := by
  obtain ⟨rfl, hi, nk⟩ := stSl_some h
  have hσ : i < σ.length := by rw [← r.len]; exact hi
  refine ⟨r.sub, by simpa using r.len, fun j e q => ?_, fun j k es q => ?_, fun j l k k' es fs b q1 q2 q3 q4 => ?_⟩
  · obtain ⟨z, q⟩ := set_other q (fun z => nomatch z)
    rw [List.getElem?_set_ne z]
    exact r.sh j e q
  · by_cases z : i = j
    · subst z
      rw [List.getElem?_set_self hi] at q
      cases q
      exact ⟨a, xs, List.getElem?_set_self hσ, n1, n3, ra⟩
    · rw [List.getElem?_set_ne z] at q ⊢
      exact r.ow j k es q
  · by_cases z1 : i = j
    · by_cases z2 : i = l
      · rw [← z1, ← z2]
      · subst z1
        rw [List.getElem?_set_self hσ] at q3
        cases q3
        rw [List.getElem?_set_ne z2] at q2 q4
        exact absurd ⟨l, k', fs, q2, q4⟩ n2
    · by_cases z2 : i = l
      · subst z2
        rw [List.getElem?_set_self hσ] at q4
        cases q4
        rw [List.getElem?_set_ne z1] at q1 q3
        exact absurd ⟨j, k, es, q1, q3⟩ n2
      · rw [List.getElem?_set_ne z1] at q1 q3
        rw [List.getElem?_set_ne z2] at q2 q4
        exact r.inj j l k k' es fs b q1 q2 q3 q4
theorem Rep.storeOStp (r : Rep K mg env S σ H) {i : Nat} {a : Addr} {ds : List D} {env0 : List Sl} {σ0 : L2.St} {S0 H0 : Hp} (st : Stp env0 σ0 S0 H0 env σ S H) (h : stSl i (.ow false ds) env = some env') (n0 : H0 a = none) : Stp env0 σ0 S0 H0 env' (σ.set i (some (.ref a))) S H := by
  obtain ⟨rfl, hi, nk⟩ := stSl_some h
  have hσ : i < σ.length := by rw [← r.len]; exact hi
  refine ⟨st.up, st.new, st.keep, fun b ⟨j, k, es, q1, q2⟩ => ?_, st.there, fun j es q => ?_, by rw [List.length_set]; exact st.len⟩
  · by_cases z : i = j
    · subst z
      rw [List.getElem?_set_self hσ] at q2
      cases q2
      exact .inr n0
    · rw [List.getElem?_set_ne z] at q1 q2
      exact st.own b ⟨j, k, es, q1, q2⟩
  · obtain ⟨e1, ds', e2⟩ := st.fix j es q
    have z : i ≠ j := fun z => nk ds' (by rw [z]; exact e2)
    exact ⟨by rw [List.getElem?_set_ne z]; exact e1, ds', by rw [List.getElem?_set_ne z]; exact e2⟩
/-! ### targets of names -/
def tgName (i : Nat) (d : D) (env : List Sl) : Option (List Sl) := stSl i (.sh d) env
def locB (sc : Scope) (x : Str) : Bool := match sc.names.lookup x with
  | some .local => true
  | some .cell => true
  | _ => false
theorem loc_of {sc : Scope} {x : Str} (h : locB sc x = true) : L2.Loc sc x := by
  unfold locB at h
  unfold L2.Loc
  split at h
  · exact .inl (by assumption)
  · exact .inr (by assumption)
  · cases h
/-- x may be stored at the slot i -/
def isLocal (sc : Scope) (x : Str) : Bool := match sc.names.lookup x with
  | some .local => true
  | _ => false
theorem isLocal_of {sc : Scope} {x : Str} (h : isLocal sc x = true) : sc.names.lookup x = some .local := by
  unfold isLocal at h
  split at h
  · assumption
  · cases h
def tgB (G : Ctx) (i : Nat) (x : Str) : Bool := decide (G.N.Nodup) && decide (G.N[i]? = some x) && locB G.sc x && (G.fn x || isLocal G.sc x)
theorem tgB_nd {i : Nat} {x : Str} (h : tgB G i x = true) : G.N.Nodup := by
  unfold tgB at h
  simp only [Bool.and_eq_true, decide_eq_true_eq] at h
  exact h.1.1.1
theorem tgB_at {i : Nat} {x : Str} (h : tgB G i x = true) : G.N[i]? = some x := by
  unfold tgB at h
  simp only [Bool.and_eq_true, decide_eq_true_eq] at h
  exact h.1.1.2
theorem tgB_loc {X : Cx} (gd : Good g G X) {i : Nat} {x : Str} (h : tgB G i x = true) : L2.Loc X.env.scope x := by
  unfold tgB at h
  simp only [Bool.and_eq_true, decide_eq_true_eq] at h
  rw [gd.hs]; exact loc_of h.1.2
theorem tgB_fn {X : Cx} (gd : Good g G X) {i : Nat} {x : Str} (h : tgB G i x = true) : X.fn x = true ∨ X.env.scope.names.lookup x = some .local := by
  unfold tgB at h
  simp only [Bool.and_eq_true, decide_eq_true_eq, Bool.or_eq_true] at h
  rcases h.2 with q | q
  · exact .inl (gd.fn x q)
  · right; rw [gd.hs]; exact isLocal_of q
theorem sg_name {i : Nat} {x : Str} {pos : Pos} (h : tgB G i x = true) {vs : List Nat} (hv : i ∈ vs) : SG g G (.Name x pos) (tgName i) vs := fun X gd =>
  PG.weak (pg_name (i := i) (by rw [gd.hN]; exact tgB_nd h) (by rw [gd.hN]; exact tgB_at h) (tgB_loc gd h) (tgB_fn gd h)) fun v σ H Q ⟨env, S, d, env', rep, rv, e, q⟩ => by
    obtain ⟨r1, r2⟩ := rep.store e rv
    exact q _ r1 r2 (wipe_set hv)
def tgNil (ds : List D) (env : List Sl) : Option (List Sl) := match ds with
  | [] => some env
  | _ => none
def tgCons (T : D → List Sl → Option (List Sl)) (U : List D → List Sl → Option (List Sl)) (ds : List D) (env : List Sl) : Option (List Sl) := match ds with
  | d :: r => (T d env).bind (U r)
  | [] => none
theorem sgs_nil {vs : List Nat} : SGs g G [] tgNil vs := fun X gd => PGs.weak pgs_nil fun us σ H Q ⟨env, S, ds, env', rep, ru, e, q⟩ => by
  cases ru with
  | nil => cases e; exact ⟨rfl, q σ rep Stp.refl rfl⟩
  | cons _ _ => cases e
theorem assignEach_star {e : Expr} {es : List Expr} {env : Env} (h : starB e = true) : (assignEach (e :: es) env).map (·.2) = assign e env :: (assignEach es env).map (·.2) := by
  cases e <;> first | rfl | cases h
theorem sgs_cons {e : Expr} {es : List Expr} {T : D → List Sl → Option (List Sl)} {U : List D → List Sl → Option (List Sl)} {vs : List Nat} (h1 : SG g G e T vs) (h2 : SGs g G es U vs) (hs : starB e = true) : SGs g G (e :: es) (tgCons T U) vs := fun X gd =>
  PGs.weak (pgs_cons (h1 X gd) (h2 X gd) (assignEach_star hs)) fun us σ H Q ⟨env, S, ds, env', rep, ru, e, q⟩ => by
    cases ru with
    | nil => cases e
    | @cons v vr d dr ra rb =>
      unfold tgCons at e
      dsimp only at e
      cases z : T d env with
      | none => rw [z] at e; cases e
      | some env1 =>
        rw [z] at e
        exact ⟨_, _, rfl, env, S, d, env1, rep, ra, z, fun σ1 rep1 st1 w1 => ⟨env1, S, dr, env', rep1, rb, e, fun σ2 rep2 st2 w2 => q σ2 rep2 (st1.trans st2) (w2.trans w1)⟩⟩
def tgTup (n : Nat) (U : List D → List Sl → Option (List Sl)) (d : D) (env : List Sl) : Option (List Sl) := match d with
  | .tup ds => if ds.length = n then U ds env else none
  | _ => none
theorem assignEach_len {env : Env} : ∀ {es : List Expr}, starsB es = true → (assignEach es env).length = es.length ∧ (assignEach es env).findIdx? (·.1) = none
  | [], _ => ⟨rfl, rfl⟩
  | e :: r, h => by
    have h1 := Bool.and_eq_true_iff.mp h
    have ih := assignEach_len (env := env) h1.2
    have e1 : assignEach (e :: r) env = (false, assign e env) :: assignEach r env := by
      have := h1.1
      cases e <;> first | rfl | cases this
    rw [e1]
    refine ⟨by simp [ih.1], ?_⟩
    rw [List.findIdx?_cons]
    simp [ih.2]
theorem sg_tup {es : List Expr} {k : Nat} {U : List D → List Sl → Option (List Sl)} {vs : List Nat} {pos : Pos} (h : SGs g G es U vs) (hc : G.calm = true) (hs : starsB es = true) : SG g G (.Tuple es k pos) (tgTup es.length U) vs := fun X gd =>
  PG.weak (pg_tup (n := es.length) (gd.calm hc).1 (h X gd) (assignEach_len hs).1 (assignEach_len hs).2) fun v σ H Q ⟨env, S, d, env', rep, rv, e, q⟩ => by
    unfold tgTup at e
    cases rv with
    | tup hq hr =>
      dsimp only at e
      split at e
      · rename_i hl
        have h1 := rep.sub.sqT hq
        rw [← gd.hK] at h1
        exact ⟨_, _, rfl, h1, by rw [hr.length]; exact hl, env, S, _, env', rep, hr, e, q⟩
      · cases e
    | _ => cases e
end
end G3

/-! G3g: statements. -/
namespace G3
open PySem PySem.Spec PyProof.Rows L2
section
variable {g : Gr} {G : Ctx} {st : Stmt} {rest : List Stmt} {f h : SV} {pos : Pos} {e : Expr}
variable {K : PySem.W.Frag} {mg : Str → Option Value} {env env' : List Sl} {σ : L2.St} {S H : Hp} {W : WX}
theorem EndF.back {D' : Ends} {H0 H1 : Hp} {fl : Fl} {env' : List Sl} {σ' : L2.St} {S' H' : Hp} (b : ∀ a, H1 a = none → H0 a = none) (x : EndF K mg D' H0 fl env' σ' S' H') : EndF K mg D' H1 fl env' σ' S' H' := by
  cases fl with
  | nx => exact x
  | rt r => cases r with
    | sh d => exact x
    | own ds => exact fun a xs n => x a xs (b a n)
def sSeq (f h : SV) : SV := bnd f fun fl => match fl with
  | .nx => h
  | .rt r => ret (.rt r)
def sNil : SV := ret .nx
theorem sss_nil : SSs g G [] sNil := fun X W gd tk => PSs.weak pss_nil fun D' σ H ⟨env, S, rep, q⟩ => q.ret rep
theorem sss_one (h1 : SS g G st f) : SSs g G [st] f := fun X W gd tk => pss_one (h1 X W gd tk)
theorem sss_cons (h1 : SS g G st f) (h2 : SSs g G rest h) : SSs g G (st :: rest) (sSeq f h) := fun X W gd tk =>
  PSs.weak (pss_cons (h1 X W gd tk) (h2 X W gd tk)) fun D' σ H ⟨env, S, rep, q⟩ => ⟨env, S, rep, q.then.imp fun fl env1 σ1 S1 H1 st1 rep1 q1 => by
    cases fl with
    | nx => exact ⟨env1, S1, rep1, q1.imp fun fl2 env2 σ2 S2 H2 st2 rep2 x => x.back fun a n => st1.back n⟩
    | rt r =>
      have q2 := q1.ret rep1
      cases r with
      | sh d => exact q2
      | own ds => exact q2⟩
theorem ss_pass : SS g G (.Pass pos) sNil := fun X W gd tk => PS.weak ps_pass fun D' σ H ⟨env, S, rep, q⟩ => q.ret rep
theorem ss_doc {x : Str} {j : Nat} {pos' : Pos} : SS g G (.Expr (.Constant (.str x) j pos) pos') sNil := fun X W gd tk => PS.weak ps_doc fun D' σ H ⟨env, S, rep, q⟩ => q.ret rep
theorem ss_stuck : SS g G st stuck := fun X W gd tk => PS.weak ps_never fun D' σ H ⟨env, S, rep, q⟩ => q.noStuck.elim
theorem sss_stuck {sts : List Stmt} : SSs g G sts stuck := fun X W gd tk => PSs.weak pss_never fun D' σ H ⟨env, S, rep, q⟩ => q.noStuck.elim
/-- no comprehension -/
def swB (e : Expr) : Bool := match e with
  | .ListComp .. => false
  | .SetComp .. => false
  | .DictComp .. => false
  | _ => true
theorem sw_of {e : Expr} {t : Option Expr} {l : Nat} {env : Env} (h : swB e = true) : swapsWith e t l env = pure false := by
  cases e <;> first | rfl | cases h
/-- an expression's run, the first thing of a statement: the slots' values stay -/
theorem RunS.first {f : EV D} {k : D → SV} {P : Fl → List Sl → L2.St → Hp → Hp → Prop} (q : RunS K mg W (bnd f k) σ env S H P) :
    Run K mg W f σ env S H fun d env1 S1 H1 => RunS K mg W (k d) σ env1 S1 H1 P := q.then.run
def sExpr (f : EV D) : SV := bnd f fun _ => ret .nx
theorem ss_expr {f : EV D} (he : SE g G e f) (hs : swB e = true) : SS g G (.Expr e pos) (sExpr f) := fun X W gd tk =>
  PS.weak (ps_expr (he X W gd tk) (sw_of hs)) fun D' σ H ⟨env, S, rep, q⟩ => ⟨env, S, rep, q.then.run.imp fun d env1 S1 H1 st1 rep1 q1 v rv => q1.ret rep1⟩
def sRet (f : EV D) : SV := bnd f fun d => ret (.rt (.sh d))
theorem ss_ret {f : EV D} (he : SE g G e f) : SS g G (.Return (some e) pos) (sRet f) := fun X W gd tk =>
  PS.weak (ps_ret (he X W gd tk)) fun D' σ H ⟨env, S, rep, q⟩ => ⟨env, S, rep, q.then.run.imp fun d env1 S1 H1 st1 rep1 q1 v rv => q1.ret rep1 v rv⟩
def sRetO (f : EV (List D)) : SV := bnd f fun ds => ret (.rt (.own ds))
theorem ss_retO {f : EV (List D)} (he : SO g G e f) : SS g G (.Return (some e) pos) (sRetO f) := fun X W gd tk =>
  PS.weak (ps_ret (he X W gd tk)) fun D' σ H ⟨env, S, rep, q⟩ => ⟨env, S, rep, q.then.run.imp fun ds env1 S1 H1 st1 rep1 q1 a xs n0 n1 n2 hl ra => q1.ret rep1 a xs (by assumption) n1 hl ra n2⟩
def sRetN : SV := ret (.rt (.sh .non))
theorem ss_retN : SS g G (.Return none pos) sRetN := fun X W gd tk => PS.weak ps_retN fun D' σ H ⟨env, S, rep, q⟩ => q.ret rep _ .non
def sIf (t : EV Bool) (f h : SV) : SV := bnd t fun b => if b = true then f else h
theorem ss_if {c : Expr} {a b : List Stmt} {t : EV Bool} (hc : ST g G c t) (ha : SSs g G a f) (hb : SSs g G b h) : SS g G (.If c a b pos) (sIf t f h) := fun X W gd tk =>
  PS.weak (ps_if (hc X W gd tk) (ha X W gd tk) (hb X W gd tk)) fun D' σ H ⟨env, S, rep, q⟩ => ⟨env, S, rep, q.then.run.imp fun d env1 S1 H1 st1 rep1 q1 => by
    cases d with
    | true => rw [if_pos rfl] at q1 ⊢; exact ⟨env1, S1, rep1, q1.imp fun fl2 env2 σ2 S2 H2 st2 rep2 x => x.back fun a n => st1.back n⟩
    | false => rw [if_neg Bool.false_ne_true] at q1 ⊢; exact ⟨env1, S1, rep1, q1.imp fun fl2 env2 σ2 S2 H2 st2 rep2 x => x.back fun a n => st1.back n⟩⟩
/-! ### storing -/
def sSet (i : Nat) (f : EV D) : SV := bnd f fun d => bnd (put (stSl i (.sh d))) fun _ => ret .nx
theorem ss_set {i : Nat} {x : Str} {pos' : Pos} {f : EV D} (hx : tgB G i x = true) (he : SE g G e f) (hs : swB e = true) : SS g G (.Assign [.Name x pos'] e pos) (sSet i f) := fun X W gd tk =>
  PS.weak (ps_set (i := i) (by rw [gd.hN]; exact tgB_nd hx) (by rw [gd.hN]; exact tgB_at hx) (tgB_loc gd hx) (he X W gd tk) (sw_of hs) (tgB_fn gd hx)) fun D' σ H ⟨env, S, rep, q⟩ => ⟨env, S, rep, q.then.run.imp fun d env1 S1 H1 st1 rep1 q1 v rv => by
    obtain ⟨env2, e2, q2⟩ := q1.then.put
    obtain ⟨r1, r2⟩ := rep1.store e2 rv
    exact (q2 _ _ _ r2 r1).ret r1⟩
def sSetO (i : Nat) (f : EV (List D)) : SV := bnd f fun ds => bnd (put (stSl i (.ow false ds))) fun _ => ret .nx
/-- what a run leaves, put together with what goes on from it -/
theorem RunS.ret' {α : Type} {a : α} {P : α → List Sl → L2.St → Hp → Hp → Prop} (h : RunS K mg W (G3.ret a) σ env S H P) {σ' : L2.St} {S' H' : Hp} (st : Stp env σ S H env σ' S' H') (rep : Rep K mg env S' σ' H') : P a env σ' S' H' := by
  obtain ⟨r, e, h⟩ := h
  cases e
  exact h σ' S' H' st rep
theorem ss_setO {i : Nat} {x : Str} {pos' : Pos} {f : EV (List D)} (hx : tgB G i x = true) (he : SO g G e f) (hs : swB e = true) : SS g G (.Assign [.Name x pos'] e pos) (sSetO i f) := fun X W gd tk =>
  PS.weak (ps_set (i := i) (by rw [gd.hN]; exact tgB_nd hx) (by rw [gd.hN]; exact tgB_at hx) (tgB_loc gd hx) (he X W gd tk) (sw_of hs) (tgB_fn gd hx)) fun D' σ H ⟨env, S, rep, q⟩ => by
    refine ⟨env, S, rep, ?_⟩
    obtain ⟨r, e0, q⟩ := q
    unfold sSetO bnd at e0
    cases z : f env with
    | none => rw [z] at e0; cases e0
    | some r1 =>
      rw [z] at e0
      refine ⟨r1, z, ?_⟩
      cases r1 with
      | ex c fs env1 => cases e0; exact fun cls dd S' H' st rep' x => q cls dd σ S' H' st rep' x
      | ok ds env1 =>
        intro S1 H1 st1 rep1 a xs n0 n1 n2 hl ra
        dsimp only at e0
        unfold put at e0
        cases z2 : stSl i (.ow false ds) env1 with
        | none => rw [z2] at e0; cases e0
        | some env2 =>
          rw [z2] at e0
          cases e0
          exact q _ S1 H1 (rep1.storeOStp st1 z2 n0) (rep1.storeO z2 n1 n2 hl ra)
/-- a target of names, a value -/
def sAsg (T : D → List Sl → Option (List Sl)) (f : EV D) : SV := bnd f fun d => bnd (put (T d)) fun _ => ret .nx
def notTup (e : Expr) : Bool := match e with
  | .Tuple .. => false
  | _ => true
theorem ss_unpack {es : List Expr} {k : Nat} {pt : Pos} {T : D → List Sl → Option (List Sl)} {vs : List Nat} {f : EV D} (hg : SG g G (.Tuple es k pt) T vs) (he : SE g G e f) (hs : notTup e = true) : SS g G (.Assign [.Tuple es k pt] e pos) (sAsg T f) := fun X W gd tk =>
  PS.weak (ps_asg (he X W gd tk) (hg X gd) (by cases e <;> rfl) (by cases e <;> first | rfl | cases hs) (by rfl)) fun D' σ H ⟨env, S, rep, q⟩ => ⟨env, S, rep, q.then.run.imp fun d env1 S1 H1 st1 rep1 q1 v rv => by
    obtain ⟨env2, e2, q2⟩ := q1.then.put
    exact ⟨env1, S1, d, env2, rep1, rv, e2, fun σ2 rep2 st2 w2 => (q2 _ _ _ st2 rep2).ret rep2⟩⟩
end
end G3

/-! G3h: loops, what they walk, lists that change. -/
namespace G3
open PySem PySem.Spec PyProof.Rows L2
/-- the iterator gives the items of ds, one after the other, while S stands -/
def IsW (K : PySem.W.Frag) (mg : Str → Option Value) (J : It) (ds : List D) (S : Hp) : Prop := ∃ Y, Walk J ds.length (fun H => Le S H) Y ∧ ∀ i H x H', i < ds.length → Le S H → Y i H x H' →
  ∃ d, ds[i]? = some d ∧ ((H' = H ∧ Rp K mg S x d) ∨ ∃ p xs es, x = .ref p ∧ H p = none ∧ H' = upd H p (.tup xs) ∧ d = .tup es ∧ RpA K mg S xs es)
def SI (g : Gr) (G : Ctx) (tg iter : Expr) (f : EV (List D)) : Prop := ∀ X W, Good g G X → Takes X W → ∃ wi, PI X tg iter wi ∧
  ∀ σ H R, (∃ env S, Rep g.K g.mg env S σ H ∧ Run g.K g.mg W f σ env S H fun ds _ S' H' => ∀ J, IsW g.K g.mg J ds S' → R J H') → wi σ H R
section
variable {K : PySem.W.Frag} {mg : Str → Option Value} {S : Hp}
theorem isW_list {a : Addr} {xs : List V} {ds : List D} (h : S a = some (.lst xs)) (r : RpA K mg S xs ds) : IsW K mg (Itl K a) ds S := by
  refine ⟨YAt xs, (walk_list (K := K) (a := a) (xs := xs)).mono (G' := fun H => Le S H) (Y' := YAt xs) (fun H q => SqL.of (q _ _ h)) (fun _ _ _ _ _ _ y => y) |> fun w => by rw [← r.length]; exact w, fun i H x H' hi hl y => ?_⟩
  obtain ⟨e, hx⟩ := y
  obtain ⟨d, h1, h2⟩ := r.getV hx
  exact ⟨d, h1, .inl ⟨e, h2⟩⟩
theorem isW_tup {a : Addr} {xs : List V} {ds : List D} (h : SqT K S a xs) (r : RpA K mg S xs ds) : IsW K mg (Itt K a) ds S := by
  refine ⟨YAt xs, (walk_tup (K := K) (a := a) (xs := xs)).mono (G' := fun H => Le S H) (Y' := YAt xs) (fun H q => q.sqT h) (fun _ _ _ _ _ _ y => y) |> fun w => by rw [← r.length]; exact w, fun i H x H' hi hl y => ?_⟩
  obtain ⟨e, hx⟩ := y
  obtain ⟨d, h1, h2⟩ := r.getV hx
  exact ⟨d, h1, .inl ⟨e, h2⟩⟩
def rgD (lo : Int) (n : Nat) : List D := (List.range n).map fun i => .int (lo + (i : Nat))
theorem isW_range {lo : Int} {n : Nat} : IsW K mg (Itr lo n) (rgD lo n) S := by
  have hl : (rgD lo n).length = n := by simp [rgD]
  refine ⟨YFn fun i => .int (lo + i), (walk_range (lo := lo) (n := n)).mono (G' := fun H => Le S H) (Y' := YFn fun i => .int (lo + i)) (fun H q => trivial) (fun _ _ _ _ _ _ y => y) |> fun w => by rw [hl]; exact w, fun i H x H' hi hl2 y => ?_⟩
  obtain ⟨e, hx⟩ := y
  subst hx
  refine ⟨.int (lo + i), ?_, .inl ⟨e, .int _⟩⟩
  rw [hl] at hi
  simp [rgD, hi]
end
section
variable {g : Gr} {G : Ctx} {a b e tg : Expr} {es rest : List Expr} {pos : Pos}
/-- a list or a tuple as what is walked -/
def iSeq (f : EV D) : EV (List D) := bnd f fun d => match d with
  | .lst ds => ret ds
  | .tup ds => ret ds
  | _ => stuck
/-- what PI gives for a list or a tuple: by cases on the value -/
theorem pi_seq {X : Cx} {l : Expr} {tl : TE} (hl : PE X l tl) : PI X tg l (fun σ H R => tl σ H fun x H1 => ∃ a, x = .ref a ∧ (((∃ xs, SqL X.K H1 a xs) ∧ R (Itl X.K a) H1) ∨ ((∃ xs, SqT X.K H1 a xs) ∧ R (Itt X.K a) H1))) := by
  refine ⟨fun pins s σ H R I h => ?_⟩
  refine thn (hl.run pins s σ H _ I h) fun v s1 ⟨x, H1, I1, r1, q1⟩ => ?_
  obtain ⟨a, e, q⟩ := q1
  subst e
  cases r1
  rcases q with ⟨⟨xs, hq⟩, q⟩ | ⟨⟨xs, hq⟩, q⟩
  · obtain ⟨its, rv, p, hz⟩ := I1.list hq
    refine wpAny_pyIter_list p.isList ?_
    refine ⟨s1.heap.objs.size, [s1.heap.objs.size], _, _, H1, rfl, I1.kept (t' := s1.toks) fun b o e => Heap.get?_push_of_some _ e, turn_list a _, ⟨_, Heap.get?_push_size _ rfl, rfl, rfl⟩, fun b hb => ?_, q⟩
    have e : b = s1.heap.objs.size := by simpa using hb
    subst e
    exact I1.fpOk (Nat.le_refl _) (I1.hok.fresh (Nat.le_refl _))
  · obtain ⟨its, rv, p, hz⟩ := I1.tuple hq
    refine wpAny_pyIter_tuple (show s1.heap.IsTuple a its.toArray from p) ?_
    refine ⟨s1.heap.objs.size, [s1.heap.objs.size], _, _, H1, rfl, I1.kept (t' := s1.toks) fun b o e => Heap.get?_push_of_some _ e, turn_tuple a _, ⟨_, Heap.get?_push_size _ rfl, rfl, rfl⟩, fun b hb => ?_, q⟩
    have e : b = s1.heap.objs.size := by simpa using hb
    subst e
    exact I1.fpOk (Nat.le_refl _) (I1.hok.fresh (Nat.le_refl _))
theorem si_seq {f : EV D} (ha : SE g G a f) : SI g G tg a (iSeq f) := fun X W gd tk => ⟨_, pi_seq (ha X W gd tk), fun σ H R ⟨env, S, rep, q⟩ => ⟨env, S, rep, q.then.imp fun d env1 S1 H1 st1 rep1 q1 v rv => by
  cases rv with
  | lst hs hr => exact ⟨_, rfl, .inl ⟨⟨_, SqL.of (rep1.sub _ _ hs)⟩, by rw [gd.hK]; exact q1.ret rep1 _ (isW_list hs hr)⟩⟩
  | tup hs hr =>
    have h1 := rep1.sub.sqT hs
    rw [← gd.hK] at h1
    exact ⟨_, rfl, .inr ⟨⟨_, h1⟩, by rw [gd.hK]; exact q1.ret rep1 _ (isW_tup hs hr)⟩⟩
  | _ => exact q1.noStuck.elim⟩⟩
/-- a built-in's name that the module does not bind -/
def Free (g : Gr) (x : Str) : Prop := g.mg x = none
def rgOk (i j : Int) : Bool := decide (-(2 ^ 62) ≤ i) && decide (i < 2 ^ 62) && decide (-(2 ^ 62) ≤ j) && decide (j < 2 ^ 62)
theorem rgOk_ {i j : Int} (h : rgOk i j = true) : -(2 ^ 62) ≤ i ∧ i < 2 ^ 62 ∧ -(2 ^ 62) ≤ j ∧ j < 2 ^ 62 := by
  unfold rgOk at h
  simp only [Bool.and_eq_true, decide_eq_true_eq] at h
  exact ⟨h.1.1.1, h.1.1.2, h.1.2, h.2⟩
def iRng1 (f : EV D) : EV (List D) := bnd f fun d => match d with
  | .int j => if rgOk 0 j = true then ret (rgD 0 j.toNat) else stuck
  | _ => stuck
def iRng2 (f h : EV D) : EV (List D) := bnd f fun d => bnd h fun e => match d, e with
  | .int i, .int j => if rgOk i j = true then ret (rgD i (j - i).toNat) else stuck
  | _, _ => stuck
theorem si_range1 {f : EV D} {p : Pos} (hg : gloB G "range" = true) (hf : Free g "range") (ha : SE g G a f) (hs : starB a = true) : SI g G tg (.Call (.Name "range" p) [a] [] pos) (iRng1 f) := fun X W gd tk =>
  ⟨_, pi_range1 (gl_of gd hg) (by rw [gd.hm]; exact hf) (pa_cons (ha X W gd tk) pa_nil (star_of hs)) (star_of hs), fun σ H R ⟨env, S, rep, q⟩ => ⟨env, S, rep, q.then.imp fun d env1 S1 H1 st1 rep1 q1 v rv => by
    cases rv with
    | int j =>
      dsimp only at q1
      split at q1
      · rename_i hz
        obtain ⟨z1, z2, z3, z4⟩ := rgOk_ hz
        exact ⟨j, rfl, z3, z4, q1.ret rep1 _ isW_range⟩
      · exact q1.noStuck.elim
    | _ => exact q1.noStuck.elim⟩⟩
theorem si_range2 {f h : EV D} {p : Pos} (hg : gloB G "range" = true) (hf : Free g "range") (ha : SE g G a f) (hb : SE g G b h) (hs : starB a = true) (hs2 : starB b = true) : SI g G tg (.Call (.Name "range" p) [a, b] [] pos) (iRng2 f h) := fun X W gd tk =>
  ⟨_, pi_range2 (gl_of gd hg) (by rw [gd.hm]; exact hf) (pa_cons (ha X W gd tk) (pa_cons (hb X W gd tk) pa_nil (star_of hs2)) (star_of hs)) (by rw [star_of hs, star_of hs2]; rfl) (star_of hs2), fun σ H R ⟨env, S, rep, q⟩ => ⟨env, S, rep, q.then.imp fun d env1 S1 H1 st1 rep1 q1 v rv => ⟨env1, S1, rep1, q1.then.imp fun d2 env2 S2 H2 st2 rep2 q2 v2 rv2 => by
    cases rv with
    | int i =>
      cases rv2 with
      | int j =>
        dsimp only at q2
        split at q2
        · rename_i hz
          exact ⟨i, j, rfl, rgOk_ hz, q2.ret rep2 _ isW_range⟩
        · exact q2.noStuck.elim
      | _ => exact q2.noStuck.elim
    | _ => exact q2.noStuck.elim⟩⟩⟩
/-! ### for -/
def forL (T : D → List Sl → Option (List Sl)) (b : SV) : List D → SV
  | [] => ret .nx
  | d :: r => bnd (put (T d)) fun _ => bnd b fun fl => match fl with
    | .nx => forL T b r
    | .rt x => ret (.rt x)
def sFor (T : D → List Sl → Option (List Sl)) (src : EV (List D)) (b : SV) : SV := bnd src fun ds => forL T b ds
def setB (e : Expr) : Bool := match e with
  | .Set .. => false
  | _ => true
theorem folded_of {e : Expr} {env : Env} (h : setB e = true) (x : Value) : foldedSetIterable e env x = pure x := by
  cases e <;> first | rfl | cases h
theorem drop_cons {α : Type} {l : List α} {i : Nat} {x : α} (h : l[i]? = some x) : l.drop i = x :: l.drop (i + 1) := by
  obtain ⟨hi, e⟩ := List.getElem?_eq_some_iff.mp h
  rw [← e]
  exact List.drop_eq_getElem_cons hi
theorem ss_for {iter : Expr} {body : List Stmt} {T : D → List Sl → Option (List Sl)} {vs : List Nat} {src : EV (List D)} {b : SV} (hc : G.calm = true) (ht : G.top = true) (hi : SI g G tg iter src) (hg : SG g G tg T vs) (hb : SSs g G body b) (hs : setB iter = true) :
    SS g G (.For tg iter body [] pos) (sFor T src b) := fun X W gd tk => by
  obtain ⟨wi, p1, p2⟩ := hi X W gd tk
  refine PS.weak (ps_for (gd.top ht).2.2 (gd.calm hc).1 p1 (hg X gd) (hb X W gd tk) (folded_of hs)) fun D' σ H ⟨env, S, rep, q⟩ => ?_
  refine p2 σ H _ ⟨env, S, rep, q.then.run.imp fun ds env1 S1 H1 st1 rep1 q1 J ⟨Y, w, hy⟩ => ?_⟩
  refine for_it (g := tGn g.K g.mg T vs) (tb := tS g.K g.mg W b) (D := D') w (fun i σ' H' => ∃ env' S', Rep g.K g.mg env' S' σ' H' ∧ Le S1 S' ∧ (∀ a, H' a = none → H a = none) ∧ RunS g.K g.mg W (forL T b (ds.drop i)) σ' env' S' H' (EndF g.K g.mg D' H))
    ⟨env1, S1, rep1, Le.refl _, fun a n => st1.back n, by rw [List.drop_zero]; exact q1⟩ (fun i σ' H' hi ⟨env', S', r', l', _, _⟩ => l'.trans r'.sub) ?_ ?_
  · rintro i x σ' H' H2 hi ⟨env', S', r', l', n', q'⟩ y
    obtain ⟨d, hd, hcase⟩ := hy i H' x H2 hi (l'.trans r'.sub) y
    rw [drop_cons hd] at q'
    obtain ⟨env2, e2, q2⟩ := q'.then.put
    have go : ∀ S2, Rep g.K g.mg env' S2 σ' H2 → Stp env' σ' S' H' env' σ' S2 H2 → Rp g.K g.mg S2 x d →
        ∃ env S d env', Rep g.K g.mg env S σ' H2 ∧ Rp g.K g.mg S x d ∧ T d env = some env' ∧ ∀ σ'', Rep g.K g.mg env' S σ'' H2 → Stp env σ' S H2 env' σ'' S H2 → wipe σ'' vs = wipe σ' vs →
          tS g.K g.mg W b { D' with nx := fun σ H_1 => ∃ env' S', Rep g.K g.mg env' S' σ H_1 ∧ Le S1 S' ∧ (∀ a, H_1 a = none → H a = none) ∧ RunS g.K g.mg W (forL T b (ds.drop (i + 1))) σ env' S' H_1 (EndF g.K g.mg D' H), ct := fun σ H_1 => ∃ env' S', Rep g.K g.mg env' S' σ H_1 ∧ Le S1 S' ∧ (∀ a, H_1 a = none → H a = none) ∧ RunS g.K g.mg W (forL T b (ds.drop (i + 1))) σ env' S' H_1 (EndF g.K g.mg D' H), bk := D'.nx } σ'' H2 := by
      intro S2 rep2 st2 rx
      refine ⟨env', S2, d, env2, rep2, rx, e2, fun σ3 rep3 st3 _ => ⟨env2, S2, rep3, ?_⟩⟩
      have q3 := q2 σ3 S2 H2 (st2.trans st3) rep3
      refine q3.then.imp fun fl env4 σ4 S4 H4 st4 rep4 q4 => ?_
      cases fl with
      | nx => exact ⟨env4, S4, rep4, (l'.trans st2.up).trans st4.up, fun a n => n' a (st2.back (st4.back n)), q4⟩
      | rt z =>
        have q5 := q4.ret rep4
        cases z with
        | sh d => exact q5
        | own ds => exact fun a xs n => q5 a xs (n' a (st2.back n))
    rcases hcase with ⟨rfl, rx⟩ | ⟨p, xs, es, rfl, hp, rfl, rfl, rx⟩
    · exact go S' r' Stp.refl (rx.mono l')
    · exact go _ (r'.lay hp) (r'.layStp hp) (.tup (SqT.of upd_same) ((rx.mono l').mono (Le.upd_new (r'.free hp))))
  · rintro σ' H' ⟨env', S', r', l', n', q'⟩
    rw [List.drop_length] at q'
    exact q'.ret r'
/-! ### while -/
def whF (c : EV Bool) (b : SV) : Nat → SV
  | 0 => stuck
  | n + 1 => bnd c fun t => if t = true then bnd b fun fl => match fl with
    | .nx => whF c b n
    | .rt x => ret (.rt x)
    else ret .nx
theorem whF_mono {c : EV Bool} {b : SV} : ∀ {n : Nat} {env : List Sl} {r : R Fl}, whF c b n env = some r → whF c b (n + 1) env = some r
  | 0, env, r, h => by cases h
  | n + 1, env, r, h => by
    unfold whF at h ⊢
    unfold bnd at h ⊢
    cases z : c env with
    | none => rw [z] at h; cases h
    | some r1 =>
      rw [z] at h
      cases r1 with
      | ex _ _ _ => exact h
      | ok t env1 =>
        cases t with
        | false => exact h
        | true =>
          dsimp only at h ⊢
          rw [if_pos rfl] at h ⊢
          cases z2 : b env1 with
          | none => rw [z2] at h; cases h
          | some r2 =>
            rw [z2] at h
            cases r2 with
            | ex _ _ _ => exact h
            | ok fl env2 =>
              cases fl with
              | nx => exact whF_mono h
              | rt x => exact h
theorem whF_le {c : EV Bool} {b : SV} {n : Nat} {env : List Sl} {r : R Fl} (h : whF c b n env = some r) : ∀ m, n ≤ m → whF c b m env = some r := by
  intro m hm
  induction hm with
  | refl => exact h
  | step _ ih => exact whF_mono ih
open Classical in
noncomputable def sWhile (c : EV Bool) (b : SV) : SV := fun env => if h : ∃ r, ∃ n, whF c b n env = some r then some h.choose else none
theorem sWhile_some {c : EV Bool} {b : SV} {env : List Sl} {r : R Fl} (h : sWhile c b env = some r) : ∃ n, whF c b n env = some r := by
  unfold sWhile at h
  split at h
  · rename_i hz
    cases h
    exact hz.choose_spec
  · cases h
theorem sWhile_of {c : EV Bool} {b : SV} {env : List Sl} {r : R Fl} {n : Nat} (h : whF c b n env = some r) : sWhile c b env = some r := by
  have hz : ∃ r, ∃ n, whF c b n env = some r := ⟨r, n, h⟩
  unfold sWhile
  rw [dif_pos hz]
  obtain ⟨m, hm⟩ := hz.choose_spec
  have h1 := whF_le h (n + m) (Nat.le_add_right _ _)
  have h2 := whF_le hm (n + m) (Nat.le_add_left _ _)
  rw [h1] at h2
  exact h2.symm
theorem RunS.whF {K : PySem.W.Frag} {mg : Str → Option Value} {W : WX} {σ : L2.St} {env : List Sl} {S H : Hp} {c : EV Bool} {b : SV} {P : Fl → List Sl → L2.St → Hp → Hp → Prop} (h : RunS K mg W (sWhile c b) σ env S H P) : ∃ n, RunS K mg W (G3.whF c b n) σ env S H P := by
  obtain ⟨r, e, h⟩ := h
  obtain ⟨n, e⟩ := sWhile_some e
  exact ⟨n, r, e, h⟩
theorem ss_while {c : Expr} {body : List Stmt} {t : EV Bool} {b : SV} (ht : G.top = true) (hc : ST g G c t) (hb : SSs g G body b) : SS g G (.While c body [] pos) (sWhile t b) := fun X W gd tk => by
  refine PS.weak (ps_while (gd.top ht).2.2 (hc X W gd tk) (hb X W gd tk)) fun D' σ H ⟨env, S, rep, q⟩ => ?_
  obtain ⟨n, q⟩ := q.whF
  refine ⟨fun m σ' H' => ∃ env' S', Rep g.K g.mg env' S' σ' H' ∧ (∀ a, H' a = none → H a = none) ∧ RunS g.K g.mg W (whF t b m) σ' env' S' H' (EndF g.K g.mg D' H), ⟨n, env, S, rep, fun a n => n, q⟩, ?_⟩
  rintro m σ' H' ⟨env', S', r', n', q'⟩
  cases m with
  | zero => exact q'.noStuck.elim
  | succ k =>
    refine ⟨env', S', r', q'.then.run.imp fun d env1 S1 H1 st1 rep1 q1 => ?_⟩
    cases d with
    | false => rw [if_neg Bool.false_ne_true] at q1 ⊢; exact q1.ret rep1
    | true =>
      rw [if_pos rfl] at q1 ⊢
      refine ⟨_, fun σ3 H3 x => ⟨k, Nat.lt_succ_self k, x⟩, env1, S1, rep1, q1.then.imp fun fl env4 σ4 S4 H4 st4 rep4 q4 => ?_⟩
      cases fl with
      | nx => exact ⟨env4, S4, rep4, fun a n => n' a (st1.back (st4.back n)), q4⟩
      | rt z =>
        have q5 := q4.ret rep4
        cases z with
        | sh d => exact q5
        | own ds => exact fun a xs n => q5 a xs (n' a (st1.back n))
end
end G3

/-! G3i: lists that change; comprehensions. -/
namespace G3
open PySem PySem.Spec PyProof.Rows L2
section
variable {K : PySem.W.Frag} {mg : Str → Option Value} {env env' : List Sl} {σ : L2.St} {S H : Hp}
/-- the list of a slot gets other items -/
def wrV (i : Nat) (f : List D → Option (List D)) (env : List Sl) : Option (List Sl) := match env[i]? with
  | some (.ow k ds) => (f ds).map fun es => env.set i (.ow k es)
  | _ => none
theorem wrV_some {i : Nat} {f : List D → Option (List D)} (h : wrV i f env = some env') : ∃ k ds es, env[i]? = some (.ow k ds) ∧ f ds = some es ∧ env' = env.set i (.ow k es) := by
  unfold wrV at h
  split at h
  · rename_i k ds z
    cases q : f ds with
    | none => rw [q] at h; cases h
    | some es => rw [q] at h; cases h; exact ⟨k, ds, es, z, q, rfl⟩
  · cases h
theorem Rep.wr (r : Rep K mg env S σ H) {i : Nat} {k : Bool} {ds es : List D} {a : Addr} {ys : List V} (e : env[i]? = some (.ow k ds)) (e1 : σ[i]? = some (some (.ref a))) (ry : RpA K mg S ys es) :
    Rep K mg (env.set i (.ow k es)) S σ (upd H a (.lst ys)) ∧ Stp env σ S H (env.set i (.ow k es)) σ S (upd H a (.lst ys)) := by
  have hi : i < env.length := (List.getElem?_eq_some_iff.mp e).1
  obtain ⟨a', xs, h1, h2, h3, h4⟩ := r.ow i k ds e
  rw [e1] at h1
  cases h1
  have oth : ∀ {j l fs}, i ≠ j → (env.set i (.ow k es))[j]? = some (Sl.ow l fs) → env[j]? = some (.ow l fs) := fun z q => by
    rw [List.getElem?_set_ne z] at q; exact q
  have owns : ∀ b, Own (env.set i (.ow k es)) σ b → Own env σ b := fun b ⟨j, l, fs, q1, q2⟩ => by
    by_cases z : i = j
    · subst z; exact ⟨i, k, ds, e, q2⟩
    · exact ⟨j, l, fs, oth z q1, q2⟩
  refine ⟨⟨fun b o q => ?_, by simpa using r.len, fun j d q => ?_, fun j l fs q => ?_, fun j l k1 k2 fs gs b q1 q2 q3 q4 => ?_⟩, ⟨Le.refl _, fun _ _ h => .inl h, fun b o q nb => ?_, fun b q => .inl (owns b q), fun b o q => ?_, fun j fs q => ⟨rfl, ?_⟩, rfl⟩⟩
  · have z : b ≠ a := fun z => by rw [z, h2] at q; cases q
    rw [upd_ne z]; exact r.sub b o q
  · obtain ⟨z, q⟩ := set_other q (fun z => nomatch z)
    exact r.sh j d q
  · by_cases z : i = j
    · subst z
      rw [List.getElem?_set_self hi] at q
      cases q
      exact ⟨a, ys, e1, h2, upd_same, ry⟩
    · have q := oth z q
      obtain ⟨b, zs, g1, g2, g3, g4⟩ := r.ow j l fs q
      have ne : b ≠ a := fun z' => z (r.inj i j k l ds fs a e q e1 (by rw [← z']; exact g1))
      exact ⟨b, zs, g1, g2, by rw [upd_ne ne]; exact g3, g4⟩
  · by_cases z1 : i = j
    · by_cases z2 : i = l
      · rw [← z1, ← z2]
      · subst z1
        exact r.inj i l k k2 ds gs b e (oth z2 q2) q3 q4
    · by_cases z2 : i = l
      · subst z2
        exact r.inj j i k1 k fs ds b (oth z1 q1) e q3 q4
      · exact r.inj j l k1 k2 fs gs b (oth z1 q1) (oth z2 q2) q3 q4
  · have z : b ≠ a := fun z => nb ⟨i, k, ds, e, by rw [z]; exact e1⟩
    rw [upd_ne z]; exact q
  · by_cases z : b = a
    · subst z; exact ⟨_, upd_same⟩
    · exact ⟨o, by rw [upd_ne z]; exact q⟩
  · by_cases z : i = j
    · subst z
      rw [e] at q
      cases q
      exact ⟨es, List.getElem?_set_self hi⟩
    · exact ⟨fs, by rw [List.getElem?_set_ne z]; exact q⟩
end
section
variable {g : Gr} {G : Ctx} {a b e tg : Expr} {es rest : List Expr} {pos : Pos}
theorem few_of {env : Env} {cpos : Pos} (h : starB e = true) : ((backTo cpos (starEach (e :: ([] : List Expr)) env)).all (fun x => !x.1) && (backToKw cpos (keywordEach [] env)).all (fun x => x.1.isSome)
      && decide ((e :: ([] : List Expr)).length + ([] : List Keyword).length + (if ([] : List Keyword).isEmpty then 0 else 1) < 30)) = true := by
  rw [star_of h]
  rfl
/-- the slot holds a list of the frame's own -/
def chkO (i : Nat) : EV Unit := fun env => match env[i]? with
  | some (.ow _ _) => some (.ok () env)
  | _ => none
theorem RunS.chk {K : PySem.W.Frag} {mg : Str → Option Value} {W : WX} {σ : L2.St} {env : List Sl} {S H : Hp} {i : Nat} {P : Unit → List Sl → L2.St → Hp → Hp → Prop} (h : RunS K mg W (chkO i) σ env S H P) (rep : Rep K mg env S σ H) :
    (∃ k ds, env[i]? = some (.ow k ds)) ∧ P () env σ S H := by
  obtain ⟨r, e, q⟩ := h
  unfold chkO at e
  split at e
  · rename_i k ds z
    cases e; exact ⟨⟨k, ds, z⟩, q σ S H Stp.refl rep⟩
  · cases e
theorem Run.chk {K : PySem.W.Frag} {mg : Str → Option Value} {W : WX} {σ : L2.St} {env : List Sl} {S H : Hp} {i : Nat} {P : Unit → List Sl → Hp → Hp → Prop} (h : Run K mg W (chkO i) σ env S H P) (rep : Rep K mg env S σ H) :
    (∃ k ds, env[i]? = some (.ow k ds)) ∧ P () env S H := by
  obtain ⟨r, e, q⟩ := h
  unfold chkO at e
  split at e
  · rename_i k ds z
    cases e; exact ⟨⟨k, ds, z⟩, q S H Stp.refl rep⟩
  · cases e
/-- x.append(e) -/
def sApp (i : Nat) (f : EV D) : SV := bnd (chkO i) fun _ => bnd f fun d => bnd (put (wrV i fun ds => if ds.length < sizeLine then some (ds ++ [d]) else none)) fun _ => ret .nx
theorem pvar {X : Cx} (gd : Good g G X) {i : Nat} {x : Str} {pos' : Pos} (hx : varB G i x = true) : PE X (.Name x pos') (tVar i) := by
  unfold varB at hx
  simp only [Bool.and_eq_true, decide_eq_true_eq] at hx
  exact pe_var (X := X) (i := i) (x := x) (pos := pos') (by rw [gd.hN]; exact hx.1.1) (by rw [gd.hs]; exact vis_of hx.1.2) (nameOk_1 hx.2).1 (nameOk_1 hx.2).2.1
theorem ss_append {i : Nat} {x : Str} {pos' apos cpos : Pos} {f : EV D} (hx : varB G i x = true) (he : SE g G e f) (hs : starB e = true) (hl : (apos.endLine == cpos.line) = true) :
    SS g G (.Expr (.Call (.Attribute (.Name x pos') "append" apos) [e] [] cpos) pos) (sApp i f) := fun X W gd tk => by
  have pb := pe_bm (X := X) (cpos := cpos) PySem.F.plainAttrs_list PySem.F.slot_list_append PySem.F.type_list_append mt_append (pvar gd (pos' := pos') hx) (pa_cons (he X W gd tk) pa_nil (star_of hs)) (by rfl) (few_of hs) hl (star_of hs) (by rfl)
  refine PS.weak (ps_expr pb (by rfl)) fun D' σ H ⟨env, S, rep, q⟩ => ?_
  obtain ⟨⟨k0, ds0, z0⟩, q⟩ := q.then.chk rep
  obtain ⟨a0, xs0, hv, _, h30, _⟩ := rep.ow i k0 ds0 z0
  refine ⟨_, hv, ?_, env, S, rep, q.then.run.imp fun d env1 S1 H1 st1 rep1 q1 w rw' => ?_⟩
  · exact .inl ⟨rfl, _, SqL.of h30⟩
  · obtain ⟨env2, e2, q2⟩ := q1.then.put
    obtain ⟨k, ds, fs, w1, w2, rfl⟩ := wrV_some e2
    obtain ⟨a', xs, h1, h2, h3, h4⟩ := rep1.ow i k ds w1
    rw [hv] at h1
    cases h1
    split at w2
    · rename_i hz
      cases w2
      obtain ⟨r1, r2⟩ := rep1.wr w1 hv (h4.append (.cons rw' .nil))
      exact ⟨_, _, _, rfl, rfl, h3, by rw [h4.length]; exact hz, (q2 _ _ _ r2 r1).ret r1⟩
    · cases w2
/-- x[h] = f -/
def setAt (j d : D) (ds : List D) : Option (List D) := match j with
  | .int z => (ixN ds.length z).map fun n => ds.set n d
  | _ => none
def sSetIx (i : Nat) (h f : EV D) : SV := bnd f fun d => bnd (chkO i) fun _ => bnd h fun j => bnd (put (wrV i (setAt j d))) fun _ => ret .nx
theorem subs_assign {o i : Expr} {env : Env} {pos : Pos} (h : ixB i = true) (v : Value) : assign (.Subscript o i pos) env v = (do
      let ov ← holding [v] (eval o env)
      let iv ← holding [v, ov] (eval i env)
      standAt pos
      holding [v, ov, iv] (setItem ov iv v)
      release [v, ov, iv] []) := by
  cases i <;> first | rfl | cases h
theorem pg_subV {X : Cx} {W : WX} (gd : Good g G X) (tk : Takes X W) {i : Nat} {x : Str} {pos' : Pos} {h : EV D} (hx : varB G i x = true) (hb : SE g G b h) (hi : ixB b = true) :
    PG X (.Subscript (.Name x pos') b pos) (fun v σ H Q => ∃ env S d, Rep g.K g.mg env S σ H ∧ Rp g.K g.mg S v d ∧ Run g.K g.mg W (bnd (chkO i) fun _ => bnd h fun j => put (wrV i (setAt j d))) σ env S H fun _ env' S' H' => Q σ H') := by
  refine PG.weak (pg_sub (pvar gd (pos' := pos') hx) (hb X W gd tk) set_list (subs_assign hi)) fun v σ H Q ⟨env, S, d, rep, rv, q⟩ => ?_
  obtain ⟨⟨k0, ds0, z0⟩, q⟩ := q.then.chk rep
  obtain ⟨a0, xs0, hv, _, h30, _⟩ := rep.ow i k0 ds0 z0
  refine ⟨_, hv, env, S, rep, q.then.imp fun j env1 S1 H1 st1 rep1 q1 w rw' => ?_⟩
  obtain ⟨r, e2, q2⟩ := q1
  unfold put at e2
  cases z : wrV i (setAt j d) env1 with
  | none => rw [z] at e2; cases e2
  | some env2 =>
    rw [z] at e2
    cases e2
    obtain ⟨k, ds, fs, w1, w2, rfl⟩ := wrV_some z
    obtain ⟨a', xs, h1, h2, h3, h4⟩ := rep1.ow i k ds w1
    rw [hv] at h1
    cases h1
    unfold setAt at w2
    cases rw' with
    | int zz =>
      dsimp only at w2
      cases y : ixN ds.length zz with
      | none => rw [y] at w2; cases w2
      | some n =>
        rw [y] at w2
        cases w2
        obtain ⟨r1, r2⟩ := rep1.wr w1 hv (h4.set n (rv.mono st1.up))
        exact ⟨_, _, _, n, rfl, rfl, h3, by rw [h4.length]; exact y, q2 _ _ r2 r1⟩
    | _ => cases w2
theorem ss_setIx {i : Nat} {x : Str} {pos' tpos : Pos} {h f : EV D} (hx : varB G i x = true) (hb : SE g G b h) (hi : ixB b = true) (he : SE g G e f) : SS g G (.Assign [.Subscript (.Name x pos') b tpos] e pos) (sSetIx i h f) := fun X W gd tk => by
  refine PS.weak (ps_asg (he X W gd tk) (pg_subV gd tk hx hb hi) (by cases e <;> rfl) (by cases e <;> rfl) (by rfl)) fun D' σ H ⟨env, S, rep, q⟩ => ?_
  refine ⟨env, S, rep, q.then.run.imp fun d env1 S1 H1 st1 rep1 q1 v rv => ⟨env1, S1, d, rep1, rv, ?_⟩⟩
  have q2 : RunS g.K g.mg W (bnd (bnd (chkO i) fun _ => bnd h fun j => put (wrV i (setAt j d))) fun _ => ret .nx) σ env1 S1 H1 (EndF g.K g.mg D' H) := by
    obtain ⟨r, e1, q1⟩ := q1
    refine ⟨r, ?_, q1⟩
    rw [← e1]
    unfold bnd
    cases z : chkO i env1 with
    | none => rfl
    | some r1 => cases r1 with
      | ex _ _ _ => rfl
      | ok _ env2 =>
        dsimp only
        cases z2 : h env2 with
        | none => rfl
        | some r2 => cases r2 <;> rfl
  exact q2.then.run.imp fun _ env3 S3 H3 st3 rep3 q3 => q3.ret rep3
end
end G3

/-! G3j: comprehensions. -/
namespace G3
open PySem PySem.Spec PyProof.Rows L2
def wipeE (env : List Sl) : List Nat → List Sl
  | [] => env
  | v :: vs => (wipeE env vs).set v .un
def restE (env : List Sl) (e : List Sl) : List Nat → List Sl
  | [] => e
  | v :: vs => (restE env e vs).set v (env.getD v .un)
theorem wipeE_length (env : List Sl) : ∀ vs, (wipeE env vs).length = env.length
  | [] => rfl
  | v :: vs => by show ((wipeE env vs).set v .un).length = _; rw [List.length_set, wipeE_length env vs]
theorem restE_length (env e : List Sl) : ∀ vs, (restE env e vs).length = e.length
  | [] => rfl
  | v :: vs => by show ((restE env e vs).set v _).length = _; rw [List.length_set, restE_length env e vs]
theorem wipeE_in {env : List Sl} {j : Nat} (hj : j < env.length) : ∀ {vs : List Nat}, j ∈ vs → (wipeE env vs)[j]? = some .un
  | v :: vs, h => by
    show ((wipeE env vs).set v .un)[j]? = _
    by_cases z : v = j
    · subst z; rw [List.getElem?_set_self (by rw [wipeE_length]; exact hj)]
    · rw [List.getElem?_set_ne z]
      exact wipeE_in hj ((List.mem_cons.mp h).resolve_left (fun q => z q.symm))
theorem wipeE_out {env : List Sl} {j : Nat} : ∀ {vs : List Nat}, j ∉ vs → (wipeE env vs)[j]? = env[j]?
  | [], _ => rfl
  | v :: vs, h => by
    show ((wipeE env vs).set v .un)[j]? = _
    rw [List.getElem?_set_ne (fun z => h (by rw [z]; exact List.mem_cons_self))]
    exact wipeE_out fun q => h (List.mem_cons_of_mem _ q)
theorem restE_in {env e : List Sl} {j : Nat} (hl : e.length = env.length) (hj : j < env.length) : ∀ {vs : List Nat}, j ∈ vs → (restE env e vs)[j]? = env[j]?
  | v :: vs, h => by
    show ((restE env e vs).set v _)[j]? = _
    by_cases z : v = j
    · subst z
      rw [List.getElem?_set_self (by rw [restE_length, hl]; exact hj), List.getElem?_eq_getElem hj]
      simp [List.getD, List.getElem?_eq_getElem hj]
    · rw [List.getElem?_set_ne z]
      exact restE_in hl hj ((List.mem_cons.mp h).resolve_left (fun q => z q.symm))
theorem restE_out {env e : List Sl} {j : Nat} : ∀ {vs : List Nat}, j ∉ vs → (restE env e vs)[j]? = e[j]?
  | [], _ => rfl
  | v :: vs, h => by
    show ((restE env e vs).set v _)[j]? = _
    rw [List.getElem?_set_ne (fun z => h (by rw [z]; exact List.mem_cons_self))]
    exact restE_out fun q => h (List.mem_cons_of_mem _ q)
theorem wipe_in {σ : L2.St} {j : Nat} {x : V} {vs : List Nat} (h : j ∈ vs) : (wipe σ vs)[j]? ≠ some (some x) := fun e => (wipe_some e).2 h
theorem wipe_idem (σ : L2.St) : ∀ vs, wipe (wipe σ vs) vs = wipe σ vs := by
  intro vs
  have key : ∀ (us : List Nat) (τ : L2.St), (∀ u ∈ us, u ∈ vs) → wipe (wipe τ vs) us = wipe τ vs := by
    intro us
    induction us with
    | nil => intro τ _; rfl
    | cons u us ih =>
      intro τ h
      show (wipe (wipe τ vs) us).set u none = _
      rw [ih τ fun x hx => h x (List.mem_cons_of_mem _ hx)]
      have hu := h u List.mem_cons_self
      apply List.ext_getElem?
      intro j
      by_cases z : u = j
      · subst z
        by_cases hl : u < (wipe τ vs).length
        · rw [List.getElem?_set_self hl]
          cases q : (wipe τ vs)[u]? with
          | none => exact absurd (List.getElem?_eq_none_iff.mp q) (Nat.not_le.mpr hl)
          | some o => cases o with
            | none => rfl
            | some x => exact absurd q (wipe_in hu)
        · rw [List.getElem?_eq_none_iff.mpr (by simpa using hl), List.getElem?_eq_none_iff.mpr (by omega)]
      · rw [List.getElem?_set_ne z]
  exact key vs σ fun _ h => h
section
variable {K : PySem.W.Frag} {mg : Str → Option Value} {env env1 envf : List Sl} {σ : L2.St} {S S1 S' H H1 H' : Hp} {vs : List Nat}
def fixed (env : List Sl) (v : Nat) : Bool := match env[v]? with
  | some (.ow true _) => true
  | _ => false
theorem own_wipe {a : Addr} (x : Own (wipeE env vs) (wipe σ vs) a) : ∃ i k ds, i ∉ vs ∧ env[i]? = some (.ow k ds) ∧ σ[i]? = some (some (.ref a)) := by
  obtain ⟨i, k, ds, h1, h2⟩ := x
  obtain ⟨h3, h4⟩ := wipe_some h2
  rw [wipeE_out h4] at h1
  exact ⟨i, k, ds, h4, h1, h3⟩
theorem Rep.wipe (r : Rep K mg env S σ H) (vs : List Nat) : Rep K mg (wipeE env vs) S (L2.wipe σ vs) H where
  sub := r.sub
  len := by rw [wipeE_length, wipe_length]; exact r.len
  sh := fun j d e => by
    by_cases z : j ∈ vs
    · have hj : j < env.length := by rw [← wipeE_length env vs]; exact (List.getElem?_eq_some_iff.mp e).1
      rw [wipeE_in hj z] at e; cases e
    · rw [wipeE_out z] at e; rw [wipe_out z]; exact r.sh j d e
  ow := fun j k ds e => by
    by_cases z : j ∈ vs
    · have hj : j < env.length := by rw [← wipeE_length env vs]; exact (List.getElem?_eq_some_iff.mp e).1
      rw [wipeE_in hj z] at e; cases e
    · rw [wipeE_out z] at e; rw [wipe_out z]; exact r.ow j k ds e
  inj := fun j l k k' ds es a h1 h2 h3 h4 => by
    obtain ⟨q3, n3⟩ := wipe_some h3
    obtain ⟨q4, n4⟩ := wipe_some h4
    rw [wipeE_out n3] at h1
    rw [wipeE_out n4] at h2
    exact r.inj j l k k' ds es a h1 h2 q3 q4
theorem Rep.wipeStp (r : Rep K mg env S σ H) (hf : ∀ v ∈ vs, fixed env v = false) : Stp env σ S H (wipeE env vs) (L2.wipe σ vs) S H where
  up := Le.refl _
  new := fun _ _ h => .inl h
  keep := fun _ _ h _ => h
  own := fun a x => by
    obtain ⟨i, k, ds, _, h1, h2⟩ := own_wipe x
    exact .inl ⟨i, k, ds, h1, h2⟩
  there := fun _ o h => ⟨o, h⟩
  fix := fun j ds e => by
    have z : j ∉ vs := fun z => by
      have := hf j z
      unfold fixed at this
      rw [e] at this
      cases this
    exact ⟨wipe_out z, ds, by rw [wipeE_out z]; exact e⟩
  len := wipe_length _ _
theorem own_rest {a : Addr} (hl : envf.length = env1.length) (x : Own (restE env1 envf vs) σ a) : Own env1 σ a ∨ Own envf (L2.wipe σ vs) a := by
  obtain ⟨j, k, ds, e, e1⟩ := x
  by_cases z : j ∈ vs
  · have hj : j < env1.length := by rw [← hl, ← restE_length env1 envf vs]; exact (List.getElem?_eq_some_iff.mp e).1
    rw [restE_in hl hj z] at e; exact .inl ⟨j, k, ds, e, e1⟩
  · rw [restE_out z] at e; exact .inr ⟨j, k, ds, e, by rw [wipe_out z]; exact e1⟩
/-- the block's names are the def's again -/
theorem Rep.rest (r1 : Rep K mg env1 S1 σ H1) (st : Stp (wipeE env1 vs) (L2.wipe σ vs) S1 H1 envf (L2.wipe σ vs) S' H') (rf : Rep K mg envf S' (L2.wipe σ vs) H') :
    Rep K mg (restE env1 envf vs) S' σ H' ∧ Stp env1 σ S1 H1 (restE env1 envf vs) σ S' H' := by
  have hl : envf.length = env1.length := by rw [rf.len, wipe_length, r1.len]
  have get : ∀ {j sl}, (restE env1 envf vs)[j]? = some sl → (j ∈ vs ∧ env1[j]? = some sl) ∨ (j ∉ vs ∧ envf[j]? = some sl) := fun {j sl} e => by
    by_cases z : j ∈ vs
    · have hj : j < env1.length := by rw [← hl, ← restE_length env1 envf vs]; exact (List.getElem?_eq_some_iff.mp e).1
      rw [restE_in hl hj z] at e; exact .inl ⟨z, e⟩
    · rw [restE_out z] at e; exact .inr ⟨z, e⟩
  -- a list that a name of the block holds outside is none of the block's
  have noW : ∀ {j k ds a}, j ∈ vs → env1[j]? = some (Sl.ow k ds) → σ[j]? = some (some (V.ref a)) → ¬ Own (wipeE env1 vs) (L2.wipe σ vs) a := fun z e e1 x => by
    obtain ⟨i, k', ds', n, h1, h2⟩ := own_wipe x
    have := r1.inj _ _ _ _ _ _ _ e h1 e1 h2
    exact n (this ▸ z)
  have noF : ∀ {j k ds a}, j ∈ vs → env1[j]? = some (Sl.ow k ds) → σ[j]? = some (some (V.ref a)) → ¬ Own envf (L2.wipe σ vs) a := fun z e e1 x => by
    rcases st.own _ x with q | q
    · exact noW z e e1 q
    · obtain ⟨b, xs, h1, h2, h3, h4⟩ := r1.ow _ _ _ e
      rw [e1] at h1; cases h1; rw [q] at h3; cases h3
  refine ⟨⟨rf.sub, by rw [restE_length, hl]; exact r1.len, fun j d e => ?_, fun j k ds e => ?_, fun j l k k' ds es a e1 e2 e3 e4 => ?_⟩, ⟨st.up, fun a o h => ?_, fun a o h n => ?_, fun a ⟨j, k, ds, e, e1⟩ => ?_, st.there, fun j ds e => ⟨rfl, ?_⟩, rfl⟩⟩
  · rcases get e with ⟨z, e⟩ | ⟨z, e⟩
    · obtain ⟨v, h1, h2⟩ := r1.sh j d e
      exact ⟨v, h1, h2.mono st.up⟩
    · obtain ⟨v, h1, h2⟩ := rf.sh j d e
      rw [wipe_out z] at h1
      exact ⟨v, h1, h2⟩
  · rcases get e with ⟨z, e⟩ | ⟨z, e⟩
    · obtain ⟨a, xs, h1, h2, h3, h4⟩ := r1.ow j k ds e
      have nw := noW z e h1
      refine ⟨a, xs, h1, ?_, st.keep a _ h3 nw, h4.mono st.up⟩
      cases q : S' a with
      | none => rfl
      | some o =>
        rcases st.new a o q with q | q | q
        · rw [h2] at q; cases q
        · rw [h3] at q; cases q
        · exact absurd q nw
    · obtain ⟨a, xs, h1, h2, h3, h4⟩ := rf.ow j k ds e
      rw [wipe_out z] at h1
      exact ⟨a, xs, h1, h2, h3, h4⟩
  · rcases get e1 with ⟨z1, e1⟩ | ⟨z1, e1⟩ <;> rcases get e2 with ⟨z2, e2⟩ | ⟨z2, e2⟩
    · exact r1.inj j l k k' ds es a e1 e2 e3 e4
    · exact absurd ⟨l, k', es, e2, by rw [wipe_out z2]; exact e4⟩ (noF z1 e1 e3)
    · exact absurd ⟨j, k, ds, e1, by rw [wipe_out z1]; exact e3⟩ (noF z2 e2 e4)
    · exact rf.inj j l k k' ds es a e1 e2 (by rw [wipe_out z1]; exact e3) (by rw [wipe_out z2]; exact e4)
  · rcases st.new a o h with q | q | q
    · exact .inl q
    · exact .inr (.inl q)
    · obtain ⟨i, k, ds, _, h1, h2⟩ := own_wipe q
      exact .inr (.inr ⟨i, k, ds, h1, h2⟩)
  · refine st.keep a o h fun x => n ?_
    obtain ⟨i, k, ds, _, h1, h2⟩ := own_wipe x
    exact ⟨i, k, ds, h1, h2⟩
  · rcases get e with ⟨z, e⟩ | ⟨z, e⟩
    · exact .inl ⟨j, k, ds, e, e1⟩
    · rcases st.own a ⟨j, k, ds, e, by rw [wipe_out z]; exact e1⟩ with q | q
      · obtain ⟨i, k, ds, _, h1, h2⟩ := own_wipe q
        exact .inl ⟨i, k, ds, h1, h2⟩
      · exact .inr q
  · have hj : j < env1.length := (List.getElem?_eq_some_iff.mp e).1
    by_cases z : j ∈ vs
    · exact ⟨ds, by rw [restE_in hl hj z]; exact e⟩
    · obtain ⟨_, ds', h⟩ := st.fix j ds (by rw [wipeE_out z]; exact e)
      exact ⟨ds', by rw [restE_out z]; exact h⟩
/-- a list that is no slot's and not shared is written -/
theorem Rep.updF (r : Rep K mg env S σ H) {a : Addr} {o : HO} (n1 : S a = none) (n2 : ¬ Own env σ a) : Rep K mg env S σ (upd H a o) where
  sub := fun b u e => by
    have z : b ≠ a := fun z => by rw [z, n1] at e; cases e
    rw [upd_ne z]; exact r.sub b u e
  len := r.len
  sh := r.sh
  ow := fun i k ds e => by
    obtain ⟨b, xs, h1, h2, h3, h4⟩ := r.ow i k ds e
    have z : b ≠ a := fun z => n2 ⟨i, k, ds, e, by rw [← z]; exact h1⟩
    exact ⟨b, xs, h1, h2, by rw [upd_ne z]; exact h3, h4⟩
  inj := r.inj
theorem Stp.updF {env env' : List Sl} {σ σ' : L2.St} {S H S' H' : Hp} (st : Stp env σ S H env' σ' S' H') {a : Addr} {o : HO} (h0 : H a = none) : Stp env σ S H env' σ' S' (upd H' a o) where
  up := st.up
  new := st.new
  keep := fun b u e n => by
    have z : b ≠ a := fun z => by rw [z, h0] at e; cases e
    rw [upd_ne z]; exact st.keep b u e n
  own := st.own
  there := fun b u e => by
    by_cases z : b = a
    · subst z; exact ⟨_, upd_same⟩
    · rw [upd_ne z]; exact st.there b u e
  fix := st.fix
  len := st.len
end
/-- the block's names forgotten -/
def wipeP (vs : List Nat) : EV Unit := put fun env => if vs.all (fun v => !fixed env v) = true then some (wipeE env vs) else none
/-- the items of a comprehension -/
def compL (vs : List Nat) (T : D → List Sl → Option (List Sl)) (tt : EV Bool) (f : EV D) : List D → EV (List D)
  | [] => ret []
  | d :: r => bnd (put (T d)) fun _ => bnd tt fun c => if c = true then bnd f fun y => bnd (wipeP vs) fun _ => bnd (compL vs T tt f r) fun ys => ret (y :: ys) else bnd (wipeP vs) fun _ => compL vs T tt f r
def oComp (vs : List Nat) (src : EV (List D)) (T : D → List Sl → Option (List Sl)) (tt : EV Bool) (f : EV D) : EV (List D) := bnd src fun ds env => match bnd (wipeP vs) (fun _ => compL vs T tt f ds) env with
  | some (.ok ys env') => if ys.length ≤ sizeLine then some (.ok ys (restE env env' vs)) else none
  | _ => none
theorem bnd_some {α β : Type} {f : EV α} {k : α → EV β} {env envf : List Sl} {b : β} (h : bnd f k env = some (.ok b envf)) : ∃ a env1, f env = some (.ok a env1) ∧ k a env1 = some (.ok b envf) := by
  unfold bnd at h
  cases z : f env with
  | none => rw [z] at h; cases h
  | some r =>
    rw [z] at h
    cases r with
    | ex _ _ _ => cases h
    | ok a env1 => exact ⟨a, env1, rfl, h⟩
theorem put_some {t : List Sl → Option (List Sl)} {env envf : List Sl} {u : Unit} (h : put t env = some (.ok u envf)) : t env = some envf := by
  unfold put at h
  cases z : t env with
  | none => rw [z] at h; cases h
  | some e => rw [z] at h; cases h; rfl
theorem wipeP_some {vs : List Nat} {env envf : List Sl} {u : Unit} (h : wipeP vs env = some (.ok u envf)) : envf = wipeE env vs ∧ ∀ v ∈ vs, fixed env v = false := by
  have q := put_some h
  split at q
  · rename_i hz
    cases q
    refine ⟨rfl, fun v hv => ?_⟩
    have := List.all_eq_true.mp hz v hv
    simpa using this
  · cases q
/-- a clause's tests -/
def STs (g : Gr) (G : Ctx) (ifs : List Expr) (f : EV Bool) : Prop := ∀ X W, Good g G X → Takes X W → PTs X ifs (tT g.K g.mg W f)
section
variable {g : Gr} {G : Ctx} {a b e tg : Expr} {es rest : List Expr} {pos : Pos}
theorem PTs.weak {X : Cx} {ifs : List Expr} {t t' : TT} (h : PTs X ifs t) (k : ∀ σ H Q, t' σ H Q → t σ H Q) : PTs X ifs t' := ⟨fun pins s σ H Q I q => h.run pins s σ H Q I (k σ H Q q)⟩
theorem sts_nil : STs g G [] (ret true) := fun X W gd tk => PTs.weak pts_nil fun σ H Q ⟨env, S, rep, q⟩ => q.ret rep
theorem sts_one {c : Expr} {f : EV Bool} (h : ST g G c f) : STs g G [c] f := fun X W gd tk => pts_one (h X W gd tk)
/-- where a comprehension's block stands -/
def blkG (G : Ctx) (scope : Scope) : Ctx := { N := G.N, sc := relS scope G.sc, k := G.k, fn := fun x => scope.names.lookup x == some .cell, calm := G.calm, top := false }
theorem good_blk {X : Cx} (gd : Good g G X) (s : Shared) (H : Hp) (scope : Scope) (cl : List (Str × Addr)) (C : Addr) (fp : List Addr) : Good g (blkG G scope) (X.blk s H scope (compEnvC scope cl C X.env) fp) where
  hp := gd.hp
  hw := gd.hw
  hK := gd.hK
  hm := gd.hm
  hb := gd.hb
  hN := gd.hN
  hs := by
    show relS scope X.env.scope = relS scope G.sc
    rw [gd.hs]
  fn := fun x h => h
  calm := gd.calm
  gds := gd.gds
  top := fun h => nomatch h
theorem no_takes {X : Cx} : Takes X (fun _ _ _ _ => False) := takes0
theorem lc_read {W : WX} {X : Cx} {vs : List Nat} {src : EV (List D)} {T : D → List Sl → Option (List Sl)} {tt : EV Bool} {f : EV D} {wi : TI}
    (p2 : ∀ σ H R, (∃ env S, Rep g.K g.mg env S σ H ∧ Run g.K g.mg W src σ env S H fun ds _ S' H' => ∀ J, IsW g.K g.mg J ds S' → R J H') → wi σ H R)
    (σ : L2.St) (H : Hp) (Q : VK) (q : tO g.K g.mg W (oComp vs src T tt f) σ H Q) : tLc wi (tGn g.K g.mg T vs) (tT g.K g.mg (fun _ _ _ _ => False) tt) (tE g.K g.mg (fun _ _ _ _ => False) f) vs σ H Q := by
  obtain ⟨env, S, rep, q⟩ := q
  refine p2 σ H _ ⟨env, S, rep, q.then.imp fun ds env1 S1 H1 st1 rep1 q1 J ⟨Y, w, hy⟩ D0 hD => ?_⟩
  obtain ⟨r, e, q1⟩ := q1
  dsimp only at e
  -- the run of the block
  cases zr : bnd (wipeP vs) (fun _ => compL vs T tt f ds) env1 with
  | none => rw [zr] at e; cases e
  | some r1 =>
  rw [zr] at e
  cases r1 with
  | ex _ _ _ => cases e
  | ok ys envf =>
  dsimp only at e
  split at e
  case isFalse => cases e
  case isTrue hsz =>
  cases e
  obtain ⟨u, envw, w1, w2⟩ := bnd_some zr
  obtain ⟨rfl, hfix⟩ := wipeP_some w1
  have repw := rep1.wipe vs
  refine lc_it (g := tGn g.K g.mg T vs) (tt := tT g.K g.mg (fun _ _ _ _ => False) tt) (te := tE g.K g.mg (fun _ _ _ _ => False) f) w
    (fun i H' => ∃ env' S' acc ys0 ysr, Rep g.K g.mg env' S' (wipe σ vs) H' ∧ Stp (wipeE env1 vs) (wipe σ vs) S1 H1 env' (wipe σ vs) S' H' ∧ H' D0 = some (.lst acc) ∧ S' D0 = none ∧ ¬ Own env' (wipe σ vs) D0 ∧ RpA g.K g.mg S' acc ys0 ∧
      compL vs T tt f (ds.drop i) env' = some (.ok ysr envf) ∧ ys0 ++ ysr = ys)
    ⟨wipeE env1 vs, S1, [], [], ys, repw.layO hD, Stp.updF Stp.refl hD, upd_same, rep1.free hD, repw.noOwn hD, .nil, by rw [List.drop_zero]; exact w2, rfl⟩
    (fun i H' hi ⟨env', S', _, _, _, r', st', _⟩ => st'.up.trans r'.sub) ?_ ?_
  · rintro i x H' H2 hi ⟨env', S', acc, ys0, ysr, r', st', hacc, nS, nO, ra, hc, hys⟩ y
    obtain ⟨d, hd, hcase⟩ := hy i H' x H2 hi (st'.up.trans r'.sub) y
    rw [drop_cons hd] at hc
    obtain ⟨_, env2, c1, hc⟩ := bnd_some hc
    have e2 := put_some c1
    obtain ⟨c, env3, c2, hc⟩ := bnd_some hc
    -- from the stable heap at the turn, however the item came
    have go : ∀ S2, Rep g.K g.mg env' S2 (wipe σ vs) H2 → Stp env' (wipe σ vs) S' H' env' (wipe σ vs) S2 H2 → Rp g.K g.mg S2 x d → H2 D0 = some (.lst acc) → S2 D0 = none →
        tGn g.K g.mg T vs x (wipe σ vs) H2 fun σ2 H2 => wipe σ2 vs = wipe σ vs ∧ tT g.K g.mg (fun _ _ _ _ => False) tt σ2 H2 fun b H3 =>
          if b = true then tE g.K g.mg (fun _ _ _ _ => False) f σ2 H3 fun y H4 => ∃ acc, H4 D0 = some (.lst acc) ∧ acc.length < sizeLine ∧ (∃ env' S' acc_1 ys0 ysr, Rep g.K g.mg env' S' (wipe σ vs) (upd H4 D0 (.lst (acc ++ [y]))) ∧ Stp (wipeE env1 vs) (wipe σ vs) S1 H1 env' (wipe σ vs) S' (upd H4 D0 (.lst (acc ++ [y]))) ∧ (upd H4 D0 (.lst (acc ++ [y]))) D0 = some (.lst acc_1) ∧ S' D0 = none ∧ ¬ Own env' (wipe σ vs) D0 ∧ RpA g.K g.mg S' acc_1 ys0 ∧
            compL vs T tt f (ds.drop (i + 1)) env' = some (.ok ysr envf) ∧ ys0 ++ ysr = ys)
          else (∃ env' S' acc ys0 ysr, Rep g.K g.mg env' S' (wipe σ vs) H3 ∧ Stp (wipeE env1 vs) (wipe σ vs) S1 H1 env' (wipe σ vs) S' H3 ∧ H3 D0 = some (.lst acc) ∧ S' D0 = none ∧ ¬ Own env' (wipe σ vs) D0 ∧ RpA g.K g.mg S' acc ys0 ∧
            compL vs T tt f (ds.drop (i + 1)) env' = some (.ok ysr envf) ∧ ys0 ++ ysr = ys) := by
      intro S2 rep2 st2 rx hacc2 nS2
      refine ⟨env', S2, d, env2, rep2, rx, e2, fun σ3 rep3 st3 w3 => ⟨by rw [w3, wipe_idem], env2, S2, rep3, .ok c env3, c2, fun S4 H4 st4 rep4 => ?_⟩⟩
      have stt := (st'.trans st2).trans (st3.trans st4)
      -- the list that is made: no name's
      have nO2 : ¬ Own env2 σ3 D0 := fun z => by
        rcases st3.own _ z with z | z
        · exact nO z
        · rw [hacc2] at z; cases z
      have nO4 : ¬ Own env3 σ3 D0 := fun z => by
        rcases st4.own _ z with z | z
        · exact nO2 z
        · rw [hacc2] at z; cases z
      have hacc4 := st4.keep _ _ hacc2 nO2
      have nS4 : S4 D0 = none := by
        cases q : S4 D0 with
        | none => rfl
        | some o =>
          rcases st4.new _ _ q with z | z | z
          · rw [nS2] at z; cases z
          · rw [hacc2] at z; cases z
          · exact absurd z nO2
      cases c with
      | false =>
        rw [if_neg Bool.false_ne_true] at hc
        show if false = true then _ else _
        rw [if_neg Bool.false_ne_true]
        obtain ⟨_, env5, c5, hc⟩ := bnd_some hc
        obtain ⟨rfl, hf5⟩ := wipeP_some c5
        have w4 : wipe σ3 vs = wipe σ vs := by rw [w3, wipe_idem]
        have rep5 := rep4.wipe vs
        have st5 := stt.trans (rep4.wipeStp hf5)
        rw [w4] at rep5 st5
        refine ⟨wipeE env3 vs, S4, acc, ys0, ysr, rep5, st5, hacc4, nS4, fun z => ?_, ra.mono (st2.up.trans (st3.up.trans st4.up)), hc, hys⟩
        rw [← w4] at z
        obtain ⟨j, k, es, _, z1, z2⟩ := own_wipe z
        exact nO4 ⟨j, k, es, z1, z2⟩
      | true =>
        rw [if_pos rfl] at hc
        show if true = true then _ else _
        rw [if_pos rfl]
        obtain ⟨yd, env5, c5, hc⟩ := bnd_some hc
        obtain ⟨_, env6, c6, hc⟩ := bnd_some hc
        obtain ⟨rfl, hf6⟩ := wipeP_some c6
        obtain ⟨yr, env7, c7, hc⟩ := bnd_some hc
        cases hc
        refine ⟨env3, S4, rep4, .ok yd env5, c5, fun S5 H5 st5 rep5 yv ry => ⟨acc, st5.keep _ _ hacc4 nO4, ?_, ?_⟩⟩
        · have l1 := ra.length
          have l2 : (ys0 ++ yd :: yr).length ≤ sizeLine := by rw [hys]; exact hsz
          rw [List.length_append, List.length_cons] at l2
          omega
        · have nO5 : ¬ Own env5 σ3 D0 := fun z => by
            rcases st5.own _ z with z | z
            · exact nO4 z
            · rw [hacc4] at z; cases z
          have nS5 : S5 D0 = none := by
            cases q : S5 D0 with
            | none => rfl
            | some o =>
              rcases st5.new _ _ q with z | z | z
              · rw [nS4] at z; cases z
              · rw [hacc4] at z; cases z
              · exact absurd z nO4
          have w4 : wipe σ3 vs = wipe σ vs := by rw [w3, wipe_idem]
          have rep6 := rep5.wipe vs
          have st6 := (stt.trans st5).trans (rep5.wipeStp hf6)
          rw [w4] at rep6 st6
          have nO6 : ¬ Own (wipeE env5 vs) (wipe σ vs) D0 := fun z => by
            rw [← w4] at z
            obtain ⟨j, k, es, _, z1, z2⟩ := own_wipe z
            exact nO5 ⟨j, k, es, z1, z2⟩
          refine ⟨wipeE env5 vs, S5, acc ++ [yv], ys0 ++ [yd], yr, rep6.updF nS5 nO6, st6.updF hD, upd_same, nS5, nO6, (ra.mono (st2.up.trans (st3.up.trans (st4.up.trans st5.up)))).append (.cons ry .nil), c7, ?_⟩
          rw [List.append_assoc]; exact hys
    rcases hcase with ⟨rfl, rx⟩ | ⟨p, xs, es, rfl, hp, rfl, rfl, rx⟩
    · exact go S' r' Stp.refl (rx.mono st'.up) hacc nS
    · have ne : D0 ≠ p := ne_of_none hacc hp
      exact go _ (r'.lay hp) (r'.layStp hp) (.tup (SqT.of upd_same) ((rx.mono st'.up).mono (Le.upd_new (r'.free hp)))) (by rw [upd_ne ne]; exact hacc) (by rw [upd_ne ne]; exact nS)
  · rintro H' ⟨env', S', acc, ys0, ysr, r', st', hacc, nS, nO, ra, hc, hys⟩
    rw [List.drop_length] at hc
    cases hc
    rw [List.append_nil] at hys
    subst hys
    obtain ⟨repR, stR⟩ := rep1.rest st' r'
    refine q1 S' H' stR repR D0 acc (st1.back hD) nS (fun z => ?_) hacc ra
    rcases own_rest (by rw [r'.len, wipe_length, rep1.len]) z with z | z
    · exact rep1.noOwn hD z
    · exact nO z
theorem so_comp {elt iter : Expr} {ifs : List Expr} {scope : Scope} {own : List (Str × Nat)} {src : EV (List D)} {T : D → List Sl → Option (List Sl)} {tt : EV Bool} {f : EV D} (hc : G.calm = true) (hN : G.N.Nodup) (hi : SI g G tg iter src)
    (hok : blkC G.N G.sc scope own = true) (hg : SG g (blkG G scope) tg T (own.map (·.2))) (ht : STs g (blkG G scope) ifs tt) (he : SE g (blkG G scope) elt f) (hs : setB iter = true) :
    SO g G (.ListComp elt [⟨tg, iter, ifs, 0⟩] scope pos) (oComp (own.map (·.2)) src T tt f) := fun X W gd tk => by
  obtain ⟨wi, p1, p2⟩ := hi X W gd tk
  have ok : BlkOk X.N X.env.scope scope own := by rw [gd.hN, gd.hs]; exact blkOk_by hok
  exact PE.weak (pe_lc (gd.calm hc).1 (by rw [gd.hN]; exact hN) p1 ok (fun s H C cl fp => hg _ (good_blk gd s H scope cl C fp)) (fun s H C cl fp => ht _ _ (good_blk gd s H scope cl C fp) no_takes) (fun s H C cl fp => he _ _ (good_blk gd s H scope cl C fp) no_takes) (folded_of hs))
    (lc_read (X := X) p2)
end
end G3

/-! G3j2: a def's promise where no repr is under way. -/
namespace G3
open PySem PySem.Spec PyProof.Rows L2
/-- as FnOk, asked only where no repr is under way -/
structure FnG (P : Program) (w : World) (K : PySem.W.Frag) (mg : Str → Option Value) (base : Heap) (ZX : CXT) (k : Nat) (f : Addr) (fd : FuncData) (ps : List Str) (sp : Sp) : Prop where
  ar : ∀ vs H Q E, sp vs H Q E → vs.length = ps.length
  go : ∀ (A : Around) (outer : List Env) (s : Shared) (H : Hp) (args : Args) (us : List Value) (vs : List V) (Q : VK) (E : XK), Room k A → A.guards = some [] → Env0 P w K mg base A outer s H →
    BindsTo s fd args (ps.zip us) → Vals vs us → sp vs H Q E → codeAny (model P w) A (.call (.ref f) args) (CR ZX outer P w H s Q E) s
section
variable {P : Program} {w : World} {K : PySem.W.Frag} {mg : Str → Option Value} {base : Heap} {ZX : CXT} {j k : Nat} {f : Addr} {fd : FuncData} {ps : List Str} {sp sp' : Sp}
theorem FnG.up (F : FnG P w K mg base ZX j f fd ps sp) (h : j ≤ k) : FnG P w K mg base ZX k f fd ps sp :=
  ⟨F.ar, fun A outer s H args us vs Q E r g => F.go A outer s H args us vs Q E (r.mono h) g⟩
theorem FnG.imp (F : FnG P w K mg base ZX k f fd ps sp) (h : ∀ vs H Q E, sp' vs H Q E → sp vs H Q E) : FnG P w K mg base ZX k f fd ps sp' where
  ar := fun vs H Q E q => F.ar vs H Q E (h _ _ _ _ q)
  go := fun A outer s H args us vs Q E r g e b v q => F.go A outer s H args us vs Q E r g e b v (h _ _ _ _ q)
end
/-! ### calls -/
section
variable {X : Cx} {ZX : CXT} {k : Nat} {f : Addr} {fd : FuncData} {ps : List Str} {sp : Sp} {x : Str} {p pos : Pos} {e : Expr} {es : List Expr} {t : TA}
/-- what comes of the callee's end -/
theorem end_of {pins : List (Addr × Obj)} {σ : L2.St} {H : Hp} {s : Shared} {Q : VK} {E : XK} (hx : PassesAt ZX X σ E) (I : Inv X pins σ H s) {r : Result} {s' : Shared} (h : CR ZX X.stack X.prog X.w H s Q E r s') :
    match r with
    | .ok (.ret v) => EP X pins σ Q v s'
    | .ok _ => False
    | .error u => X.xe u s' := by
  rcases r with u | fl
  · exact hx pins H s u s' I h
  · rcases fl with _ | _ | _ | v
    all_goals first | exact I.after h | exact h
theorem run_g {pins : List (Addr × Obj)} {σ : L2.St} {H : Hp} {s : Shared} {Q : VK} {E : XK} {us : List Value} {vs : List V} (F : FnG X.prog X.w X.K X.mg X.base ZX k f fd ps sp) (hr : Room k X.A) (hgd : X.A.guards = some []) (hb : Binds X.K fd ps []) (hx : PassesAt ZX X σ E)
    (I : Inv X pins σ H s) (r : Vals vs us) (h : sp vs H Q E) : wpAny (model X.prog X.w) X.A (call (.ref f) us) (EP X pins σ Q) X.xe s := by
  have n1 : us.length = ps.length := r.length.symm.trans (F.ar vs H Q E h)
  have bd := hb s us I.kIn (by simpa using n1)
  rw [List.append_nil] at bd
  have ran := F.go X.A X.stack s H ⟨us, []⟩ us vs Q E hr hgd I.env0 bd r h
  refine wpAny_call (codeAny_mono ran fun o s' z => ?_)
  have z' := end_of hx I z
  rcases o with u | fl
  · exact z'
  · rcases fl with _ | _ | _ | v
    all_goals first | exact z' | exact z'.elim
theorem pe_callG {E : L2.St → XK} (F : FnG X.prog X.w X.K X.mg X.base ZX k f fd ps sp) (hr : Room k X.A) (hgd : X.A.guards = some []) (hg : Gl X x) (hm : X.mg x = some (.ref f)) (hk : PySem.W.keepIn X.K (.ref f) = true) (hb : Binds X.K fd ps []) (hx : ∀ σ, PassesAt ZX X σ (E σ))
    (ha : PA X (e :: es) t) (hdb : (x == ("__debug__" : Str)) = false) (he : starEach (e :: es) X.env = (false, eval e X.env) :: starEach es X.env) (hpl : (backTo pos (starEach es X.env)).any (·.1) = false) :
    PE X (.Call (.Name x p) (e :: es) [] pos) (tCallS sp E t) := .mk fun pins s σ H Q I h =>
  wpAny_Call_Name_kw (ld_glob I hg hm (PySem.W.callWith_K (h₀ := X.base) I.ok.mod.kin hk (thn (ha.run pos pins s σ H _ I h) fun us s1 ⟨vs, H1, I1, r, q⟩ => ⟨I1.kIn, run_g F hr hgd hb (hx σ) I1 r q⟩) he hpl) hdb)
theorem pe_callG0 {E : L2.St → XK} (F : FnG X.prog X.w X.K X.mg X.base ZX k f fd ps sp) (hr : Room k X.A) (hgd : X.A.guards = some []) (hg : Gl X x) (hm : X.mg x = some (.ref f)) (hk : PySem.W.keepIn X.K (.ref f) = true) (hb : Binds X.K fd ps []) (hx : ∀ σ, PassesAt ZX X σ (E σ))
    (hdb : (x == ("__debug__" : Str)) = false) : PE X (.Call (.Name x p) [] [] pos) (tCallS sp E tNil) := .mk fun pins s σ H Q I h =>
  wpAny_Call_Name_kw (ld_glob I hg hm (PySem.W.callWith_K0 I.kIn hk (run_g (us := []) F hr hgd hb (hx σ) I .nil h)) hdb)
end
/-! ### a def by its body -/
section
variable {P : Program} {w : World} {K : PySem.W.Frag} {mg : Str → Option Value} {base : Heap} {ZX : CXT}
theorem fnG_of {x qual : Str} {st : Stmt} {f : Addr} {fd : FuncData} {N ps : List Str} {k : Nat} {sp : Sp} (F : Fun K x qual st f fd) (Sc : FnScope N ps (defScope st)) (ar : ∀ vs H Q E, sp vs H Q E → vs.length = ps.length)
    (hb : ∀ (cdv : Value) (A : Around) (outer : List Env) (s : Shared) (H : Hp) (vs : List V) (Q : VK) (E : XK), Room k (A.deeper (envOfC qual (defScope st) s.heap.objs.size f cdv)) → A.guards = some [] → sp vs H Q E →
      ∃ t, PSs (cxOf ZX P w K mg base N qual (defScope st) f cdv A outer s H E) (defBody st) t ∧ t { nx := fun _ H' => Q .non H', rt := Q } (L2.start N vs) H) : FnG P w K mg base ZX (k + 1) f fd ps sp := by
  obtain ⟨oc, od, kV, doc, pm, an, cdv, ct, osl, rfl, lk, hcd⟩ := F.ex
  refine .mk ar fun A outer s H args us vs Q E room gds e0 bnd rv hsp => ?_
  have kin : K.In s.heap := e0.mod.kin.keeps fun b o z => (e0.bs b o z).1
  have nol : s.heap.NoLimit := e0.mod.nolimit.keeps fun b o z => (e0.bs b o z).1
  have kinds : ∀ y ∈ ps.zip us, (defScope st).names.lookup y.1 = some .local ∨ ((defScope st).names.lookup y.1 = some .cell ∧ ((cellsFrom (s.heap.objs.size + 1) (defScope st).names []).lookup y.1).isSome = true) := by
    rintro ⟨n, v⟩ hy
    exact (Sc.par n (List.of_mem_zip hy).1).imp _root_.id fun q => ⟨q, PySem.W.cellsFrom_some _ _ _ (.inl q)⟩
  refine codeAny_call_function room.depth (kin _ _ lk) rfl Sc.co Sc.gen rfl (PySem.W.codeRec_of kin hcd) (bnd _ _ _ _ (wpAny_newFunctionEnv_cells Sc.kind kinds fun env he s1 xc => ?_))
  subst he
  refine .intro (nol.keeps xc.toInCall.keep) (codeAny_func ?_)
  obtain ⟨t, ht, hq⟩ := hb cdv A outer s H vs Q E (room.deeper _) gds hsp
  have I := inv_start (CX := ZX) (E := E) (P := P) (w := w) (qual := qual) (cd := cdv) (f := f) Sc room.hd e0 (ar _ _ _ _ hsp) rv xc
  refine wpAny_mono (ht.run [] s1 (L2.start N vs) H _ I hq) (fun fl s' z => ?_) fun _ _ z => z
  rcases fl with _ | _ | _ | u
  · obtain ⟨σ', H', J, q⟩ := z
    exact ⟨V.non, H', J.os, J.bare, J.base, J.hok, rfl, q⟩
  · exact z.choose_spec.choose_spec.2.elim
  · exact z.choose_spec.choose_spec.2.elim
  · obtain ⟨v, σ', H', J, ru, q⟩ := z
    exact ⟨v, H', J.os, J.bare, J.base, J.hok, ru, q⟩
end
/-! ### the law's end -/
section
variable {P : Program} {w : World} {K : PySem.W.Frag} {mg mb : Str → Option Value} {ZX : CXT} {k : Nat} {fa a : Addr} {fd : FuncData} {x : Str} {sp : Sp} {s₁ : Shared} {vs : List Value} {ns : List Int}
/-- what the caller looks at -/
def Kept (s₁ : Shared) : Result → Shared → Prop := fun r s' => r = .ok (.ret (.bool true)) ∧ OldK s₁.heap s'.heap ∧ s'.os = s₁.os ∧ AllBare s'.gens
/-- nothing but the script may be tracked -/
structure Lone (K : PySem.W.Frag) (P : Program) (w : World) (H : Hp) (h : Heap) (a : Addr) : Prop where
  only : Only H
  ok : HOk P w H h
  one : ∀ b, H b ≠ none → b = a
  kno : H a ≠ none → K.lookup a = none
theorem Lone.run {H : Hp} (L : Lone K P w H s₁.heap a) (KX : K.In s₁.heap) (hns : s₁.heap.Ns mainGlobals mg) (hb : s₁.heap.Ns builtinsNs mb) (hbb : ∀ x : Str, x ≠ "__name__" → mb x = bootBuiltins x) (hlim : s₁.heap.NoLimit) (hg : s₁.gens = #[])
    (ha : s₁.heap.get? a = some { cls := .type "list", data := .seq vs.toArray }) (hr : Room k callerA) (F : ∀ base : Heap, K.In base → base.Ns mainGlobals mg → FnG P w K mg base ZX k fa fd [x] sp)
    (hbind : ∀ (s : Shared) (u : Value), BindsTo s fd ⟨[u], []⟩ [(x, u)]) (hsp : sp [.ref a] H (fun v _ => v = .bl true) fun _ _ _ => False) (hCX : ∀ H e s', ZX [] H s₁ (fun _ _ _ => False) e s' → False) :
    codeAny (model P w) callerA (.call (.ref fa) ⟨[.ref a], []⟩) (Kept s₁) s₁ := by
  -- a dict is not the script
  have dic : ∀ {b : Addr} {o : Obj} {es : Array DictEntry} {ep : Nat}, s₁.heap.get? b = some o → o.data = .dict es ep → H b = none := by
    intro b o es ep e d
    by_cases z : H b = none
    · exact z
    · cases L.one b z
      rw [ha] at e
      cases e
      exact nomatch d
  have ns' : ∀ {b : Addr} {m : Str → Option Value}, s₁.heap.Ns b m → (hidT s₁.heap H).Ns b m := by
    rintro b m ⟨o, es, ep, e, d, r⟩
    exact ⟨o, es, ep, hidT_get e (dic e d), d, r⟩
  have kb : K.In (hidT s₁.heap H) := by
    intro b o e
    refine hidT_get (KX b o e) ?_
    by_cases z : H b = none
    · exact z
    · cases L.one b z
      exact nomatch (L.kno z).symm.trans e
  obtain ⟨mc, l1, l2⟩ := hlim
  have e0 : Env0 P w K mg (hidT s₁.heap H) callerA [] s₁ H := by
    refine { frames := rfl, mod := ⟨kb, ns' hns, ⟨mb, ns' hb, hbb⟩, ⟨mc, ns' l1, l2⟩⟩, bs := fun b o e => of_hidT e, bsz := Nat.le_of_eq (hidT_size _ _), funs := trivial, frf := ?_, hok := L.ok, bare := .of_eq hg }
    intro b hb
    cases hb
  have ran := (F _ kb (ns' hns)).go callerA [] s₁ H ⟨[.ref a], []⟩ [.ref a] [.ref a] _ _ hr rfl e0 (hbind s₁ (.ref a)) (.cons rfl .nil) hsp
  refine codeAny_mono ran fun r s' z => ?_
  rcases r with e | fl
  · exact (hCX H e s' z).elim
  rcases fl with _ | _ | _ | u
  · exact z.elim
  · exact z.elim
  · exact z.elim
  obtain ⟨v, H', os, bare, un, hok', ru, rfl⟩ := z
  cases ru
  refine ⟨rfl, OldK.of_keep fun b o e => ?_, os, bare⟩
  rcases L.only b with q | ⟨ob, xs, q⟩
  · refine un.keep b o e q ?_ ?_
    · intro z; cases z
    · intro z; cases z
  · have h1 := (L.ok b _ q).1
    rw [e] at h1
    cases h1
    exact (hok' b _ (un.frzs b _ _ q)).1
/-- the script as an object that is known whole -/
def frzS (a : Addr) (vs : List Value) (ns : List Int) : Hp := fun b => if b = a then some (.frz { cls := .type "list", data := .seq vs.toArray } (.lst (ns.map V.int))) else none
theorem lone_frz (ha : s₁.heap.get? a = some { cls := .type "list", data := .seq vs.toArray }) (hi : IntsAre vs ns) (hl : ns.length ≤ sizeLine) (hk : K.lookup a = none) : Lone K P w (frzS a vs ns) s₁.heap a ∧ SqL K (frzS a vs ns) a (ns.map V.int) := by
  have at_a : frzS a vs ns a = some (.frz { cls := .type "list", data := .seq vs.toArray } (.lst (ns.map V.int))) := if_pos rfl
  have off : ∀ b, b ≠ a → frzS a vs ns b = none := fun b z => if_neg z
  refine ⟨⟨fun b => ?_, fun b u z => ?_, fun b z => ?_, fun _ => hk⟩, .inl (.inr ⟨_, at_a⟩)⟩
  · by_cases q : b = a
    · subst q; exact .inr ⟨_, _, at_a⟩
    · exact .inl (off b q)
  · by_cases q : b = a
    · subst q
      rw [at_a] at z
      cases z
      exact ⟨ha, by simpa using hl, vs, _, vals_ints hi, ha⟩
    · rw [off b q] at z; cases z
  · exact Classical.byContradiction fun q => z (off b q)
theorem law_callG (KX : K.In s₁.heap) (hns : s₁.heap.Ns mainGlobals mg) (hb : s₁.heap.Ns builtinsNs mb) (hbb : ∀ x : Str, x ≠ "__name__" → mb x = bootBuiltins x) (hlim : s₁.heap.NoLimit) (hg : s₁.gens = #[])
    (ha : s₁.heap.get? a = some { cls := .type "list", data := .seq vs.toArray }) (hi : IntsAre vs ns) (hl : ns.length ≤ sizeLine) (hr : Room k callerA) (F : ∀ base : Heap, K.In base → base.Ns mainGlobals mg → FnG P w K mg base ZX k fa fd [x] sp)
    (hbind : ∀ (s : Shared) (u : Value), BindsTo s fd ⟨[u], []⟩ [(x, u)]) (hsp : ∀ H : Hp, Only H → SqL K H a (ns.map V.int) → sp [.ref a] H (fun v _ => v = .bl true) fun _ _ _ => False) (hCX : ∀ H e s', ZX [] H s₁ (fun _ _ _ => False) e s' → False) :
    codeAny (model P w) callerA (.call (.ref fa) ⟨[.ref a], []⟩) (Kept s₁) s₁ := by
  cases hk : K.lookup a with
  | none =>
    obtain ⟨L, sq⟩ := lone_frz (P := P) (w := w) ha hi hl hk
    exact L.run KX hns hb hbb hlim hg ha hr F hbind (hsp _ L.only sq) hCX
  | some o =>
    obtain rfl : o = { cls := .type "list", data := .seq vs.toArray } := by
      have e := KX a o hk
      rw [ha] at e
      cases e
      rfl
    have L : Lone K P w (fun _ => none) s₁.heap a := { only := fun _ => .inl rfl, ok := fun b u z => (by cases z), one := fun b z => absurd rfl z, kno := fun z => absurd rfl z }
    refine L.run KX hns hb hbb hlim hg ha hr F hbind (hsp _ L.only (.inr ⟨_, vs.toArray, _, hk, rfl, rfl, rfl, ?_, ?_⟩)) hCX
    · rw [List.size_toArray, hi.length]; exact hl
    · simpa using vals_ints hi
/-- a law over a head by facts -/
theorem walk_ofG {l : PySem.W.OpenLaw} {n k : Nat} {q : Program} {loose : List Str} {XP : (Str → Option Value) → Heap → Prop} {YP : World → Heap → Prop} {d : DefRec} {x : Str} {ZW : World → CXT} (hn : l.most = some n) (hn2 : n ≤ sizeLine) (hdf : d.params.defaults = []) (hr : Room k callerA)
    (F : ∀ (w : World) (mg : Str → Option Value) (fa : Addr) (h : Heap), YP w h → h.Ns mainGlobals mg → mg d.name = some (.ref fa) → ∃ (K : PySem.W.Frag) (fd : FuncData) (sp : Sp), K.In h ∧ (∀ (s : Shared) (u : Value), BindsTo s fd ⟨[u], []⟩ [(x, u)]) ∧
        (∀ (H : Hp) (a : Addr) (ns : List Int), ns.length ≤ n → Only H → SqL K H a (ns.map V.int) → sp [.ref a] H (fun v _ => v = .bl true) fun _ _ _ => False) ∧ ∀ base : Heap, K.In base → base.Ns mainGlobals mg → FnG l.prog w K mg base (ZW w) k fa fd [x] sp)
    (hCX : ∀ (w : World) (H : Hp) (s : Shared) (e : Value) (s' : Shared), ZW w [] H s (fun _ _ _ => False) e s' → False) : PySem.W.WalkO q loose XP YP l.row.toRowW d [] (fun f vs => PySem.call f vs) := by
  refine Att.attach_call hn hdf ?_
  intro w s₀ s₁ mg mb fa o pm cd doc a vs ns G Y ho hd hcd hmg hobj hints hlen hg
  obtain ⟨K, fd, sp, KX, bd, hsp, hF⟩ := F w mg fa _ Y G.T.g hmg
  exact law_callG KX G.T.g G.T.b G.T.builtins G.T.nolimit hg hobj hints (Nat.le_trans hlen hn2) hr hF bd (fun H hO hS => hsp H a ns hlen hO hS) fun H e s' => hCX w H s₁ e s'
end
end G3

/-! G3k: defs and their calls. -/
namespace G3
open PySem PySem.Spec PyProof.Rows L2
/-- how a def's run ends: the value, and what stands in the parameters that are the caller's lists -/
inductive FR where
  | sh (d : D) (outs : List Sl) | own (ds : List D) (outs : List Sl) | ex (c : Str) (fs : List (Str × D)) (outs : List Sl)
def keepIo (a e : Sl) : Sl := match a with
  | .ow true _ => e
  | _ => .un
def outsOf (args env' : List Sl) : List Sl := List.zipWith keepIo args env'
def fnF (n : Nat) (b : SV) (args : List Sl) : Option FR := match b (args ++ List.replicate (n - args.length) .un) with
  | none => none
  | some (.ok .nx env') => some (.sh .non (outsOf args env'))
  | some (.ok (.rt (.sh d)) env') => some (.sh d (outsOf args env'))
  | some (.ok (.rt (.own ds)) env') => some (.own ds (outsOf args env'))
  | some (.ex c fs env') => some (.ex c fs (outsOf args env'))
section
variable (K : PySem.W.Frag) (mg : Str → Option Value)
def spF (n : Nat) (F : List Sl → Option FR) : Sp := fun vs H Q E => vs.length = n ∧ ∃ args S r, Rep K mg args S (vs.map some) H ∧ F args = some r ∧ match r with
  | .sh d outs => ∀ v S' H', Stp args (vs.map some) S H outs (vs.map some) S' H' → Rep K mg outs S' (vs.map some) H' → Rp K mg S' v d → Q v H'
  | .own ds outs => ∀ a xs S' H', Stp args (vs.map some) S H outs (vs.map some) S' H' → Rep K mg outs S' (vs.map some) H' → H a = none → S' a = none → ¬ Own outs (vs.map some) a → H' a = some (.lst xs) → RpA K mg S' xs ds → Q (.ref a) H'
  | .ex c fs outs => ∀ cls dd S' H', Stp args (vs.map some) S H outs (vs.map some) S' H' → Rep K mg outs S' (vs.map some) H' → ExR K mg S' c fs cls dd → E cls dd H'
end
section
variable {K : PySem.W.Frag} {mg : Str → Option Value} {args env' : List Sl} {σ' : L2.St} {vs : List V} {N : List Str} {S S' H H' : Hp}
theorem app_get {α : Type} {l m : List α} {j : Nat} {x : α} (h : l[j]? = some x) : (l ++ m)[j]? = some x := by
  rw [List.getElem?_append_left (List.getElem?_eq_some_iff.mp h).1]; exact h
theorem get_app {l : List Sl} {k j : Nat} {x : Sl} (h : (l ++ List.replicate k Sl.un)[j]? = some x) (n : x ≠ .un) : l[j]? = some x := by
  by_cases z : j < l.length
  · rw [List.getElem?_append_left z] at h; exact h
  · rw [List.getElem?_append_right (Nat.not_lt.mp z)] at h
    rw [List.getElem?_replicate] at h
    split at h
    · cases h; exact absurd rfl n
    · cases h
theorem st_app {vs : List V} {k j : Nat} {x : V} (h : (vs.map some ++ List.replicate k none)[j]? = some (some x)) : (vs.map some)[j]? = some (some x) := by
  by_cases z : j < (vs.map some).length
  · rw [List.getElem?_append_left z] at h; exact h
  · rw [List.getElem?_append_right (Nat.not_lt.mp z)] at h
    rw [List.getElem?_replicate] at h
    split at h <;> cases h
theorem Rep.enter (r : Rep K mg args S (vs.map some) H) (hn : vs.length ≤ N.length) : Rep K mg (args ++ List.replicate (N.length - args.length) .un) S (L2.start N vs) H := by
  have hl : args.length = vs.length := by rw [r.len, List.length_map]
  refine ⟨r.sub, ?_, fun j d e => ?_, fun j k ds e => ?_, fun i j k l ds es a e1 e2 e3 e4 => ?_⟩
  · unfold L2.start
    rw [List.length_append, List.length_append, List.length_replicate, List.length_replicate, List.length_map, hl]
  · obtain ⟨v, h1, h2⟩ := r.sh j d (get_app e (fun z => nomatch z))
    exact ⟨v, app_get h1, h2⟩
  · obtain ⟨a, xs, h1, h2⟩ := r.ow j k ds (get_app e (fun z => nomatch z))
    exact ⟨a, xs, app_get h1, h2⟩
  · exact r.inj i j k l ds es a (get_app e1 (fun z => nomatch z)) (get_app e2 (fun z => nomatch z)) (st_app e3) (st_app e4)
theorem outs_get {j : Nat} {x : Sl} (h : (outsOf args env')[j]? = some x) (n : x ≠ .un) : (∃ ds, args[j]? = some (.ow true ds)) ∧ env'[j]? = some x := by
  unfold outsOf at h
  rw [List.getElem?_zipWith] at h
  cases z1 : args[j]? with
  | none => rw [z1] at h; cases h
  | some a =>
    rw [z1] at h
    cases z2 : env'[j]? with
    | none => rw [z2] at h; cases h
    | some e =>
      rw [z2] at h
      have h' := Option.some.inj h
      cases a with
      | un => exact absurd h'.symm n
      | sh d => exact absurd h'.symm n
      | ow k ds =>
        cases k with
        | false => exact absurd h'.symm n
        | true => exact ⟨⟨ds, rfl⟩, by rw [← h']; rfl⟩
theorem own_outs (r0 : Rep K mg args S (vs.map some) H) (hn : vs.length ≤ N.length) (st : Stp (args ++ List.replicate (N.length - args.length) .un) (L2.start N vs) S H env' σ' S' H') {a : Addr} (x : Own (outsOf args env') (vs.map some) a) : Own env' σ' a := by
  have ha : args.length = vs.length := by rw [r0.len, List.length_map]
  obtain ⟨j, k, ds, h1, h2⟩ := x
  obtain ⟨⟨ds', q1⟩, q2⟩ := outs_get h1 (fun z => nomatch z)
  obtain ⟨w1, _⟩ := st.fix j ds' (app_get q1)
  refine ⟨j, k, ds, q2, ?_⟩
  rw [w1]
  unfold L2.start
  rw [List.getElem?_append_left (by have := (List.getElem?_eq_some_iff.mp q1).1; simp; omega)]
  exact h2
theorem Rep.leave (r0 : Rep K mg args S (vs.map some) H) (hn : vs.length ≤ N.length) (st : Stp (args ++ List.replicate (N.length - args.length) .un) (L2.start N vs) S H env' σ' S' H') (r : Rep K mg env' S' σ' H') :
    Rep K mg (outsOf args env') S' (vs.map some) H' ∧ Stp args (vs.map some) S H (outsOf args env') (vs.map some) S' H' := by
  have ha : args.length = vs.length := by rw [r0.len, List.length_map]
  have hl : σ'.length = N.length := by
    rw [st.len]
    unfold L2.start
    rw [List.length_append, List.length_replicate, List.length_map]
    omega
  have he : env'.length = N.length := by rw [r.len, hl]
  have ofix : ∀ {j ds}, args[j]? = some (Sl.ow true ds) → σ'[j]? = (vs.map some)[j]? ∧ ∃ ds', env'[j]? = some (Sl.ow true ds') := fun {j ds} e => by
    obtain ⟨h1, h2⟩ := st.fix j ds (app_get e)
    refine ⟨?_, h2⟩
    rw [h1]
    unfold L2.start
    rw [List.getElem?_append_left (by have := (List.getElem?_eq_some_iff.mp e).1; simp; omega)]
  have owns : ∀ a, Own (outsOf args env') (vs.map some) a → Own env' σ' a := fun a ⟨j, k, ds, h1, h2⟩ => by
    obtain ⟨⟨ds', q1⟩, q2⟩ := outs_get h1 (fun z => nomatch z)
    exact ⟨j, k, ds, q2, by rw [(ofix q1).1]; exact h2⟩
  have ownA : ∀ a, Own (args ++ List.replicate (N.length - args.length) .un) (L2.start N vs) a → Own args (vs.map some) a := fun a ⟨j, k, ds, h1, h2⟩ => ⟨j, k, ds, get_app h1 (fun z => nomatch z), st_app h2⟩
  refine ⟨⟨r.sub, ?_, fun j d e => ?_, fun j k ds e => ?_, fun i j k l ds es a e1 e2 e3 e4 => ?_⟩, ⟨st.up, fun a o h => ?_, fun a o h n => ?_, fun a h => ?_, st.there, fun j ds e => ⟨rfl, ?_⟩, rfl⟩⟩
  · unfold outsOf
    rw [List.length_zipWith, List.length_map, he, ha]
    omega
  · obtain ⟨⟨ds', q1⟩, q2⟩ := outs_get e (fun z => nomatch z)
    obtain ⟨_, ds2, q3⟩ := ofix q1
    rw [q3] at q2; cases q2
  · obtain ⟨⟨ds', q1⟩, q2⟩ := outs_get e (fun z => nomatch z)
    obtain ⟨a, xs, h1, h2⟩ := r.ow j k ds q2
    rw [(ofix q1).1] at h1
    exact ⟨a, xs, h1, h2⟩
  · obtain ⟨⟨ds', q1⟩, q2⟩ := outs_get e1 (fun z => nomatch z)
    obtain ⟨⟨ds'', q3⟩, q4⟩ := outs_get e2 (fun z => nomatch z)
    exact r.inj i j k l ds es a q2 q4 (by rw [(ofix q1).1]; exact e3) (by rw [(ofix q3).1]; exact e4)
  · rcases st.new a o h with q | q | q
    · exact .inl q
    · exact .inr (.inl q)
    · exact .inr (.inr (ownA a q))
  · exact st.keep a o h fun x => n (ownA a x)
  · rcases st.own a (owns a h) with q | q
    · exact .inl (ownA a q)
    · exact .inr q
  · obtain ⟨_, ds', h⟩ := ofix e
    refine ⟨ds', ?_⟩
    unfold outsOf
    rw [List.getElem?_zipWith, e, h]
    rfl
end
/-! ### a def of the text -/
/-- the def that stands at the module's name x computes F -/
structure FnS (g : Gr) (x : Str) (n k : Nat) (F : List Sl → Option FR) : Prop where
  ex : ∃ (f : Addr) (fd : FuncData) (ps : List Str), g.mg x = some (.ref f) ∧ PySem.W.keepIn g.K (.ref f) = true ∧ Binds g.K fd ps [] ∧ FnG g.P g.w g.K g.mg g.base (L2.CX g.P g.w) k f fd ps (spF g.K g.mg n F)
theorem FnS.imp {g : Gr} {x : Str} {n k : Nat} {F F' : List Sl → Option FR} (h : FnS g x n k F) (i : ∀ args r, F' args = some r → F args = some r) : FnS g x n k F' := by
  obtain ⟨f, fd, ps, h1, h2, h3, h4⟩ := h.ex
  exact ⟨f, fd, ps, h1, h2, h3, h4.imp fun vs H Q E ⟨q1, args, S, r, q2, q3, q4⟩ => ⟨q1, args, S, r, q2, i args r q3, q4⟩⟩
theorem FnS.up {g : Gr} {x : Str} {n k k' : Nat} {F : List Sl → Option FR} (h : FnS g x n k F) (i : k ≤ k') : FnS g x n k' F := by
  obtain ⟨f, fd, ps, h1, h2, h3, h4⟩ := h.ex
  exact ⟨f, fd, ps, h1, h2, h3, h4.up i⟩
def defG (N : List Str) (sc : Scope) (k : Nat) : Ctx := { N := N, sc := sc, k := k, fn := fun _ => true, calm := true, top := true }
theorem fn_ok {g : Gr} {x qual : Str} {st : Stmt} {f : Addr} {fd : FuncData} {N ps : List Str} {k : Nat} {b : SV} (F : Fun g.K x qual st f fd) (Sc : FnScope N ps (defScope st)) (hn : ps.length ≤ N.length) (hb : SSs g (defG N (defScope st) k) (defBody st) b) :
    FnG g.P g.w g.K g.mg g.base (L2.CX g.P g.w) (k + 1) f fd ps (spF g.K g.mg ps.length (fnF N.length b)) := by
  refine fnG_of F Sc (fun vs H Q E h => h.1) (fun cdv A outer s H vs Q E hr hgd ⟨hl, args, S, r, rep, e, q⟩ => ?_)
  have tk : Takes (cxOf (L2.CX g.P g.w) g.P g.w g.K g.mg g.base N qual (defScope st) f cdv A outer s H E) (fun cls d _ H => E cls d H) := takes_of rfl rfl rfl rfl
  have gd : Good g (defG N (defScope st) k) (cxOf (L2.CX g.P g.w) g.P g.w g.K g.mg g.base N qual (defScope st) f cdv A outer s H E) :=
    ⟨rfl, rfl, rfl, rfl, rfl, rfl, rfl, fun _ _ => rfl, fun _ => ⟨rfl, hr⟩, hgd, fun _ => ⟨rfl, rfl, passes_of rfl⟩⟩
  have hvs : vs.length ≤ N.length := by rw [hl]; exact hn
  refine ⟨tS g.K g.mg (fun cls d _ H => E cls d H) b, hb _ _ gd tk, args ++ List.replicate (N.length - args.length) .un, S, rep.enter hvs, ?_⟩
  unfold fnF at e
  cases z : b (args ++ List.replicate (N.length - args.length) .un) with
  | none => rw [z] at e; cases e
  | some r1 =>
    rw [z] at e
    refine ⟨r1, z, ?_⟩
    cases r1 with
    | ex c fs env' =>
      cases e
      intro cls dd σ' S' H' st' rep' x
      obtain ⟨q1, q2⟩ := Rep.leave rep hvs st' rep'
      exact q cls dd S' H' q2 q1 x
    | ok fl env' =>
      intro σ' S' H' st' rep'
      obtain ⟨q1, q2⟩ := Rep.leave rep hvs st' rep'
      cases fl with
      | nx => cases e; exact q _ S' H' q2 q1 .non
      | rt w => cases w with
        | sh d => cases e; exact fun v rv => q v S' H' q2 q1 rv
        | own ds =>
          cases e
          refine fun a xs n0 n1 hl ra n2 => q a xs S' H' q2 q1 n0 n1 (fun x => n2 ?_) hl ra
          exact own_outs rep hvs st' x
end G3

/-! G3l: calls of the text's own defs. -/
namespace G3
open PySem PySem.Spec PyProof.Rows L2
/-- an argument: a value, or the frame's own list in a slot, handed on to be changed -/
inductive AR where
  | s (d : D) | io (i : Nat)
def isIo (j : Nat) : AR → Bool
  | .io i => i == j
  | _ => false
def ios : List AR → List Nat
  | [] => []
  | .io i :: r => i :: ios r
  | .s _ :: r => ios r
def mkArg (env : List Sl) : AR → Option Sl
  | .s d => some (.sh d)
  | .io i => match env[i]? with
    | some (.ow _ ds) => some (.ow true ds)
    | _ => none
def mkArgs (env : List Sl) : List AR → Option (List Sl)
  | [] => some []
  | a :: r => (mkArg env a).bind fun x => (mkArgs env r).map fun xs => x :: xs
def mergeIo (sl : Sl) (o : Option Sl) : Sl := match sl, o with
  | .ow k _, some (.ow _ ds) => .ow k ds
  | sl, _ => sl
/-- the slots behind a call -/
def backE (env : List Sl) (ars : List AR) (outs : List Sl) : List Sl := env.mapIdx fun j sl => match ars.findIdx? (isIo j) with
  | none => sl
  | some p => mergeIo sl (outs[p]?)
inductive RelAR (K : PySem.W.Frag) (mg : Str → Option Value) (S : Hp) (σ : L2.St) : List AR → List V → Prop
  | nil : RelAR K mg S σ [] []
  | s {d : D} {v : V} {ars : List AR} {vs : List V} : Rp K mg S v d → RelAR K mg S σ ars vs → RelAR K mg S σ (.s d :: ars) (v :: vs)
  | io {i : Nat} {v : V} {ars : List AR} {vs : List V} : σ[i]? = some (some v) → RelAR K mg S σ ars vs → RelAR K mg S σ (.io i :: ars) (v :: vs)
section
variable {K : PySem.W.Frag} {mg : Str → Option Value} {env outs args : List Sl} {σ : L2.St} {S S' H H' : Hp} {ars : List AR} {vs : List V}
theorem RelAR.mono (h : Le S S') : ∀ {ars : List AR} {vs : List V}, RelAR K mg S σ ars vs → RelAR K mg S' σ ars vs
  | _, _, .nil => .nil
  | _, _, .s a b => .s (a.mono h) (RelAR.mono h b)
  | _, _, .io a b => .io a (RelAR.mono h b)
theorem RelAR.length : ∀ {ars : List AR} {vs : List V}, RelAR K mg S σ ars vs → vs.length = ars.length
  | _, _, .nil => rfl
  | _, _, .s _ b => by simp [RelAR.length b]
  | _, _, .io _ b => by simp [RelAR.length b]
theorem mkArgs_length : ∀ {ars : List AR} {args : List Sl}, mkArgs env ars = some args → args.length = ars.length
  | [], _, h => by cases h; rfl
  | a :: r, args, h => by
    unfold mkArgs at h
    cases z1 : mkArg env a with
    | none => rw [z1] at h; cases h
    | some x =>
      rw [z1] at h
      cases z2 : mkArgs env r with
      | none => rw [z2] at h; cases h
      | some xs => rw [z2] at h; cases h; simp [mkArgs_length z2]
/-- what an argument's slot holds -/
theorem args_at : ∀ {ars : List AR} {args : List Sl} {vs : List V} {p : Nat} {sl : Sl}, RelAR K mg S σ ars vs → mkArgs env ars = some args → args[p]? = some sl →
    (∃ d v, ars[p]? = some (.s d) ∧ sl = .sh d ∧ vs[p]? = some v ∧ Rp K mg S v d) ∨ (∃ i k ds v, ars[p]? = some (.io i) ∧ env[i]? = some (.ow k ds) ∧ sl = .ow true ds ∧ vs[p]? = some v ∧ σ[i]? = some (some v))
  | [], args, vs, p, sl, r, h, e => by cases h; simp at e
  | a :: ar, args, vs, p, sl, r, h, e => by
    unfold mkArgs at h
    cases z1 : mkArg env a with
    | none => rw [z1] at h; cases h
    | some x =>
      rw [z1] at h
      cases z2 : mkArgs env ar with
      | none => rw [z2] at h; cases h
      | some xs =>
        rw [z2] at h
        cases h
        cases p with
        | zero =>
          have e' : x = sl := by simpa using e
          subst e'
          cases r with
          | s h1 h2 => cases z1; exact .inl ⟨_, _, rfl, rfl, rfl, h1⟩
          | io h1 h2 =>
            unfold mkArg at z1
            dsimp only at z1
            split at z1
            · rename_i k ds q
              cases z1
              exact .inr ⟨_, k, ds, _, rfl, q, rfl, rfl, h1⟩
            · cases z1
        | succ p =>
          have e' : xs[p]? = some sl := by simpa using e
          cases r with
          | s h1 h2 =>
            rcases args_at h2 z2 e' with ⟨d, v, q1, q2, q3, q4⟩ | ⟨i, k, ds, v, q1, q2, q3, q4, q5⟩
            · exact .inl ⟨d, v, by simpa using q1, q2, by simpa using q3, q4⟩
            · exact .inr ⟨i, k, ds, v, by simpa using q1, q2, q3, by simpa using q4, q5⟩
          | io h1 h2 =>
            rcases args_at h2 z2 e' with ⟨d, v, q1, q2, q3, q4⟩ | ⟨i, k, ds, v, q1, q2, q3, q4, q5⟩
            · exact .inl ⟨d, v, by simpa using q1, q2, by simpa using q3, q4⟩
            · exact .inr ⟨i, k, ds, v, by simpa using q1, q2, q3, by simpa using q4, q5⟩
theorem ios_nodup : ∀ {ars : List AR} {p q i : Nat}, (ios ars).Nodup → ars[p]? = some (.io i) → ars[q]? = some (.io i) → p = q
  | [], _, _, _, _, h, _ => by simp at h
  | .s d :: r, p, q, i, n, h1, h2 => by
    cases p with
    | zero => simp at h1
    | succ p => cases q with
      | zero => simp at h2
      | succ q => exact congrArg (· + 1) (ios_nodup (ars := r) (i := i) n (by simpa using h1) (by simpa using h2))
  | .io j :: r, p, q, i, n, h1, h2 => by
    have n' : j ∉ ios r ∧ (ios r).Nodup := List.nodup_cons.mp n
    have mem : ∀ {ar : List AR} {p i : Nat}, ar[p]? = some (.io i) → i ∈ ios ar := by
      intro ar
      induction ar with
      | nil => intro p i h; simp at h
      | cons a ar ih =>
        intro p i h
        cases p with
        | zero =>
          have e : a = .io i := by simpa using h
          subst e
          exact List.mem_cons_self
        | succ p =>
          have := ih (p := p) (i := i) (by simpa using h)
          cases a with
          | s d => exact this
          | io k => exact List.mem_cons_of_mem _ this
    cases p with
    | zero => cases q with
      | zero => rfl
      | succ q =>
        have e : j = i := by simpa using h1
        subst e
        exact absurd (mem (by simpa using h2)) n'.1
    | succ p => cases q with
      | zero =>
        have e : j = i := by simpa using h2
        subst e
        exact absurd (mem (by simpa using h1)) n'.1
      | succ q => exact congrArg (· + 1) (ios_nodup (ars := r) (i := i) n'.2 (by simpa using h1) (by simpa using h2))
theorem findIo_some {p j : Nat} (h : ars.findIdx? (isIo j) = some p) : ars[p]? = some (.io j) := by
  obtain ⟨h1, h2, _⟩ := List.findIdx?_eq_some_iff_getElem.mp h
  rw [List.getElem?_eq_getElem h1]
  cases q : ars[p] with
  | s d => rw [q] at h2; cases h2
  | io i =>
    rw [q] at h2
    have e : i = j := by simpa [isIo] using h2
    rw [e]
theorem findIo_none {p j : Nat} (h : ars.findIdx? (isIo j) = none) : ars[p]? ≠ some (.io j) := fun e => by
  have := List.findIdx?_eq_none_iff.mp h (.io j) (List.mem_of_getElem? e)
  simp [isIo] at this
theorem backE_get {j : Nat} : (backE env ars outs)[j]? = env[j]?.map fun sl => match ars.findIdx? (isIo j) with
    | none => sl
    | some p => mergeIo sl (outs[p]?) := by
  unfold backE
  rw [List.getElem?_mapIdx]
theorem backE_length : (backE env ars outs).length = env.length := by unfold backE; rw [List.length_mapIdx]
/-- the callee's parameters -/
theorem Rep.argsR (r : Rep K mg env S σ H) (ra : RelAR K mg S σ ars vs) (hm : mkArgs env ars = some args) (hn : (ios ars).Nodup) : Rep K mg args S (vs.map some) H where
  sub := r.sub
  len := by rw [List.length_map, ra.length, mkArgs_length hm]
  sh := fun p d e => by
    rcases args_at ra hm e with ⟨d', v, q1, q2, q3, q4⟩ | ⟨i, k, ds, v, q1, q2, q3, q4, q5⟩
    · cases q2; exact ⟨v, by rw [List.getElem?_map, q3]; rfl, q4⟩
    · cases q3
  ow := fun p k ds e => by
    rcases args_at ra hm e with ⟨d', v, q1, q2, q3, q4⟩ | ⟨i, k', ds', v, q1, q2, q3, q4, q5⟩
    · cases q2
    · cases q3
      obtain ⟨a, xs, h1, h2⟩ := r.ow i k' _ q2
      rw [q5] at h1; cases h1
      exact ⟨a, xs, by rw [List.getElem?_map, q4]; rfl, h2⟩
  inj := fun p q k l ds es a e1 e2 e3 e4 => by
    rcases args_at ra hm e1 with ⟨d', v, q1, q2, q3, q4⟩ | ⟨i, k', ds', v, q1, q2, q3, q4, q5⟩
    · cases q2
    · rcases args_at ra hm e2 with ⟨d', v', w1, w2, w3, w4⟩ | ⟨i', l', es', v', w1, w2, w3, w4, w5⟩
      · cases w2
      · rw [List.getElem?_map, q4] at e3
        rw [List.getElem?_map, w4] at e4
        cases e3; cases e4
        have := r.inj i i' k' l' ds' es' a q2 w2 q5 w5
        subst this
        exact ios_nodup hn q1 w1
theorem own_args (ra : RelAR K mg S σ ars vs) (hm : mkArgs env ars = some args) {a : Addr} (x : Own args (vs.map some) a) : ∃ (p i : Nat) (k : Bool) (ds : List D), ars[p]? = some (.io i) ∧ env[i]? = some (.ow k ds) ∧ σ[i]? = some (some (.ref a)) := by
  obtain ⟨p, k, ds, e, e1⟩ := x
  rcases args_at ra hm e with ⟨d', v, q1, q2, q3, q4⟩ | ⟨i, k', ds', v, q1, q2, q3, q4, q5⟩
  · cases q2
  · rw [List.getElem?_map, q4] at e1
    cases e1
    exact ⟨p, i, k', ds', q1, q2, q5⟩
/-- behind the call -/
theorem Rep.back (r : Rep K mg env S σ H) (ra : RelAR K mg S σ ars vs) (hm : mkArgs env ars = some args) (hn : (ios ars).Nodup) (st : Stp args (vs.map some) S H outs (vs.map some) S' H') (ro : Rep K mg outs S' (vs.map some) H') :
    Rep K mg (backE env ars outs) S' σ H' ∧ Stp env σ S H (backE env ars outs) σ S' H' ∧ ∀ a, Own (backE env ars outs) σ a → Own env σ a := by
  have r0 := r.argsR ra hm hn
  -- what a slot holds behind the call
  have get : ∀ {j : Nat} {sl : Sl}, (backE env ars outs)[j]? = some sl → (ars.findIdx? (isIo j) = none ∧ env[j]? = some sl) ∨ (∃ (p : Nat) (sl0 : Sl), ars[p]? = some (.io j) ∧ env[j]? = some sl0 ∧ sl = mergeIo sl0 (outs[p]?)) := fun {j sl} e => by
    rw [backE_get] at e
    cases z : env[j]? with
    | none => rw [z] at e; cases e
    | some sl0 =>
      rw [z] at e
      cases q : ars.findIdx? (isIo j) with
      | none => rw [q] at e; cases e; exact .inl ⟨rfl, rfl⟩
      | some p => rw [q] at e; cases e; exact .inr ⟨p, sl0, findIo_some q, rfl, rfl⟩
  have io_out : ∀ {p j : Nat} {k : Bool} {ds : List D}, ars[p]? = some (.io j) → env[j]? = some (.ow k ds) → ∃ (v : V) (ds' : List D), outs[p]? = some (.ow true ds') ∧ vs[p]? = some v ∧ σ[j]? = some (some v) := fun {p j k ds} h1 h2 => by
    have hp : p < ars.length := (List.getElem?_eq_some_iff.mp h1).1
    have hp2 : p < args.length := by rw [mkArgs_length hm]; exact hp
    rcases args_at ra hm (List.getElem?_eq_getElem hp2) with ⟨d', v, q1, q2, q3, q4⟩ | ⟨i, k', ds', v, q1, q2, q3, q4, q5⟩
    · rw [h1] at q1; cases q1
    · rw [h1] at q1; cases q1
      obtain ⟨_, ds2, f2⟩ := st.fix p ds' (by rw [List.getElem?_eq_getElem hp2, q3])
      exact ⟨v, ds2, f2, q4, q5⟩
  have owns : ∀ {j : Nat} {k : Bool} {ds : List D}, (backE env ars outs)[j]? = some (Sl.ow k ds) → ∃ ds0 : List D, env[j]? = some (.ow k ds0) := fun {j k ds} e => by
    rcases get e with ⟨_, e⟩ | ⟨p, sl0, h1, h2, h3⟩
    · exact ⟨ds, e⟩
    · cases sl0 with
      | un => cases h3
      | sh d => cases h3
      | ow k' ds' =>
        obtain ⟨v, ds2, f1, f2, f3⟩ := io_out h1 h2
        rw [f1] at h3
        cases h3
        exact ⟨ds', h2⟩
  refine ⟨⟨ro.sub, by rw [backE_length]; exact r.len, fun j d e => ?_, fun j k ds e => ?_, fun i j k l ds es a e1 e2 e3 e4 => ?_⟩, ⟨st.up, fun a o h => ?_, fun a o h n => ?_, fun a ⟨j, k, ds, e, e1⟩ => ?_, st.there, fun j ds e => ⟨rfl, ?_⟩, rfl⟩, fun a ⟨j, k, ds, e, e1⟩ => ?_⟩
  · rcases get e with ⟨_, e⟩ | ⟨p, sl0, h1, h2, h3⟩
    · obtain ⟨v, q1, q2⟩ := r.sh j d e
      exact ⟨v, q1, q2.mono st.up⟩
    · cases sl0 with
      | un => cases h3
      | sh d' => cases h3; obtain ⟨v, q1, q2⟩ := r.sh j _ h2; exact ⟨v, q1, q2.mono st.up⟩
      | ow k' ds' =>
        obtain ⟨v, ds2, f1, f2, f3⟩ := io_out h1 h2
        rw [f1] at h3
        cases h3
  · rcases get e with ⟨hnone, e⟩ | ⟨p, sl0, h1, h2, h3⟩
    · obtain ⟨a, xs, q1, q2, q3, q4⟩ := r.ow j k ds e
      have nown : ¬ Own args (vs.map some) a := fun x => by
        obtain ⟨p, i, k', ds', w1, w2, w3⟩ := own_args ra hm x
        have := r.inj i j k' k ds' ds a w2 e w3 q1
        subst this
        exact findIo_none hnone w1
      refine ⟨a, xs, q1, ?_, st.keep a _ q3 nown, q4.mono st.up⟩
      cases z : S' a with
      | none => rfl
      | some o =>
        rcases st.new a o z with w | w | w
        · rw [q2] at w; cases w
        · rw [q3] at w; cases w
        · exact absurd w nown
    · cases sl0 with
      | un => cases h3
      | sh d' => cases h3
      | ow k' ds' =>
        obtain ⟨v, ds2, f1, f2, f3⟩ := io_out h1 h2
        rw [f1] at h3
        cases h3
        obtain ⟨a, xs, q1, q2⟩ := ro.ow p true ds f1
        rw [List.getElem?_map, f2] at q1
        cases q1
        exact ⟨a, xs, f3, q2⟩
  · obtain ⟨ds0, w1⟩ := owns e1
    obtain ⟨es0, w2⟩ := owns e2
    exact r.inj i j k l ds0 es0 a w1 w2 e3 e4
  · rcases st.new a o h with q | q | q
    · exact .inl q
    · exact .inr (.inl q)
    · obtain ⟨p, i, k, ds, w1, w2, w3⟩ := own_args ra hm q
      exact .inr (.inr ⟨i, k, ds, w2, w3⟩)
  · refine st.keep a o h fun x => n ?_
    obtain ⟨p, i, k, ds, w1, w2, w3⟩ := own_args ra hm x
    exact ⟨i, k, ds, w2, w3⟩
  · obtain ⟨ds0, w1⟩ := owns e
    exact .inl ⟨j, k, ds0, w1, e1⟩
  · rw [backE_get, e]
    cases q : ars.findIdx? (isIo j) with
    | none => exact ⟨ds, rfl⟩
    | some p =>
      obtain ⟨v, ds2, f1, f2, f3⟩ := io_out (findIo_some q) e
      exact ⟨ds2, by simp [mergeIo, f1]⟩
  · obtain ⟨ds0, w1⟩ := owns e
    exact ⟨j, k, ds0, w1, e1⟩
end
/-! ### argument lists of a call -/
section
variable {g : Gr} {G : Ctx} {e : Expr} {es : List Expr} {pos : Pos}
def tAR (K : PySem.W.Frag) (mg : Str → Option Value) (W : WX) (f : EV (List AR)) : TA := fun σ H Q => ∃ env S, Rep K mg env S σ H ∧ Run K mg W f σ env S H fun ars _ S' H' => ∀ vs, RelAR K mg S' σ ars vs → Q vs H'
def SAR (g : Gr) (G : Ctx) (es : List Expr) (f : EV (List AR)) : Prop := ∀ X W, Good g G X → Takes X W → PA X es (tAR g.K g.mg W f)
def rNil : EV (List AR) := ret []
def rCons (f : EV D) (h : EV (List AR)) : EV (List AR) := bnd f fun d => bnd h fun ds => ret (.s d :: ds)
/-- a slot with a list of the frame's own, handed on -/
def rIo (i : Nat) (h : EV (List AR)) : EV (List AR) := bnd (chkO i) fun _ => bnd h fun ds => ret (.io i :: ds)
theorem sar_nil : SAR g G [] rNil := fun X W gd tk => PA.weak pa_nil fun σ H Q ⟨env, S, rep, q⟩ => q.ret rep _ .nil
theorem sar_cons {f : EV D} {h : EV (List AR)} (ha : SE g G e f) (hr : SAR g G es h) (hs : starB e = true) : SAR g G (e :: es) (rCons f h) := fun X W gd tk =>
  PA.weak (pa_cons (ha X W gd tk) (hr X W gd tk) (star_of hs)) fun σ H Q ⟨env, S, rep, q⟩ => ⟨env, S, rep, q.then.imp fun d env1 S1 H1 st1 rep1 q1 v rv =>
    ⟨env1, S1, rep1, q1.then.imp fun ds env2 S2 H2 st2 rep2 q2 vs rvs => q2.ret rep2 _ (.s (rv.mono st2.up) rvs)⟩⟩
theorem sar_io {i : Nat} {x : Str} {p : Pos} {h : EV (List AR)} (hx : varB G i x = true) (hr : SAR g G es h) : SAR g G (.Name x p :: es) (rIo i h) := fun X W gd tk =>
  PA.weak (pa_cons (pvar gd hx) (hr X W gd tk) (by rfl)) fun σ H Q ⟨env, S, rep, q⟩ => by
    obtain ⟨⟨k, ds, z⟩, q⟩ := q.then.chk rep
    obtain ⟨a, xs, h1, _⟩ := rep.ow i k ds z
    exact ⟨_, h1, env, S, rep, q.then.imp fun ds env2 S2 H2 st2 rep2 q2 vs rvs => q2.ret rep2 _ (.io h1 rvs)⟩
def callF (F : List Sl → Option FR) (ars : List AR) : EV Rt := fun env => match mkArgs env ars with
  | none => none
  | some args => if (ios ars).Nodup then (match F args with
    | none => none
    | some (.sh d outs) => some (.ok (.sh d) (backE env ars outs))
    | some (.own ds outs) => some (.ok (.own ds) (backE env ars outs))
    | some (.ex c fs outs) => some (.ex c fs (backE env ars outs))) else none
def eCall (F : List Sl → Option FR) (as : EV (List AR)) : EV D := bnd as fun ars => bnd (callF F ars) fun r => match r with
  | .sh d => ret d
  | .own _ => stuck
def oCall (F : List Sl → Option FR) (as : EV (List AR)) : EV (List D) := bnd as fun ars => bnd (callF F ars) fun r => match r with
  | .sh _ => stuck
  | .own ds => ret ds
theorem callF_cases {F : List Sl → Option FR} {ars : List AR} {env : List Sl} {r : R Rt} (h : callF F ars env = some r) : ∃ args fr, mkArgs env ars = some args ∧ (ios ars).Nodup ∧ F args = some fr ∧
    r = (match fr with
      | .sh d outs => .ok (.sh d) (backE env ars outs)
      | .own ds outs => .ok (.own ds) (backE env ars outs)
      | .ex c fs outs => .ex c fs (backE env ars outs)) := by
  unfold callF at h
  cases z : mkArgs env ars with
  | none => rw [z] at h; cases h
  | some args =>
    rw [z] at h
    dsimp only at h
    split at h
    · rename_i hn
      cases q : F args with
      | none => rw [q] at h; cases h
      | some fr =>
        rw [q] at h
        refine ⟨args, fr, rfl, hn, q, ?_⟩
        cases fr <;> (cases h; rfl)
    · cases h
/-- what the callee is asked -/
theorem spF_of {W : WX} {n : Nat} {F : List Sl → Option FR} {ars : List AR} {env : List Sl} {σ : L2.St} {S H : Hp} {vs : List V} {Q : VK} {P : Rt → List Sl → Hp → Hp → Prop} (rep : Rep g.K g.mg env S σ H) (ra : RelAR g.K g.mg S σ ars vs) (hn : vs.length = n)
    (q : Run g.K g.mg W (callF F ars) σ env S H P)
    (k1 : ∀ d env' S' H', Rep g.K g.mg env' S' σ H' → P (.sh d) env' S' H' → ∀ v, Rp g.K g.mg S' v d → Q v H')
    (k2 : ∀ (ds : List D) (env' : List Sl) (S' H' : Hp) (outs args : List Sl), Rep g.K g.mg env' S' σ H' → Stp env σ S H env' σ S' H' → P (.own ds) env' S' H' → (∀ a, Own env' σ a → Own env σ a) →
      ∀ a xs, H a = none → S' a = none → ¬ Own outs (vs.map some) a → H' a = some (.lst xs) → RpA g.K g.mg S' xs ds → Q (.ref a) H') : spF g.K g.mg n F vs H Q (WE W σ) := by
  obtain ⟨r, e, q⟩ := q
  obtain ⟨args, fr, h1, h2, h3, rfl⟩ := callF_cases e
  refine ⟨hn, args, S, fr, rep.argsR ra h1 h2, h3, ?_⟩
  cases fr with
  | sh d outs =>
    intro v S' H' st ro rv
    obtain ⟨r1, r2, r3⟩ := rep.back ra h1 h2 st ro
    exact k1 d _ S' H' r1 (q S' H' r2 r1) v rv
  | own ds outs =>
    intro a xs S' H' st ro n0 n1 n2 hl rx
    obtain ⟨r1, r2, r3⟩ := rep.back ra h1 h2 st ro
    exact k2 ds _ S' H' outs args r1 r2 (q S' H' r2 r1) r3 a xs n0 n1 n2 hl rx
  | ex c fs outs =>
    intro cls dd S' H' st ro x
    obtain ⟨r1, r2, r3⟩ := rep.back ra h1 h2 st ro
    exact q cls dd S' H' r2 r1 x
theorem se_call {x : Str} {n k : Nat} {F : List Sl → Option FR} {as : EV (List AR)} {p : Pos} (hf : FnS g x n k F) (hg : gloB G x = true) (hk : k ≤ G.k) (hc : G.calm = true) (ha : SAR g G (e :: es) as) (hs : starsB (e :: es) = true) (hn : (e :: es).length = n)
    (hl : ∀ env ars env', as env = some (.ok ars env') → ars.length = (e :: es).length) : SE g G (.Call (.Name x p) (e :: es) [] pos) (eCall F as) := fun X W gd tk => by
  obtain ⟨f, fd, ps, h1, h2, h3, h4⟩ := hf.ex
  rw [← gd.hp, ← gd.hw, ← gd.hK, ← gd.hm, ← gd.hb] at h4
  rw [← gd.hK] at h2 h3
  rw [← gd.hm] at h1
  refine PE.weak (pe_callG h4 ((gd.calm hc).2.mono hk) gd.gds (gl_of gd hg) h1 h2 h3 (fun σ => passAt tk σ) (ha X W gd tk) (nameOk_1 (glo_nm hg)).1 (star_of (Bool.and_eq_true_iff.mp hs).1) (stars_any pos (Bool.and_eq_true_iff.mp hs).2)) fun σ H Q ⟨env, S, rep, q⟩ => ?_
  have hq : ∃ r, as env = some r := by
    obtain ⟨r, e1, _⟩ := q
    unfold eCall bnd at e1
    cases z : as env with
    | none => rw [z] at e1; cases e1
    | some r1 => exact ⟨r1, rfl⟩
  obtain ⟨r0, hr0⟩ := hq
  refine ⟨env, S, rep, ?_⟩
  have q' := q.then
  obtain ⟨r, e1, q1⟩ := q'
  refine ⟨r, e1, ?_⟩
  cases r with
  | ex c fs env1 => exact q1
  | ok ars env1 =>
    intro S1 H1 st1 rep1 vs rvs
    rw [gd.hK, gd.hm]
    refine spF_of rep1 rvs (by rw [rvs.length, hl env ars env1 e1, hn]) (q1 S1 H1 st1 rep1).then (fun d env' S' H' rp w v rv => w.ret rp v rv) (fun ds env' S' H' outs args rp st' w _ => w.noStuck.elim)
theorem so_call {x : Str} {n k : Nat} {F : List Sl → Option FR} {as : EV (List AR)} {p : Pos} (hf : FnS g x n k F) (hg : gloB G x = true) (hk : k ≤ G.k) (hc : G.calm = true) (ha : SAR g G (e :: es) as) (hs : starsB (e :: es) = true) (hn : (e :: es).length = n)
    (hl : ∀ env ars env', as env = some (.ok ars env') → ars.length = (e :: es).length) : SO g G (.Call (.Name x p) (e :: es) [] pos) (oCall F as) := fun X W gd tk => by
  obtain ⟨f, fd, ps, h1, h2, h3, h4⟩ := hf.ex
  rw [← gd.hp, ← gd.hw, ← gd.hK, ← gd.hm, ← gd.hb] at h4
  rw [← gd.hK] at h2 h3
  rw [← gd.hm] at h1
  refine PE.weak (pe_callG h4 ((gd.calm hc).2.mono hk) gd.gds (gl_of gd hg) h1 h2 h3 (fun σ => passAt tk σ) (ha X W gd tk) (nameOk_1 (glo_nm hg)).1 (star_of (Bool.and_eq_true_iff.mp hs).1) (stars_any pos (Bool.and_eq_true_iff.mp hs).2)) fun σ H Q ⟨env, S, rep, q⟩ => ?_
  refine ⟨env, S, rep, ?_⟩
  obtain ⟨r, e1, q1⟩ := q.then
  refine ⟨r, e1, ?_⟩
  cases r with
  | ex c fs env1 => exact q1
  | ok ars env1 =>
    intro S1 H1 st1 rep1 vs rvs
    rw [gd.hK, gd.hm]
    refine spF_of rep1 rvs (by rw [rvs.length, hl env ars env1 e1, hn]) (q1 S1 H1 st1 rep1).then (fun d env' S' H' rp w v rv => w.noStuck.elim) (fun ds env' S' H' outs args rp st' w r3 a xs n0 n1 n2 hx rx => ?_)
    refine w.ret rp a xs (st1.back n0) n1 (fun z => ?_) hx rx
    -- no slot of ours holds it: it was not there ahead of the call
    exact rep1.noOwn n0 (r3 a z)
/-- f() -/
def eCall0 (F : List Sl → Option FR) : EV D := match F [] with
  | some (.sh d _) => ret d
  | _ => stuck
theorem passL0 {X : Cx} (σ : L2.St) : PassesAt (L2.CX X.prog X.w) X σ E0 := fun pins H s e s' I c => passL pins σ H s e s' I c
theorem se_call0 {x : Str} {k : Nat} {F : List Sl → Option FR} {p : Pos} (hf : FnS g x 0 k F) (hg : gloB G x = true) (hk : k ≤ G.k) (hc : G.calm = true) : SE g G (.Call (.Name x p) [] [] pos) (eCall0 F) := fun X W gd tk => by
  obtain ⟨f, fd, ps, h1, h2, h3, h4⟩ := hf.ex
  rw [← gd.hp, ← gd.hw, ← gd.hK, ← gd.hm, ← gd.hb] at h4
  rw [← gd.hK] at h2 h3
  rw [← gd.hm] at h1
  refine PE.weak (pe_callG0 (E := fun _ => E0) h4 ((gd.calm hc).2.mono hk) gd.gds (gl_of gd hg) h1 h2 h3 (fun σ => passL0 σ) (nameOk_1 (glo_nm hg)).1) fun σ H Q ⟨env, S, rep, q⟩ => ?_
  unfold eCall0 at q
  split at q
  · rename_i d outs hF
    have r0 : Rep X.K X.mg [] S (([] : List V).map some) H := ⟨rep.sub, rfl, fun i d e => by simp at e, fun i k ds e => by simp at e, fun i j k l ds es a e => by simp at e⟩
    refine ⟨rfl, [], S, _, r0, hF, fun v S' H' st ro rv => ?_⟩
    rw [gd.hK, gd.hm] at ro rv
    have noOwn : ∀ a, ¬ Own [] (([] : List V).map some) a := fun a ⟨i, k, ds, e, _⟩ => by simp at e
    -- the frame's slots are as they were
    have rp : Rep g.K g.mg env S' σ H' := ⟨ro.sub, rep.len, fun i d e => let ⟨v, h1, h2⟩ := rep.sh i d e; ⟨v, h1, h2.mono st.up⟩, fun i k ds e => by
      obtain ⟨a, xs, h1, h2, h3, h4⟩ := rep.ow i k ds e
      refine ⟨a, xs, h1, ?_, st.keep a _ h3 (noOwn a), h4.mono st.up⟩
      cases z : S' a with
      | none => rfl
      | some o =>
        rcases st.new a o z with w | w | w
        · rw [h2] at w; cases w
        · rw [h3] at w; cases w
        · exact absurd w (noOwn a), rep.inj⟩
    have sp : Stp env σ S H env σ S' H' := ⟨st.up, fun a o h => by
      rcases st.new a o h with w | w | w
      · exact .inl w
      · exact .inr (.inl w)
      · exact absurd w (noOwn a), fun a o h n => st.keep a o h (noOwn a), fun a h => .inl h, st.there, fun i ds e => ⟨rfl, ds, e⟩, rfl⟩
    obtain ⟨r, e1, q⟩ := q
    cases e1
    exact q S' H' sp rp v rv
  · exact q.noStuck.elim
end
end G3

/-! G3m: built-ins. -/
namespace G3
open PySem PySem.Spec PyProof.Rows L2
/-- a built-in on data -/
def CallOk (g : Gr) (G : Ctx) (fv : Value) (op : List D → Option D) : Prop :=
  ∀ X, Good g G X → ∃ r, CallR X fv r ∧ ∀ (env : List Sl) (S : Hp) (σ : L2.St) (H : Hp) (vs : List V) (ds : List D) (d : D) (Q : VK), Rep g.K g.mg env S σ H → RpA g.K g.mg S vs ds → op ds = some d →
    (∀ S' H', Stp env σ S H env σ S' H' → Rep g.K g.mg env S' σ H' → ∀ v, Rp g.K g.mg S' v d → Q v H') → r vs H Q
/-- .. that gives a new list -/
def CallOkO (g : Gr) (G : Ctx) (fv : Value) (op : List D → Option (List D)) : Prop :=
  ∀ X, Good g G X → ∃ r, CallR X fv r ∧ ∀ (env : List Sl) (S : Hp) (σ : L2.St) (H : Hp) (vs : List V) (ds es : List D) (Q : VK), Rep g.K g.mg env S σ H → RpA g.K g.mg S vs ds → op ds = some es →
    (∀ p xs, H p = none → RpA g.K g.mg S xs es → Q (.ref p) (upd H p (.lst xs))) → r vs H Q
def eBlt (op : List D → Option D) (h : EV (List D)) : EV D := bnd h fun ds => lift (op ds)
def oBlt (op : List D → Option (List D)) (h : EV (List D)) : EV (List D) := bnd h fun ds => lift (op ds)
section
variable {g : Gr} {G : Ctx} {a e : Expr} {es : List Expr} {pos p : Pos} {x : Str} {id T : String}
theorem se_callB {op : List D → Option D} {h : EV (List D)} (ok : CallOk g G (.builtin id) op) (hg : gloB G x = true) (hf : Free g x) (hv : bootBuiltins x = some (.builtin id)) (ha : SA g G (e :: es) h) (hs : starsB (e :: es) = true) : SE g G (.Call (.Name x p) (e :: es) [] pos) (eBlt op h) := fun X W gd tk => by
  obtain ⟨r, o1, o2⟩ := ok X gd
  refine PE.weak (pe_callB o1 (gl_of gd hg) (by rw [gd.hm]; exact hf) hv (ha X W gd tk) (nameOk_1 (glo_nm hg)).2.2 (nameOk_1 (glo_nm hg)).1 (star_of (Bool.and_eq_true_iff.mp hs).1) (stars_any pos (Bool.and_eq_true_iff.mp hs).2)) fun σ H Q ⟨env, S, rep, q⟩ => ⟨env, S, rep, q.then.imp fun ds env1 S1 H1 st1 rep1 q1 vs rvs => ?_⟩
  obtain ⟨d, e1, q2⟩ := q1.lift
  exact o2 env1 S1 σ H1 vs ds d Q rep1 rvs e1 fun S' H' st' rep' v rv => q2 S' H' st' rep' v rv
theorem se_callTy {op : List D → Option D} {h : EV (List D)} (ok : CallOk g G (.type T) op) (hg : gloB G x = true) (hf : Free g x) (hv : bootBuiltins x = some (.type T)) (ha : SA g G (e :: es) h) (hs : starsB (e :: es) = true) : SE g G (.Call (.Name x p) (e :: es) [] pos) (eBlt op h) := fun X W gd tk => by
  obtain ⟨r, o1, o2⟩ := ok X gd
  refine PE.weak (pe_callTy o1 (gl_of gd hg) (by rw [gd.hm]; exact hf) hv (ha X W gd tk) (nameOk_1 (glo_nm hg)).2.2 (nameOk_1 (glo_nm hg)).1 (star_of (Bool.and_eq_true_iff.mp hs).1) (stars_any pos (Bool.and_eq_true_iff.mp hs).2)) fun σ H Q ⟨env, S, rep, q⟩ => ⟨env, S, rep, q.then.imp fun ds env1 S1 H1 st1 rep1 q1 vs rvs => ?_⟩
  obtain ⟨d, e1, q2⟩ := q1.lift
  exact o2 env1 S1 σ H1 vs ds d Q rep1 rvs e1 fun S' H' st' rep' v rv => q2 S' H' st' rep' v rv
theorem fin_own {W : WX} {env0 env : List Sl} {σ : L2.St} {S0 H0 S H : Hp} {ds : List D} {op : Option (List D)} {Q : VK}
    (st : Stp env0 σ S0 H0 env σ S H) (rep : Rep g.K g.mg env S σ H) (q : Run g.K g.mg W (lift op) σ env S H fun ds env' S' H' => ∀ a xs, H0 a = none → S' a = none → ¬ Own env' σ a → H' a = some (.lst xs) → RpA g.K g.mg S' xs ds → Q (.ref a) H') :
    ∃ es, op = some es ∧ ∀ p xs, H p = none → RpA g.K g.mg S xs es → Q (.ref p) (upd H p (.lst xs)) := by
  obtain ⟨es, e1, q2⟩ := q.lift
  exact ⟨es, e1, fun p xs hp rx => q2 _ _ (rep.layOStp hp) (rep.layO hp) p xs (st.back hp) (rep.free hp) (rep.noOwn hp) upd_same rx⟩
theorem so_callB {op : List D → Option (List D)} {h : EV (List D)} (ok : CallOkO g G (.builtin id) op) (hg : gloB G x = true) (hf : Free g x) (hv : bootBuiltins x = some (.builtin id)) (ha : SA g G (e :: es) h) (hs : starsB (e :: es) = true) : SO g G (.Call (.Name x p) (e :: es) [] pos) (oBlt op h) := fun X W gd tk => by
  obtain ⟨r, o1, o2⟩ := ok X gd
  refine PE.weak (pe_callB o1 (gl_of gd hg) (by rw [gd.hm]; exact hf) hv (ha X W gd tk) (nameOk_1 (glo_nm hg)).2.2 (nameOk_1 (glo_nm hg)).1 (star_of (Bool.and_eq_true_iff.mp hs).1) (stars_any pos (Bool.and_eq_true_iff.mp hs).2)) fun σ H Q ⟨env, S, rep, q⟩ => ⟨env, S, rep, q.then.imp fun ds env1 S1 H1 st1 rep1 q1 vs rvs => ?_⟩
  obtain ⟨es, e1, q2⟩ := fin_own (ds := ds) st1 rep1 q1
  exact o2 env1 S1 σ H1 vs ds es Q rep1 rvs e1 q2
theorem so_callTy {op : List D → Option (List D)} {h : EV (List D)} (ok : CallOkO g G (.type T) op) (hg : gloB G x = true) (hf : Free g x) (hv : bootBuiltins x = some (.type T)) (ha : SA g G (e :: es) h) (hs : starsB (e :: es) = true) : SO g G (.Call (.Name x p) (e :: es) [] pos) (oBlt op h) := fun X W gd tk => by
  obtain ⟨r, o1, o2⟩ := ok X gd
  refine PE.weak (pe_callTy o1 (gl_of gd hg) (by rw [gd.hm]; exact hf) hv (ha X W gd tk) (nameOk_1 (glo_nm hg)).2.2 (nameOk_1 (glo_nm hg)).1 (star_of (Bool.and_eq_true_iff.mp hs).1) (stars_any pos (Bool.and_eq_true_iff.mp hs).2)) fun σ H Q ⟨env, S, rep, q⟩ => ⟨env, S, rep, q.then.imp fun ds env1 S1 H1 st1 rep1 q1 vs rvs => ?_⟩
  obtain ⟨es, e1, q2⟩ := fin_own (ds := ds) st1 rep1 q1
  exact o2 env1 S1 σ H1 vs ds es Q rep1 rvs e1 q2
/-! ### the built-ins -/
def bLen : List D → Option D
  | [.lst ds] => some (.int ds.length)
  | [.tup ds] => some (.int ds.length)
  | [.str z] => if z.length ≤ sizeLine then some (.int z.length) else none
  | _ => none
variable {K : PySem.W.Frag} {mg : Str → Option Value} {S H : Hp}
theorem ok_len : CallOk g G (.builtin "len") bLen := fun X gd => ⟨_, call_len, fun env S σ H vs ds d Q rep r e q => by
  unfold bLen at e
  split at e
  · cases e
    cases r with
    | cons r1 r2 =>
      cases r2
      cases r1 with
      | lst hs hr => exact ⟨_, _, rfl, .inl ⟨_, SqL.of (rep.sub _ _ hs), rfl⟩, by rw [hr.length]; exact q S H Stp.refl rep _ (.int _)⟩
  · cases e
    cases r with
    | cons r1 r2 =>
      cases r2
      cases r1 with
      | tup hs hr =>
        have h1 := rep.sub.sqT hs
        rw [← gd.hK] at h1
        exact ⟨_, _, rfl, .inr ⟨_, h1, rfl⟩, by rw [hr.length]; exact q S H Stp.refl rep _ (.int _)⟩
  · split at e
    · rename_i hz
      cases e
      cases r with
      | cons r1 r2 =>
        cases r2
        cases r1
        exact ⟨_, _, rfl, ⟨hz, rfl⟩, q S H Stp.refl rep _ (.int _)⟩
    · cases e
  · cases e⟩
def bAbs : List D → Option D
  | [.int i] => some (.int (if i < 0 then -i else i))
  | _ => none
theorem ok_abs : CallOk g G (.builtin "abs") bAbs := fun X gd => ⟨_, call_abs, fun env S σ H vs ds d Q rep r e q => by
  unfold bAbs at e
  split at e
  · cases e
    cases r with
    | cons r1 r2 => cases r2; cases r1; exact ⟨_, rfl, q S H Stp.refl rep _ (.int _)⟩
  · cases e⟩
def bInt : List D → Option D
  | [.int i] => some (.int i)
  | [.bl k] => some (.int (if k then 1 else 0))
  | _ => none
theorem ok_int : CallOk g G (.type "int") bInt := fun X gd => ⟨_, call_int1, fun env S σ H vs ds d Q rep r e q => by
  unfold bInt at e
  split at e
  · cases e
    cases r with
    | cons r1 r2 => cases r2; cases r1; exact .inl ⟨_, rfl, q S H Stp.refl rep _ (.int _)⟩
  · cases e
    cases r with
    | cons r1 r2 => cases r2; cases r1; exact .inr ⟨_, rfl, q S H Stp.refl rep _ (.int _)⟩
  · cases e⟩
def bMin2 : List D → Option D
  | [.int i, .int j] => some (.int (if j < i then j else i))
  | _ => none
theorem ok_min2 (hc : G.calm = true) : CallOk g G (.builtin "min") bMin2 := fun X gd => ⟨_, call_min2 (gd.calm hc).1, fun env S σ H vs ds d Q rep r e q => by
  unfold bMin2 at e
  split at e
  · cases e
    cases r with
    | cons r1 r2 => cases r2 with
      | cons r2 r3 => cases r3; cases r1; cases r2; exact ⟨_, _, rfl, q S H Stp.refl rep _ (.int _)⟩
  · cases e⟩
def bStr : List D → Option D
  | [.int i] => if i.natAbs.log2 < 1920 then some (.str (toString i)) else none
  | _ => none
theorem ok_str : CallOk g G (.type "str") bStr := fun X gd => ⟨_, call_str_int, fun env S σ H vs ds d Q rep r e q => by
  unfold bStr at e
  split at e
  · split at e
    · rename_i hz
      cases e
      cases r with
      | cons r1 r2 => cases r2; cases r1; exact ⟨_, rfl, hz, q S H Stp.refl rep _ (.str _)⟩
    · cases e
  · cases e⟩
/-- lists of truth values, of ints -/
def blsD : List D → Option (List Bool)
  | [] => some []
  | .bl b :: r => (blsD r).map fun bs => b :: bs
  | _ => none
def intsD : List D → Option (List Int)
  | [] => some []
  | .int i :: r => (intsD r).map fun is => i :: is
  | _ => none
theorem blsD_of : ∀ {ds : List D} {vs : List V} {bs : List Bool}, RpA K mg S vs ds → blsD ds = some bs → vs = bs.map V.bl
  | [], _, _, .nil, h => by cases h; rfl
  | .bl b :: r, _, _, .cons r1 r2, h => by
    unfold blsD at h
    cases z : blsD r with
    | none => rw [z] at h; cases h
    | some bs => rw [z] at h; cases h; cases r1; rw [blsD_of r2 z]; rfl
  | .non :: _, _, _, .cons _ _, h => by cases h
  | .int _ :: _, _, _, .cons _ _, h => by cases h
  | .str _ :: _, _, _, .cons _ _, h => by cases h
  | .lst _ :: _, _, _, .cons _ _, h => by cases h
  | .tup _ :: _, _, _, .cons _ _, h => by cases h
  | .scr _ :: _, _, _, .cons _ _, h => by cases h
  | .dct _ _ :: _, _, _, .cons _ _, h => by cases h
  | .obj _ _ _ :: _, _, _, .cons _ _, h => by cases h
theorem intsD_of : ∀ {ds : List D} {vs : List V} {bs : List Int}, RpA K mg S vs ds → intsD ds = some bs → vs = bs.map V.int
  | [], _, _, .nil, h => by cases h; rfl
  | .int b :: r, _, _, .cons r1 r2, h => by
    unfold intsD at h
    cases z : intsD r with
    | none => rw [z] at h; cases h
    | some bs => rw [z] at h; cases h; cases r1; rw [intsD_of r2 z]; rfl
  | .non :: _, _, _, .cons _ _, h => by cases h
  | .bl _ :: _, _, _, .cons _ _, h => by cases h
  | .str _ :: _, _, _, .cons _ _, h => by cases h
  | .lst _ :: _, _, _, .cons _ _, h => by cases h
  | .tup _ :: _, _, _, .cons _ _, h => by cases h
  | .scr _ :: _, _, _, .cons _ _, h => by cases h
  | .dct _ _ :: _, _, _, .cons _ _, h => by cases h
  | .obj _ _ _ :: _, _, _, .cons _ _, h => by cases h
theorem intsD_map : ∀ ns : List Int, intsD (ns.map D.int) = some ns
  | [] => rfl
  | n :: r => by show (intsD (r.map D.int)).map _ = _; rw [intsD_map r]; rfl
theorem blsD_map : ∀ ns : List Bool, blsD (ns.map D.bl) = some ns
  | [] => rfl
  | n :: r => by show (blsD (r.map D.bl)).map _ = _; rw [blsD_map r]; rfl
def bAll : List D → Option D
  | [.lst ds] => (blsD ds).map fun bs => .bl (bs.all _root_.id)
  | _ => none
def bAny : List D → Option D
  | [.lst ds] => (blsD ds).map fun bs => .bl (bs.any _root_.id)
  | _ => none
def bSum : List D → Option D
  | [.lst ds] => (intsD ds).map fun bs => .int bs.sum
  | _ => none
theorem ok_all (hc : G.calm = true) : CallOk g G (.builtin "all") bAll := fun X gd => ⟨_, cr_all (gd.calm hc).1, fun env S σ H vs ds d Q rep r e q => by
  unfold bAll at e
  split at e
  · rename_i ds
    cases z : blsD ds with
    | none => rw [z] at e; cases e
    | some bs =>
      rw [z] at e; cases e
      cases r with
      | cons r1 r2 =>
        cases r2
        cases r1 with
        | lst hs hr => exact ⟨_, bs, rfl, by rw [← blsD_of hr z]; exact SqL.of (rep.sub _ _ hs), q S H Stp.refl rep _ (.bl _)⟩
  · cases e⟩
theorem ok_any (hc : G.calm = true) : CallOk g G (.builtin "any") bAny := fun X gd => ⟨_, cr_any (gd.calm hc).1, fun env S σ H vs ds d Q rep r e q => by
  unfold bAny at e
  split at e
  · rename_i ds
    cases z : blsD ds with
    | none => rw [z] at e; cases e
    | some bs =>
      rw [z] at e; cases e
      cases r with
      | cons r1 r2 =>
        cases r2
        cases r1 with
        | lst hs hr => exact ⟨_, bs, rfl, by rw [← blsD_of hr z]; exact SqL.of (rep.sub _ _ hs), q S H Stp.refl rep _ (.bl _)⟩
  · cases e⟩
theorem ok_sum (hc : G.calm = true) : CallOk g G (.builtin "sum") bSum := fun X gd => ⟨_, cr_sum (gd.calm hc).1, fun env S σ H vs ds d Q rep r e q => by
  unfold bSum at e
  split at e
  · rename_i ds
    cases z : intsD ds with
    | none => rw [z] at e; cases e
    | some bs =>
      rw [z] at e; cases e
      cases r with
      | cons r1 r2 =>
        cases r2
        cases r1 with
        | lst hs hr => exact ⟨_, bs, rfl, by rw [← intsD_of hr z]; exact SqL.of (rep.sub _ _ hs), q S H Stp.refl rep _ (.int _)⟩
  · cases e⟩
def bTuple : List D → Option D
  | [.lst ds] => some (.tup ds)
  | [.tup ds] => some (.tup ds)
  | _ => none
theorem ok_tuple : CallOk g G (.type "tuple") bTuple := fun X gd => ⟨_, call_tuple_of, fun env S σ H vs ds d Q rep r e q => by
  unfold bTuple at e
  split at e
  · cases e
    cases r with
    | cons r1 r2 =>
      cases r2
      cases r1 with
      | lst hs hr => exact ⟨_, _, rfl, .inl ⟨SqL.of (rep.sub _ _ hs), fun l hl => fin_tup rep hl hr q⟩⟩
  · cases e
    cases r with
    | cons r1 r2 =>
      cases r2
      cases r1 with
      | tup hs hr =>
        have h1 := rep.sub.sqT hs
        rw [← gd.hK] at h1
        exact ⟨_, _, rfl, .inr ⟨h1, q S H Stp.refl rep _ (.tup hs hr)⟩⟩
  · cases e⟩
def bList : List D → Option (List D)
  | [.lst ds] => some ds
  | [.tup ds] => some ds
  | [.scr ns] => some (ns.map D.int)
  | _ => none
theorem ok_list : CallOkO g G (.type "list") bList := fun X gd => ⟨_, call_list_of, fun env S σ H vs ds es Q rep r e q => by
  unfold bList at e
  split at e
  · cases e
    cases r with
    | cons r1 r2 =>
      cases r2
      cases r1 with
      | lst hs hr => exact ⟨_, _, rfl, .inl (SqL.of (rep.sub _ _ hs)), fun l hl => q l _ hl hr⟩
  · cases e
    cases r with
    | cons r1 r2 =>
      cases r2
      cases r1 with
      | tup hs hr =>
        have h1 := rep.sub.sqT hs
        rw [← gd.hK] at h1
        exact ⟨_, _, rfl, .inr h1, fun l hl => q l _ hl hr⟩
  · cases e
    cases r with
    | cons r1 r2 =>
      cases r2
      cases r1 with
      | scr hs =>
        have h1 := rep.sub.sqL hs
        rw [← gd.hK] at h1
        exact ⟨_, _, rfl, .inl h1, fun l hl => q l _ hl (RpA.ints _)⟩
  · cases e⟩
/-- the rising order of ints -/
def sortI (ns : List Int) : List Int := ns.mergeSort fun a b => decide (a ≤ b)
theorem sortI_perm (ns : List Int) : (sortI ns).Perm ns := List.mergeSort_perm _ _
theorem sortI_pw (ns : List Int) : (sortI ns).Pairwise (· ≤ ·) := by
  have := List.pairwise_mergeSort (le := fun a b : Int => decide (a ≤ b)) (fun a b c h1 h2 => by simp at *; omega) (fun a b => by simp; omega) ns
  exact this.imp fun h => by simpa using h
theorem sortI_eq {ns ms : List Int} (h : ms.Perm ns) (h2 : ms.Pairwise (· ≤ ·)) : ms = sortI ns :=
  List.Perm.eq_of_pairwise (fun a b _ _ h1 h2 => Int.le_antisymm h1 h2) h2 (sortI_pw ns) (h.trans (sortI_perm ns).symm)
def bSorted : List D → Option (List D)
  | [.lst ds] => (intsD ds).map fun ns => (sortI ns).map D.int
  | _ => none
theorem ok_sorted : CallOkO g G (.builtin "sorted") bSorted := fun X gd => ⟨_, cr_sortedI, fun env S σ H vs ds es Q rep r e q => by
  unfold bSorted at e
  split at e
  · rename_i ds
    cases z : intsD ds with
    | none => rw [z] at e; cases e
    | some ns =>
      rw [z] at e; cases e
      cases r with
      | cons r1 r2 =>
        cases r2
        cases r1 with
        | lst hs hr =>
          refine ⟨_, ns, rfl, by rw [← intsD_of hr z]; exact SqL.of (rep.sub _ _ hs), fun ns' p h1 h2 hp => q p _ hp ?_⟩
          rw [sortI_eq h1 h2]
          exact RpA.ints _
  · cases e⟩
/-! ### list(range(..)) -/
def rg24 (i j : Int) : Bool := rgOk i j && decide ((j - i).toNat ≤ 2 ^ 24)
def oRng2 (f h : EV D) : EV (List D) := bnd f fun d => bnd h fun e => match d, e with
  | .int i, .int j => if rg24 i j = true then ret (rgD i (j - i).toNat) else stuck
  | _, _ => stuck
def oRng1 (f : EV D) : EV (List D) := bnd f fun d => match d with
  | .int j => if rg24 0 j = true then ret (rgD 0 j.toNat) else stuck
  | _ => stuck
theorem rgV_D (i j : Int) : RpA K mg S (rgV i j) (rgD i (j - i).toNat) := by
  unfold rgV rgD
  generalize (j - i).toNat = n
  have : ∀ l : List Nat, RpA K mg S (l.map fun k => V.int (i + (k : Nat))) (l.map fun k => D.int (i + (k : Nat))) := by
    intro l
    induction l with
    | nil => exact .nil
    | cons a l ih => exact .cons (.int _) ih
  exact this _
theorem so_range2 {b : Expr} {f h : EV D} {p2 q2 : Pos} (hc : G.calm = true) (hg : gloB G "list" = true) (hf : Free g "list") (hg2 : gloB G "range" = true) (hf2 : Free g "range") (ha : SE g G a f) (hb : SE g G b h) (hs : starB a = true) (hs2 : starB b = true) :
    SO g G (.Call (.Name "list" p) [.Call (.Name "range" p2) [a, b] [] q2] [] pos) (oRng2 f h) := fun X W gd tk => by
  refine PE.weak (pe_listRg (gd.calm hc).1 (gl_of gd hg) (by rw [gd.hm]; exact hf) (prg_2 (gl_of gd hg2) (by rw [gd.hm]; exact hf2) (ha X W gd tk) (hb X W gd tk) (star_of hs) (star_of hs2) (by rw [star_of hs2]; rfl)) (by rfl)) fun σ H Q ⟨env, S, rep, q⟩ => ?_
  refine ⟨env, S, rep, q.then.imp fun d env1 S1 H1 st1 rep1 q1 v rv => ⟨env1, S1, rep1, q1.then.imp fun d2 env2 S2 H2 st2 rep2 q2 v2 rv2 => ?_⟩⟩
  cases rv with
  | int i =>
    cases rv2 with
    | int j =>
      dsimp only at q2
      split at q2
      · rename_i hz
        unfold rg24 at hz
        rw [Bool.and_eq_true, decide_eq_true_eq] at hz
        obtain ⟨z1, z2, z3, z4⟩ := rgOk_ hz.1
        obtain ⟨r, e1, q3⟩ := q2
        cases e1
        exact ⟨i, j, rfl, rfl, ⟨z1, z2, z3, z4, hz.2⟩, fun p hp => q3 _ _ (rep2.layOStp hp) (rep2.layO hp) p _ ((st1.trans st2).back hp) (rep2.free hp) (rep2.noOwn hp) upd_same (rgV_D i j)⟩
      · exact q2.noStuck.elim
    | _ => exact q2.noStuck.elim
  | _ => exact q2.noStuck.elim
theorem so_range1 {f : EV D} {p2 q2 : Pos} (hc : G.calm = true) (hg : gloB G "list" = true) (hf : Free g "list") (hg2 : gloB G "range" = true) (hf2 : Free g "range") (ha : SE g G a f) (hs : starB a = true) :
    SO g G (.Call (.Name "list" p) [.Call (.Name "range" p2) [a] [] q2] [] pos) (oRng1 f) := fun X W gd tk => by
  refine PE.weak (pe_listRg (gd.calm hc).1 (gl_of gd hg) (by rw [gd.hm]; exact hf) (prg_1 (gl_of gd hg2) (by rw [gd.hm]; exact hf2) (ha X W gd tk) (star_of hs)) (by rfl)) fun σ H Q ⟨env, S, rep, q⟩ => ?_
  refine ⟨env, S, rep, q.then.imp fun d env1 S1 H1 st1 rep1 q1 v rv => ?_⟩
  cases rv with
  | int j =>
    dsimp only at q1
    split at q1
    · rename_i hz
      unfold rg24 at hz
      rw [Bool.and_eq_true, decide_eq_true_eq] at hz
      obtain ⟨z1, z2, z3, z4⟩ := rgOk_ hz.1
      obtain ⟨r, e1, q3⟩ := q1
      cases e1
      refine ⟨j, rfl, ⟨z1, z2, z3, z4, hz.2⟩, fun p hp => q3 _ _ (rep1.layOStp hp) (rep1.layO hp) p _ (st1.back hp) (rep1.free hp) (rep1.noOwn hp) upd_same ?_⟩
      have := rgV_D (K := g.K) (mg := g.mg) (S := S1) 0 j
      rw [Int.sub_zero] at this
      exact this
    · exact q1.noStuck.elim
  | _ => exact q1.noStuck.elim
/-- len(x), x a name: its list stays its own -/
def eLenV (i : Nat) : EV D := bnd (rdV i) fun d => lift (bLen [d])
theorem se_lenV {i : Nat} {y : Str} {p2 : Pos} (hg : gloB G "len" = true) (hf : Free g "len") (hx : varB G i y = true) : SE g G (.Call (.Name "len" p) [.Name y p2] [] pos) (eLenV i) := fun X W gd tk => by
  refine PE.weak (pe_callB call_len (gl_of gd hg) (by rw [gd.hm]; exact hf) PySem.boot_len (pa_cons (pvar gd hx) pa_nil (by rfl))) fun σ H Q ⟨env, S, rep, q⟩ => ?_
  obtain ⟨d, z, q⟩ := q.then.rd rep
  obtain ⟨v, hv, hc⟩ := rep.slot z
  obtain ⟨d2, e2, q2⟩ := q.lift
  refine ⟨v, hv, ?_⟩
  rcases hc with ⟨_, rv⟩ | ⟨a, xs, ds, k, rfl, rfl, _, h1, h2, h3⟩
  · unfold bLen at e2
    split at e2
    · rename_i ds heq
      cases heq
      cases e2
      cases rv with
      | lst hs hr => exact ⟨_, _, rfl, .inl ⟨_, SqL.of (rep.sub _ _ hs), rfl⟩, by rw [hr.length]; exact q2 S H Stp.refl rep _ (.int _)⟩
    · rename_i ds heq
      cases heq
      cases e2
      cases rv with
      | tup hs hr =>
        have h1 := rep.sub.sqT hs
        rw [← gd.hK] at h1
        exact ⟨_, _, rfl, .inr ⟨_, h1, rfl⟩, by rw [hr.length]; exact q2 S H Stp.refl rep _ (.int _)⟩
    · rename_i ds heq
      cases heq
      split at e2
      · rename_i hz
        cases e2
        cases rv
        exact ⟨_, _, rfl, ⟨hz, rfl⟩, q2 S H Stp.refl rep _ (.int _)⟩
      · cases e2
    · cases e2
  · cases e2
    exact ⟨_, _, rfl, .inl ⟨_, SqL.of h2, rfl⟩, by rw [h3.length]; exact q2 S H Stp.refl rep _ (.int _)⟩
end
end G3

/-! G3n: several targets at once; a comprehension stored in a name. -/
namespace G3
open PySem PySem.Spec PyProof.Rows L2
/-- values that will stand in slots: shared ones, and new lists that nobody else knows (H0: the heap ahead of them all) -/
inductive RlO (K : PySem.W.Frag) (mg : Str → Option Value) (S H : Hp) (env : List Sl) (σ : L2.St) (H0 : Hp) : List Sl → List V → Prop
  | nil : RlO K mg S H env σ H0 [] []
  | sh {d : D} {v : V} {r : List Sl} {vs : List V} : Rp K mg S v d → RlO K mg S H env σ H0 r vs → RlO K mg S H env σ H0 (.sh d :: r) (v :: vs)
  | ow {ds : List D} {a : Addr} {xs : List V} {r : List Sl} {vs : List V} : H0 a = none → S a = none → ¬ Own env σ a → H a = some (.lst xs) → RpA K mg S xs ds → (∀ (j : Nat) (es : List D), r[j]? = some (.ow false es) → vs[j]? ≠ some (.ref a)) → RlO K mg S H env σ H0 r vs →
      RlO K mg S H env σ H0 (.ow false ds :: r) (.ref a :: vs)
section
variable {K : PySem.W.Frag} {mg : Str → Option Value} {env env1 : List Sl} {σ σ1 : L2.St} {S S1 H H1 H0 H0' : Hp}
theorem RlO.length : ∀ {r : List Sl} {vs : List V}, RlO K mg S H env σ H0 r vs → vs.length = r.length
  | _, _, .nil => rfl
  | _, _, .sh _ b => by simp [RlO.length b]
  | _, _, .ow _ _ _ _ _ _ b => by simp [RlO.length b]
theorem RlO.base (h : ∀ a, H0 a = none → H0' a = none) : ∀ {r : List Sl} {vs : List V}, RlO K mg S H env σ H0 r vs → RlO K mg S H env σ H0' r vs
  | _, _, .nil => .nil
  | _, _, .sh a b => .sh a (RlO.base h b)
  | _, _, .ow a b c d e f k => .ow (h _ a) b c d e f (RlO.base h k)
theorem RlO.at : ∀ {r : List Sl} {vs : List V} {j : Nat} {ds : List D}, RlO K mg S H env σ H0 r vs → r[j]? = some (.ow false ds) → ∃ a xs, vs[j]? = some (.ref a) ∧ H0 a = none ∧ H a = some (.lst xs)
  | _, _, _, _, .nil, e => by simp at e
  | _, _, 0, _, .sh _ _, e => by simp at e
  | _, _, j + 1, _, .sh _ b, e => by
    obtain ⟨a, xs, h1, h2⟩ := RlO.at (j := j) b (by simpa using e)
    exact ⟨a, xs, by simpa using h1, h2⟩
  | _, _, 0, _, .ow h0 _ _ h3 _ _ _, e => ⟨_, _, rfl, h0, h3⟩
  | _, _, j + 1, _, .ow _ _ _ _ _ _ b, e => by
    obtain ⟨a, xs, h1, h2⟩ := RlO.at (j := j) b (by simpa using e)
    exact ⟨a, xs, by simpa using h1, h2⟩
end
def tAO (K : PySem.W.Frag) (mg : Str → Option Value) (W : WX) (f : EV (List Sl)) : TA := fun σ H Q => ∃ env S, Rep K mg env S σ H ∧ Run K mg W f σ env S H fun ss env' S' H' => ∀ vs, RlO K mg S' H' env' σ H ss vs → Q vs H'
def SAO (g : Gr) (G : Ctx) (es : List Expr) (f : EV (List Sl)) : Prop := ∀ X W, Good g G X → Takes X W → PA X es (tAO g.K g.mg W f)
def qNil : EV (List Sl) := ret []
def qS (f : EV D) (h : EV (List Sl)) : EV (List Sl) := bnd f fun d => bnd h fun ds => ret (.sh d :: ds)
def qO (f : EV (List D)) (h : EV (List Sl)) : EV (List Sl) := bnd f fun d => bnd h fun ds => ret (.ow false d :: ds)
section
variable {g : Gr} {G : Ctx} {e : Expr} {es : List Expr} {pos : Pos}
theorem sao_nil : SAO g G [] qNil := fun X W gd tk => PA.weak pa_nil fun σ H Q ⟨env, S, rep, q⟩ => q.ret rep _ .nil
theorem sao_s {f : EV D} {h : EV (List Sl)} (ha : SE g G e f) (hr : SAO g G es h) (hs : starB e = true) : SAO g G (e :: es) (qS f h) := fun X W gd tk =>
  PA.weak (pa_cons (ha X W gd tk) (hr X W gd tk) (star_of hs)) fun σ H Q ⟨env, S, rep, q⟩ => ⟨env, S, rep, q.then.imp fun d env1 S1 H1 st1 rep1 q1 v rv =>
    ⟨env1, S1, rep1, q1.then.imp fun ds env2 S2 H2 st2 rep2 q2 vs rvs => q2.ret rep2 _ (.sh (rv.mono st2.up) (rvs.base fun a n => st1.back n))⟩⟩
theorem sao_o {f : EV (List D)} {h : EV (List Sl)} (ha : SO g G e f) (hr : SAO g G es h) (hs : starB e = true) : SAO g G (e :: es) (qO f h) := fun X W gd tk =>
  PA.weak (pa_cons (ha X W gd tk) (hr X W gd tk) (star_of hs)) fun σ H Q ⟨env, S, rep, q⟩ => ⟨env, S, rep, q.then.imp fun d env1 S1 H1 st1 rep1 q1 a xs n0 n1 n2 hl rx =>
    ⟨env1, S1, rep1, q1.then.imp fun ds env2 S2 H2 st2 rep2 q2 vs rvs => by
      have h2 := st2.keep a _ hl n2
      refine q2.ret rep2 _ (.ow n0 ?_ ?_ h2 (rx.mono st2.up) (fun j es e1 e2 => ?_) (rvs.base fun a n => st1.back n))
      · cases z : S2 a with
        | none => rfl
        | some o =>
          rcases st2.new a o z with w | w | w
          · rw [n1] at w; cases w
          · rw [hl] at w; cases w
          · exact absurd w n2
      · exact fun z => by
          rcases st2.own a z with w | w
          · exact n2 w
          · rw [hl] at w; cases w
      · obtain ⟨b, ys, w1, w2, w3⟩ := rvs.at e1
        rw [e2] at w1
        cases w1
        rw [hl] at w2; cases w2⟩⟩
/-! ### storing one after the other -/
def stAll : List Nat → List Sl → List Sl → Option (List Sl)
  | i :: is, sl :: r, env => (stSl i sl env).bind (stAll is r)
  | [], [], env => some env
  | _, _, _ => none
def setAll (σ : L2.St) : List Nat → List V → L2.St
  | i :: is, v :: vs => setAll (σ.set i (some v)) is vs
  | _, _ => σ
variable {K : PySem.W.Frag} {mg : Str → Option Value} {env env0 env1 : List Sl} {σ σ0 : L2.St} {S S0 H H0 : Hp}
theorem RlO.store : ∀ {is : List Nat} {ss : List Sl} {vs : List V} {env env1 : List Sl} {σ : L2.St}, Rep K mg env S σ H → Stp env0 σ0 S0 H0 env σ S H → RlO K mg S H env σ H0 ss vs → stAll is ss env = some env1 →
    Rep K mg env1 S (setAll σ is vs) H ∧ Stp env0 σ0 S0 H0 env1 (setAll σ is vs) S H
  | [], _, _, env, env1, σ, r, st, .nil, h => by cases h; exact ⟨r, st⟩
  | _ :: _, _, _, env, env1, σ, r, st, .nil, h => by cases h
  | [], _, _, env, env1, σ, r, st, .sh _ _, h => by cases h
  | [], _, _, env, env1, σ, r, st, .ow _ _ _ _ _ _ _, h => by cases h
  | i :: is, _, _, env, env1, σ, r, st, .sh (d := d) (v := v) rv b, h => by
    unfold stAll at h
    cases z : stSl i (.sh d) env with
    | none => rw [z] at h; cases h
    | some env2 =>
      rw [z] at h
      obtain ⟨r2, s2⟩ := r.store z rv
      refine RlO.store (is := is) (σ := σ.set i (some v)) r2 (st.trans s2) ?_ h
      -- what is still to be stored is nobody's yet
      have : ∀ {ss : List Sl} {vs : List V}, RlO K mg S H env σ H0 ss vs → RlO K mg S H env2 (σ.set i (some v)) H0 ss vs := by
        intro ss vs q
        induction q with
        | nil => exact .nil
        | sh a _ ih => exact .sh a ih
        | ow a b c d e f _ ih =>
          refine .ow a b (fun z => ?_) d e f ih
          rcases s2.own _ z with w | w
          · exact c w
          · rw [d] at w; cases w
      exact this b
  | i :: is, _, _, env, env1, σ, r, st, .ow (ds := ds) (a := a) n0 n1 n2 hl rx nf b, h => by
    unfold stAll at h
    cases z : stSl i (.ow false ds) env with
    | none => rw [z] at h; cases h
    | some env2 =>
      rw [z] at h
      have r2 := r.storeO z n1 n2 hl rx
      have s2 := r.storeOStp st z n0
      refine RlO.store (is := is) (σ := σ.set i (some (.ref a))) r2 s2 ?_ h
      have : ∀ {ss : List Sl} {vs : List V}, RlO K mg S H env σ H0 ss vs → (∀ (j : Nat) (es : List D), ss[j]? = some (.ow false es) → vs[j]? ≠ some (.ref a)) → RlO K mg S H env2 (σ.set i (some (.ref a))) H0 ss vs := by
        intro ss vs q
        induction q with
        | nil => exact fun _ => .nil
        | sh a _ ih => exact fun hn => .sh a (ih fun j es e => by simpa using hn (j + 1) es (by simpa using e))
        | @ow ds' b xs' r' vs' a0 b0 c0 d0 e0 f0 _ ih =>
          intro hn
          refine .ow a0 b0 (fun w => ?_) d0 e0 f0 (ih fun j es e => by simpa using hn (j + 1) es (by simpa using e))
          have ne : b ≠ a := fun z' => hn 0 ds' rfl (by rw [z']; rfl)
          obtain ⟨rfl, hi, nk⟩ := stSl_some z
          obtain ⟨j, k, es, w1, w2⟩ := w
          by_cases q : i = j
          · subst q
            rw [List.getElem?_set_self (by rw [← r.len]; exact hi)] at w2
            exact ne (by cases w2; rfl)
          · rw [List.getElem?_set_ne q] at w1 w2
            exact c0 ⟨j, k, es, w1, w2⟩
      exact this b nf
/-- the names' stores, in the order given -/
theorem in_order {X : Cx} (gd : Good g G X) {pins : List (Addr × Obj)} {H : Hp} {Q : Unit → Shared → Prop} : ∀ {ns : List Str} {is : List Nat} {vs : List V} {us : List Value} {σ : L2.St} {s : Shared}, Inv X pins σ H s → ns.length = is.length → (∀ (j : Nat) (n : Str) (i : Nat), ns[j]? = some n → is[j]? = some i → tgB G i n = true) →
    Vals vs us → vs.length = is.length → (∀ s', Inv X pins (setAll σ is vs) H s' → Q () s') → wpAny (model X.prog X.w) X.A (assignInOrder (ns.map fun n => bindName X.env n) us) Q X.xe s
  | [], [], _, _, σ, s, I, _, _, .nil, _, q => assignInOrder_nil (q s I)
  | n :: ns, i :: is, _, _, σ, s, I, hl, hb, .cons (a := v) r rr, hv, q => by
    have h := hb 0 n i rfl rfl
    refine assignInOrder_cons (wpAny_bindName (store_ok I (by rw [gd.hN]; exact tgB_nd h) (by rw [gd.hN]; exact tgB_at h) (tgB_loc gd h) r (fun s2 I2 => ?_) (tgB_fn gd h)))
    exact in_order gd I2 (by simpa using hl) (fun j n' i' e1 e2 => hb (j + 1) n' i' (by simpa using e1) (by simpa using e2)) rr (by simpa using hv) q
  | [], _ :: _, _, _, _, _, _, h, _, _, _, _ => by simp at h
  | _ :: _, [], _, _, _, _, _, h, _, _, _, _ => by simp at h
  | _ :: _, _ :: _, _, _, _, _, _, _, _, .nil, h, _ => by simp at h
  | [], [], _, _, _, _, _, _, _, .cons _ _, h, _ => by simp at h
/-- how the compiler stores: names (in this order) from the right, or none of that -/
def Swaps (sc : Scope) (ts : List Expr) (v : Expr) (o : Option (List Str)) : Prop := ∀ env : Env, env.scope = sc → swappedStores ts v env = pure o
/-- stored from the right -/
def stAllR : List Nat → List Sl → List Sl → Option (List Sl)
  | i :: is, sl :: r, env => (stAllR is r env).bind (stSl i sl)
  | [], [], env => some env
  | _, _, _ => none
def setAllR (σ : L2.St) : List Nat → List V → L2.St
  | i :: is, v :: vs => (setAllR σ is vs).set i (some v)
  | _, _ => σ
theorem setAll_app : ∀ {is : List Nat} {vs : List V} {σ : L2.St} {i : Nat} {v : V}, is.length = vs.length → setAll σ (is ++ [i]) (vs ++ [v]) = (setAll σ is vs).set i (some v)
  | [], [], _, _, _, _ => rfl
  | j :: is, w :: vs, σ, i, v, h => setAll_app (is := is) (vs := vs) (σ := σ.set j (some w)) (by simpa using h)
  | [], _ :: _, _, _, _, h => by simp at h
  | _ :: _, [], _, _, _, h => by simp at h
theorem setAll_rev : ∀ {is : List Nat} {vs : List V} {σ : L2.St}, is.length = vs.length → setAll σ is.reverse vs.reverse = setAllR σ is vs
  | [], [], _, _ => rfl
  | i :: is, v :: vs, σ, h => by
    have hl : is.length = vs.length := by simpa using h
    rw [List.reverse_cons, List.reverse_cons, setAll_app (by simp [hl]), setAll_rev hl]
    rfl
  | [], _ :: _, _, h => by simp at h
  | _ :: _, [], _, h => by simp at h
theorem RlO.storeR : ∀ {is : List Nat} {ss : List Sl} {vs : List V} {env1 : List Sl}, Rep K mg env S σ H → Stp env0 σ0 S0 H0 env σ S H → RlO K mg S H env σ H0 ss vs → stAllR is ss env = some env1 →
    Rep K mg env1 S (setAllR σ is vs) H ∧ Stp env0 σ0 S0 H0 env1 (setAllR σ is vs) S H ∧ ∀ a, Own env1 (setAllR σ is vs) a → Own env σ a ∨ ∃ (j : Nat) (es : List D), ss[j]? = some (.ow false es) ∧ vs[j]? = some (.ref a)
  | [], _, _, env1, r, st, .nil, h => by cases h; exact ⟨r, st, fun a x => .inl x⟩
  | _ :: _, _, _, env1, r, st, .nil, h => by cases h
  | [], _, _, env1, r, st, .sh _ _, h => by cases h
  | [], _, _, env1, r, st, .ow _ _ _ _ _ _ _, h => by cases h
  | i :: is, _, _, env1, r, st, .sh (d := d) (v := v) (r := ss) (vs := vs) rv b, h => by
    unfold stAllR at h
    cases z : stAllR is ss env with
    | none => rw [z] at h; cases h
    | some env2 =>
      rw [z] at h
      obtain ⟨r2, s2, o2⟩ := RlO.storeR r st b z
      obtain ⟨r3, s3⟩ := r2.store h rv
      refine ⟨r3, s2.trans s3, fun a x => ?_⟩
      obtain ⟨rfl, hi, nk⟩ := stSl_some h
      obtain ⟨j, k, es, w1, w2⟩ := x
      obtain ⟨q, w1⟩ := set_other w1 (fun z => nomatch z)
      have w2' : (setAllR σ is vs)[j]? = some (some (.ref a)) := by
        have : (setAllR σ (i :: is) (v :: vs)) = (setAllR σ is vs).set i (some v) := rfl
        rw [this, List.getElem?_set_ne q] at w2
        exact w2
      rcases o2 a ⟨j, k, es, w1, w2'⟩ with w | ⟨j', es', w3, w4⟩
      · exact .inl w
      · exact .inr ⟨j' + 1, es', by simpa using w3, by simpa using w4⟩
  | i :: is, _, _, env1, r, st, .ow (ds := ds) (a := a) (r := ss) (vs := vs) n0 n1 n2 hl rx nf b, h => by
    unfold stAllR at h
    cases z : stAllR is ss env with
    | none => rw [z] at h; cases h
    | some env2 =>
      rw [z] at h
      obtain ⟨r2, s2, o2⟩ := RlO.storeR r st b z
      have no : ¬ Own env2 (setAllR σ is vs) a := fun x => by
        rcases o2 a x with w | ⟨j', es', w3, w4⟩
        · exact n2 w
        · exact nf j' es' w3 w4
      have r3 := r2.storeO h n1 no hl rx
      have s3 := r2.storeOStp s2 h n0
      refine ⟨r3, s3, fun c x => ?_⟩
      obtain ⟨rfl, hi, nk⟩ := stSl_some h
      obtain ⟨j, k, es, w1, w2⟩ := x
      have e0 : (setAllR σ (i :: is) (.ref a :: vs)) = (setAllR σ is vs).set i (some (.ref a)) := rfl
      rw [e0] at w2
      by_cases q : i = j
      · subst q
        rw [List.getElem?_set_self (by rw [← r2.len]; exact hi)] at w2
        cases w2
        exact .inr ⟨0, ds, rfl, rfl⟩
      · rw [List.getElem?_set_ne q] at w1 w2
        rcases o2 c ⟨j, k, es, w1, w2⟩ with w | ⟨j', es', w3, w4⟩
        · exact .inl w
        · exact .inr ⟨j' + 1, es', by simpa using w3, by simpa using w4⟩
/-- a, b = x, y where the compiler swaps -/
def sParR (is : List Nat) (f : EV (List Sl)) : SV := bnd f fun ss => bnd (put (stAllR is ss)) fun _ => ret .nx
/-- .. where it does not -/
def sParL (is : List Nat) (f : EV (List Sl)) : SV := bnd f fun ss => bnd (put (stAll is ss)) fun _ => ret .nx
theorem stAllR_len : ∀ {is : List Nat} {ss : List Sl} {env env1 : List Sl}, stAllR is ss env = some env1 → ss.length = is.length
  | [], [], _, _, _ => rfl
  | i :: is, sl :: r, env, env1, h => by
    unfold stAllR at h
    cases z : stAllR is r env with
    | none => rw [z] at h; cases h
    | some env2 => simp [stAllR_len z]
  | [], _ :: _, _, _, h => by cases h
  | _ :: _, [], _, _, h => by cases h
theorem stAll_len : ∀ {is : List Nat} {ss : List Sl} {env env1 : List Sl}, stAll is ss env = some env1 → ss.length = is.length
  | [], [], _, _, _ => rfl
  | i :: is, sl :: r, env, env1, h => by
    unfold stAll at h
    cases z : stSl i sl env with
    | none => rw [z] at h; cases h
    | some env2 => rw [z] at h; simp [stAll_len (is := is) (ss := r) h]
  | [], _ :: _, _, _, h => by cases h
  | _ :: _, [], _, _, h => by cases h
theorem ss_parR {ts : List Expr} {kt k2 : Nat} {pt pt2 : Pos} {ns : List Str} {is : List Nat} {f : EV (List Sl)} (hc : G.calm = true) (ha : SAO g G es f) (hw : Swaps G.sc [.Tuple ts kt pt] (.Tuple es k2 pt2) (some ns)) (hl : ns.length = is.length)
    (hb : ∀ (j : Nat) (n : Str) (i : Nat), ns[j]? = some n → is[j]? = some i → tgB G i n = true) (hz : is.length ≤ 1000) : SS g G (.Assign [.Tuple ts kt pt] (.Tuple es k2 pt2) pos) (sParR is f) := fun X W gd tk => by
  refine ⟨fun pins s σ H D' I ⟨env, S, rep, q⟩ => ?_⟩
  refine Assign_Tuple_swapped ?_ (by rfl) (hw _ gd.hs)
  obtain ⟨r, e1, q1⟩ := q
  have hf : ∃ r1, f env = some r1 ∧ (match r1 with
      | .ok ss env1 => ∃ env2, stAllR is ss env1 = some env2 ∧ r = .ok .nx env2
      | .ex c fs env1 => r = .ex c fs env1) := by
    unfold sParR bnd at e1
    cases z : f env with
    | none => rw [z] at e1; cases e1
    | some r1 =>
      rw [z] at e1
      refine ⟨r1, rfl, ?_⟩
      cases r1 with
      | ex c fs env1 => cases e1; rfl
      | ok ss env1 =>
        dsimp only at e1 ⊢
        unfold put at e1
        cases z2 : stAllR is ss env1 with
        | none => rw [z2] at e1; cases e1
        | some env2 => rw [z2] at e1; cases e1; exact ⟨env2, rfl, rfl⟩
  obtain ⟨r1, hr1, hr⟩ := hf
  refine Tuple_ (thn ((ha X W gd tk).run _ pins s σ H (fun vs H1 => vs.length = is.length ∧ D'.nx (setAllR σ is vs) H1) I ⟨env, S, rep, r1, hr1, ?_⟩) fun us s1 ⟨vs, H1, I1, rv1, hvl, q2⟩ => ?_)
  · cases r1 with
    | ex c fs env1 =>
      subst hr
      exact fun cls dd S' H' st' rep' x => q1 cls dd σ S' H' st' rep' x
    | ok ss env1 =>
      obtain ⟨env2, e2, rfl⟩ := hr
      intro S1 H1 st1 rep1 vs rv
      refine ⟨by rw [rv.length, stAllR_len e2], ?_⟩
      obtain ⟨w1, w2, _⟩ := RlO.storeR rep1 st1 rv e2
      exact q1 _ S1 H1 w2 w1
  · have hus : us.length = is.length := by rw [← rv1.length]; exact hvl
    refine wpAny_newObj_type ?_ (by show us.toArray.size ≤ sizeLine; rw [List.size_toArray, hus]; exact Nat.le_trans hz (by decide))
    have I2 : Inv X pins σ H1 { s1 with heap := s1.heap.push { cls := .type "tuple", data := .seq us.toArray } } := I1.kept (t' := s1.toks) fun b o e => Heap.get?_push_of_some _ e
    have hn : ns.length = us.toArray.size := by rw [List.size_toArray, hus, hl]
    rw [hn]
    refine unpackItems_tuple (items := us.toArray) (I.ok.hd (gd.calm hc).1) (IsTup.new s1.heap _) fun h' hx' => ?_
    have I3 := I2.kept (h' := h') (t' := s1.toks) fun b o e => hx' b o (Nat.ne_of_lt (Heap.lt_size e)) e
    have rr : Vals vs.reverse us.reverse := Vals.reverse rv1
    show wpAny _ _ (assignInOrder (ns.reverse.map fun n => bindName X.env n) us.reverse) _ _ _
    refine in_order gd I3 (is := is.reverse) (vs := vs.reverse) (by simp [hl]) (fun j n i e1 e2 => ?_) rr (by simp [hvl]) fun s' I' => ?_
    · have hj : j < ns.length := by have := (List.getElem?_eq_some_iff.mp e1).1; simpa using this
      rw [List.getElem?_reverse hj] at e1
      rw [List.getElem?_reverse (by rw [← hl]; exact hj)] at e2
      exact hb (ns.length - 1 - j) n i e1 (by rw [hl]; exact e2)
    · rw [setAll_rev hvl.symm] at I'
      exact ⟨_, H1, I', q2⟩
/-- targets that are names, stored from the left -/
theorem pgs_names {X : Cx} (gd : Good g G X) : ∀ {ts : List Expr} {is : List Nat}, (∀ (j : Nat) (t : Expr) (i : Nat), ts[j]? = some t → is[j]? = some i → ∃ n p, t = .Name n p ∧ tgB G i n = true) → ts.length = is.length →
    PGs X ts (fun vs σ H Q => vs.length = is.length ∧ Q (setAll σ is vs) H)
  | [], [], _, _ => PGs.weak pgs_nil fun vs σ H Q ⟨h, q⟩ => by
    cases vs with
    | nil => exact ⟨rfl, q⟩
    | cons _ _ => cases h
  | t :: ts, i :: is, hb, hl => by
    obtain ⟨n, p, rfl, h⟩ := hb 0 t i rfl rfl
    refine PGs.weak (pgs_cons (pg_name (i := i) (by rw [gd.hN]; exact tgB_nd h) (by rw [gd.hN]; exact tgB_at h) (tgB_loc gd h) (tgB_fn gd h)) (pgs_names gd (ts := ts) (is := is) (fun j t' i' e1 e2 => hb (j + 1) t' i' (by simpa using e1) (by simpa using e2)) (by simpa using hl)) (by rfl)) fun vs σ H Q ⟨h, q⟩ => ?_
    cases vs with
    | nil => cases h
    | cons v vs => exact ⟨v, vs, rfl, by simpa using h, q⟩
  | [], _ :: _, _, h => by simp at h
  | _ :: _, [], _, h => by simp at h
theorem ss_parL {ts : List Expr} {kt k2 : Nat} {pt pt2 : Pos} {is : List Nat} {f : EV (List Sl)} (hc : G.calm = true) (ha : SAO g G es f) (hw : Swaps G.sc [.Tuple ts kt pt] (.Tuple es k2 pt2) none) (hl : ts.length = is.length)
    (hb : ∀ (j : Nat) (t : Expr) (i : Nat), ts[j]? = some t → is[j]? = some i → ∃ n p, t = .Name n p ∧ tgB G i n = true) (hs : starsB ts = true) (hz : is.length ≤ 1000) : SS g G (.Assign [.Tuple ts kt pt] (.Tuple es k2 pt2) pos) (sParL is f) := fun X W gd tk => by
  have pt := pg_tup (k := kt) (pos := pt) (n := ts.length) (gd.calm hc).1 (pgs_names gd hb hl) (assignEach_len hs).1 (assignEach_len hs).2
  refine PS.weak (ps_asg (pe_tup (ha X W gd tk)) pt (by rfl) (hw _ gd.hs) (by rfl)) fun D' σ H ⟨env, S, rep, q⟩ => ?_
  obtain ⟨r, e1, q1⟩ := q
  unfold sParL bnd at e1
  cases z : f env with
  | none => rw [z] at e1; cases e1
  | some r1 =>
    rw [z] at e1
    refine ⟨env, S, rep, r1, z, ?_⟩
    cases r1 with
    | ex c fs env1 => cases e1; exact fun cls dd S' H' st' rep' x => q1 cls dd σ S' H' st' rep' x
    | ok ss env1 =>
      dsimp only at e1
      unfold put at e1
      cases z2 : stAll is ss env1 with
      | none => rw [z2] at e1; cases e1
      | some env2 =>
        rw [z2] at e1
        cases e1
        intro S1 H1 st1 rep1 vs rv
        have hvl : vs.length = is.length := by rw [rv.length, stAll_len z2]
        refine ⟨by rw [hvl]; exact Nat.le_trans hz (by decide), fun p hp => ⟨p, vs, rfl, SqT.of upd_same, by rw [hvl, hl], hvl, ?_⟩⟩
        -- the pair itself is tracked, shared with nobody
        have rep2 : Rep g.K g.mg env1 S1 σ (upd H1 p (.tup vs)) := rep1.layO hp
        have st2 : Stp env σ S H env1 σ S1 (upd H1 p (.tup vs)) := st1.trans (rep1.layOStp hp)
        have rv2 : RlO g.K g.mg S1 (upd H1 p (.tup vs)) env1 σ H ss vs := by
          have : ∀ {ss : List Sl} {us : List V}, RlO g.K g.mg S1 H1 env1 σ H ss us → RlO g.K g.mg S1 (upd H1 p (.tup vs)) env1 σ H ss us := by
            intro ss us x
            induction x with
            | nil => exact .nil
            | sh a _ ih => exact .sh a ih
            | ow a b c d e f _ ih => exact .ow a b c (by rw [upd_ne (ne_of_none d hp)]; exact d) e f ih
          exact this rv
        obtain ⟨w1, w2⟩ := RlO.store rep2 st2 rv2 z2
        exact q1 _ _ _ w2 w1
/-- x = [.. for ..], x a local name: the compiler stores within the comprehension's frame -/
theorem ss_setComp {i : Nat} {x : Str} {pos' : Pos} {elt tg iter : Expr} {ifs : List Expr} {scope : Scope} {own : List (Str × Nat)} {cpos : Pos} {src : EV (List D)} {T : D → List Sl → Option (List Sl)} {tt : EV Bool} {f : EV D} (hc : G.calm = true) (hx : tgB G i x = true) (hxl : isLocal G.sc x = true)
    (hsw : ∀ env : Env, env.scope = G.sc → swapsWith (.ListComp elt [⟨tg, iter, ifs, 0⟩] scope cpos) (some (.Name x pos')) pos.line env = pure true) (hi : SI g G tg iter src)
    (hok : blkC G.N G.sc scope own = true) (hg : SG g (blkG G scope) tg T (own.map (·.2))) (ht : STs g (blkG G scope) ifs tt) (he : SE g (blkG G scope) elt f) (hs : setB iter = true) :
    SS g G (.Assign [.Name x pos'] (.ListComp elt [⟨tg, iter, ifs, 0⟩] scope cpos) pos) (sSetO i (oComp (own.map (·.2)) src T tt f)) := fun X W gd tk => by
  obtain ⟨wi, p1, p2⟩ := hi X W gd tk
  have ok : BlkOk X.N X.env.scope scope own := by rw [gd.hN, gd.hs]; exact blkOk_by hok
  refine PS.weak (ps_setLc (i := i) (gd.calm hc).1 (by rw [gd.hN]; exact tgB_nd hx) (by rw [gd.hN]; exact tgB_at hx) (by rw [gd.hs]; exact isLocal_of hxl) (hsw _ gd.hs) p1 ok (fun s H C cl fp => hg _ (good_blk gd s H scope cl C fp)) (fun s H C cl fp => ht _ _ (good_blk gd s H scope cl C fp) no_takes) (fun s H C cl fp => he _ _ (good_blk gd s H scope cl C fp) no_takes) (folded_of hs)) fun D' σ H ⟨env, S, rep, q⟩ => ?_
  refine lc_read (X := X) p2 σ H _ ⟨env, S, rep, ?_⟩
  obtain ⟨r, e0, q⟩ := q
  unfold sSetO bnd at e0
  cases z : oComp (own.map (·.2)) src T tt f env with
  | none => rw [z] at e0; cases e0
  | some r1 =>
    rw [z] at e0
    refine ⟨r1, z, ?_⟩
    cases r1 with
    | ex c fs env1 => cases e0; exact fun cls dd S' H' st rep' x => q cls dd σ S' H' st rep' x
    | ok ds env1 =>
      intro S1 H1 st1 rep1 a xs n0 n1 n2 hl ra
      dsimp only at e0
      unfold put at e0
      cases z2 : stSl i (.ow false ds) env1 with
      | none => rw [z2] at e0; cases e0
      | some env2 =>
        rw [z2] at e0
        cases e0
        exact q _ S1 H1 (rep1.storeOStp st1 z2 n0) (rep1.storeO z2 n1 n2 hl ra)
end
end G3

/-! G3o: raise, try. -/
namespace G3
open PySem PySem.Spec PyProof.Rows L2
/-- an own exception class without an own __init__ -/
structure ExcS (g : Gr) (x : Str) : Prop where
  ex : ∃ C, g.mg x = some (.ref C) ∧ PySem.W.excIn g.K C [.type "ValueError", .type "Exception", .type "BaseException", .type "object"] "ValueError.__new__" = true ∧ PySem.W.keepIn g.K (.ref C) = true ∧ PySem.W.subIn g.K (.ref C) (.type "BaseException") = some true ∧ PySem.W.typeIn g.K (.ref C) = some (.type "type")
section
variable {g : Gr} {G : Ctx} {e : Expr} {es : List Expr} {pos : Pos}
def sRaise (c : Str) : SV := fun env => some (.ex c [] env)
theorem ss_raise {x m : Str} {j : Nat} {p p2 pc : Pos} (hc : G.calm = true) (hg : gloB G x = true) (c : ExcS g x) : SS g G (.Raise (some (.Call (.Name x p) [.Constant (.str m) j p2] [] pc)) none pos) (sRaise x) := fun X W gd tk => by
  obtain ⟨C, h1, h2, h3, h4, h5⟩ := c.ex
  rw [← gd.hK] at h2 h3 h4 h5
  refine PS.weak (ps_raise (gd.calm hc).1 tk (pmk_own PySem.F.excBase_ValueError h2 (by rw [gd.hm]; exact h1) h3 (raises_own h4 h5) (gl_of gd hg) (nameOk_1 (glo_nm hg)).1)) fun D' σ H ⟨env, S, rep, r, e1, q⟩ => ?_
  cases e1
  exact q _ _ σ S H Stp.refl rep ⟨h1, .inl ⟨rfl, rfl⟩⟩
/-! ### try: .. except X as n: return of a known value -/
/-- a value that stands for the data whatever the heap -/
def KVal (g : Gr) (r : D) (v : V) : Prop := ∀ S, Rp g.K g.mg S v r
/-- the suite gives back what h says of the exception's class; slot i holds the exception -/
def SU (g : Gr) (G : Ctx) (i : Nat) (suite : List Stmt) (h : Str → Option D) : Prop := ∀ X, Good g G X → ∀ (a : Addr) (oe : Obj) (cls : Value) (pn : List (Addr × Obj)) (c : Str) (r : D), g.mg c = some cls → Zc cls none oe → (∃ vs, oe.data = .fields vs) → h c = some r →
  PSs (X.suite a ((a, oe) :: pn)) suite (fun D' σ H => σ[i]? = some (some (.ref a)) ∧ ∀ v, KVal g r v → D'.rt v H)
def sTry (i : Nat) (mt : Str → Option Bool) (h : Str → Option D) (b : SV) : SV := fun env => match b env with
  | some (.ex c [] env') => (match mt c with
    | some true => (h c).bind fun r => if i < env'.length then some (.ok (.rt (.sh r)) env') else none
    | some false => some (.ex c [] env')
    | none => none)
  | some (.ex _ _ _) => none
  | r => r
/-- which classes the clause names -/
def Catches (g : Gr) (x : Str) (mt : Str → Option Bool) : Prop := ∃ cv, g.mg x = some cv ∧ ∀ c b cls, mt c = some b → g.mg c = some cls → PySem.W.exmOne g.K cls cv = some b
theorem Good.tr {X : Cx} (gd : Good g G X) (pn : List (Addr × Obj)) (xe : Value → Shared → Prop) (po : PassesOwn (model X.prog X.w) X.A X.env xe) : Good g G (X.tr pn xe) where
  hp := gd.hp
  hw := gd.hw
  hK := gd.hK
  hm := gd.hm
  hb := gd.hb
  hN := gd.hN
  hs := gd.hs
  fn := gd.fn
  calm := gd.calm
  gds := gd.gds
  top := fun h => ⟨(gd.top h).1, (gd.top h).2.1, po⟩
/-- from the reading of the whole to that of the body -/
theorem try_read {i : Nat} {W W' : WX} {mt : Str → Option Bool} {h : Str → Option D} {b : SV} {D' : Ends} {σ : L2.St} {H : Hp} (q : tS g.K g.mg W (sTry i mt h b) D' σ H)
    (k1 : ∀ c cls (σ' : L2.St) H' r, i < σ'.length → mt c = some true → h c = some r → g.mg c = some cls → (∀ v, KVal g r v → D'.rt v H') → W' cls none σ' H')
    (k0 : ∀ c cls σ' H', mt c = some false → g.mg c = some cls → W cls none σ' H' → W' cls none σ' H') : tS g.K g.mg W' b D' σ H := by
  obtain ⟨env, S, rep, r, e, q⟩ := q
  unfold sTry at e
  refine ⟨env, S, rep, ?_⟩
  cases z : b env with
  | none => rw [z] at e; cases e
  | some r1 =>
    rw [z] at e
    refine ⟨r1, z, ?_⟩
    cases r1 with
    | ok fl env1 => cases e; exact q
    | ex c fs env1 =>
      cases fs with
      | cons _ _ => cases e
      | nil =>
        intro cls dd σ' S' H' st' rep' x
        obtain ⟨x1, x2⟩ := x
        have hdd : dd = none := by
          rcases x2 with ⟨_, x2⟩ | ⟨d, fl, x3, _⟩
          · exact x2
          · exact absurd rfl x3
        subst hdd
        dsimp only at e
        cases zm : mt c with
        | none => rw [zm] at e; cases e
        | some m =>
          rw [zm] at e
          cases m with
          | false =>
            cases e
            exact k0 c cls σ' H' zm x1 (q cls none σ' S' H' st' rep' ⟨x1, .inl ⟨rfl, rfl⟩⟩)
          | true =>
            dsimp only at e
            cases zh : h c with
            | none => rw [zh] at e; cases e
            | some rd =>
              rw [zh] at e
              dsimp only [Option.bind] at e
              split at e
              case isFalse => cases e
              case isTrue hl =>
              cases e
              exact k1 c cls σ' H' rd (by rw [← rep'.len]; exact hl) zm zh x1 fun v hv => q σ' S' H' st' rep' v (hv S')
theorem ss_try_as {x n : Str} {i : Nat} {body suite : List Stmt} {b₀ : Stmt} {np p' : Pos} {b : SV} {mt : Str → Option Bool} {h : Str → Option D} (ht : G.top = true) (hg : gloB G x = true) (hN : G.N.Nodup) (hi : G.N[i]? = some n) (hn : isLocal G.sc n = true) (hc : Catches g x mt)
    (hb : SSs g G body b) (hs : SU g G i (b₀ :: suite) h) : SS g G (.Try body [.ExceptHandler (some (.Name x np)) (some n) (b₀ :: suite) p'] [] [] pos) (sTry i mt h b) := fun X W gd tk => by
  obtain ⟨cv, c1, c2⟩ := hc
  have hnm : Names X x cv := ⟨gl_of gd hg, (nameOk_1 (glo_nm hg)).1, .inl (by rw [gd.hm]; exact c1)⟩
  have hln : X.env.kindOf n = some .local := by
    unfold PySem.Env.kindOf
    rw [gd.hs]
    exact isLocal_of hn
  refine PS.weak (ps_try_as (i := i) (gd.top ht).1 (gd.top ht).2.1 (by rw [gd.hN]; exact hN) (by rw [gd.hN]; exact hi) hln hnm tk (tb := fun W => tS g.K g.mg W b)
    (ts := fun a cls d D' σ H => ∃ c r, d = none ∧ g.mg c = some cls ∧ h c = some r ∧ σ[i]? = some (some (.ref a)) ∧ ∀ v, KVal g r v → D'.rt v H) (fun W pn xe tk' po => hb _ _ (gd.tr pn xe po) tk') fun a oe cls d pn hz hf => ?_) fun D' σ H q => ?_
  · refine ⟨fun pins s σ H D' I ⟨c, r, hd, h1, h2, h3, h4⟩ => ?_⟩
    subst hd
    exact (hs X gd a oe cls pn c r h1 hz hf h2).run pins s σ H D' I ⟨h3, h4⟩
  · refine try_read q (fun c cls σ' H' r zl z1 z2 z3 z4 => ?_) (fun c cls σ' H' z1 z3 w => ?_)
    · refine ⟨true, by rw [gd.hK]; exact c2 c true cls z1 z3, (fun _ a na => ⟨c, r, rfl, z3, z2, ?_, z4⟩), (fun z => nomatch z)⟩
      rw [List.getElem?_set_self zl]
    · exact ⟨false, by rw [gd.hK]; exact c2 c false cls z1 z3, (fun z => nomatch z), (fun _ => w)⟩
/-- an except suite that only gives back a written value -/
def SUk (g : Gr) (G : Ctx) (suite : List Stmt) (h : Str → Option D) : Prop := ∀ X, Good g G X → ∀ (a : Addr) (oe : Obj) (cls : Value) (pn : List (Addr × Obj)) (c : Str) (r : D), g.mg c = some cls → Zc cls none oe → (∃ vs, oe.data = .fields vs) → h c = some r →
  PSs (X.suite a ((a, oe) :: pn)) suite (fun D' σ H => ∀ v, KVal g r v → D'.rt v H)
end
end G3

/-! G3p: isinstance, len(set(..)), the suite of a test of an exception. -/
namespace G3
open PySem PySem.Spec PyProof.Rows L2
def tyD : D → Option String
  | .non => some "NoneType"
  | .bl _ => some "bool"
  | .int _ => some "int"
  | .str _ => some "str"
  | .lst _ => some "list"
  | .scr _ => some "list"
  | .tup _ => some "tuple"
  | .dct _ _ => some "dict"
  | .obj _ _ _ => none
section
variable {K : PySem.W.Frag} {mg : Str → Option Value} {S H : Hp}
theorem ty_sqL {a : Addr} {xs : List V} (h : SqL K H a xs) : TyX K H (.ref a) (.type "list") := by
  rcases h with (h | ⟨o, h⟩) | ⟨o, its, n, h, hc, _⟩
  · exact .base (.lst h)
  · exact .base (.frz h)
  · exact .kList h hc
theorem ty_sqT {a : Addr} {xs : List V} (h : SqT K H a xs) : TyX K H (.ref a) (.type "tuple") := by
  rcases h with (h | ⟨o, h⟩) | ⟨o, its, n, h, hc, _⟩
  · exact .base (.tup h)
  · exact .fTuple h
  · exact .kTuple h hc
theorem ty_of {v : V} {d : D} {T : String} (r : Rp K mg S v d) (h : tyD d = some T) : TyX K S v (.type T) := by
  cases r <;> cases h
  · exact .base .non
  · exact .base (.bl _)
  · exact .base (.int _)
  · exact .base (.str _)
  · rename_i h1 h2; exact .base (.lst h1)
  · rename_i h1; exact ty_sqL h1
  · rename_i h1 h2; exact ty_sqT h1
  · rename_i h1 h2 h3; exact .base (.dK h1)
  · rename_i h1 h2 h3; exact .base (.dT h1)
end
def isD (T : String) (d : D) : Option D := (tyD d).bind fun t => (kitB t T).map D.bl
def eIsi (T : String) (f : EV D) : EV D := bnd f fun d => lift (isD T d)
section
variable {g : Gr} {G : Ctx} {a e : Expr} {es : List Expr} {pos p p2 q : Pos} {x y : Str} {id T : String}
theorem se_isi {f : EV D} (hg : gloB G "isinstance" = true) (hf : Free g "isinstance") (hy : gloB G y = true) (hfy : Free g y) (hv : bootBuiltins y = some (.type T)) (ha : SE g G e f) (hs : starsB [e, .Name y p2] = true) : SE g G (.Call (.Name "isinstance" p) [e, .Name y p2] [] pos) (eIsi T f) := fun X W gd tk => by
  have hn : PE X (.Name y p2) (tC (.ty T)) := pe_bltn (gl_of gd hy) (by rw [gd.hm]; exact hfy) hv rfl (nameOk_1 (glo_nm hy)).2.2 (nameOk_1 (glo_nm hy)).1
  have hb := Bool.and_eq_true_iff.mp hs
  have h2 := Bool.and_eq_true_iff.mp hb.2
  have hp : PA X [e, .Name y p2] _ := pa_cons (ha X W gd tk) (pa_cons hn pa_nil (star_of h2.1)) (star_of hb.1)
  refine PE.weak (pe_callB call_isi (gl_of gd hg) (by rw [gd.hm]; exact hf) rfl hp (nameOk_1 (glo_nm hg)).2.2 (nameOk_1 (glo_nm hg)).1 (star_of hb.1) (stars_any pos hb.2)) fun σ H Q ⟨env, S, rep, q⟩ => ⟨env, S, rep, q.then.imp fun d env1 S1 H1 st1 rep1 q1 v rv => ?_⟩
  obtain ⟨r, e1, q2⟩ := q1.lift
  unfold isD at e1
  cases ht : tyD d with
  | none => rw [ht] at e1; cases e1
  | some t =>
    rw [ht] at e1
    dsimp only [Option.bind] at e1
    cases hk : kitB t T with
    | none => rw [hk] at e1; cases e1
    | some b =>
      rw [hk] at e1
      cases e1
      refine ⟨v, .ty T, .type t, .type T, b, rfl, .ty T, ?_, kit_ty hk, q2 _ _ Stp.refl rep1 _ (.bl b)⟩
      rw [gd.hK]
      have := ty_of (rv.mono rep1.sub) ht
      exact this
end
/-! ### len(set(xs)), xs a list of tuples of ints -/
def nub : List (List Int) → List (List Int)
  | [] => []
  | x :: xs => if x ∈ xs then nub xs else x :: nub xs
theorem mem_nub {y : List Int} : ∀ {xs : List (List Int)}, y ∈ nub xs ↔ y ∈ xs
  | [] => Iff.rfl
  | x :: xs => by
    unfold nub
    split
    · rename_i h
      rw [mem_nub (xs := xs), List.mem_cons]
      exact ⟨.inr, fun z => z.elim (fun z => z ▸ h) _root_.id⟩
    · rw [List.mem_cons, List.mem_cons, mem_nub (xs := xs)]
theorem nub_nodup : ∀ xs : List (List Int), (nub xs).Nodup
  | [] => List.nodup_nil
  | x :: xs => by
    unfold nub
    split
    · exact nub_nodup xs
    · rename_i h
      exact List.nodup_cons.mpr ⟨fun z => h (mem_nub.mp z), nub_nodup xs⟩
theorem nub_len {xs ys : List (List Int)} (h1 : ys.Nodup) (h2 : ∀ y, y ∈ ys ↔ y ∈ xs) : ys.length = (nub xs).length :=
  ((List.perm_ext_iff_of_nodup h1 (nub_nodup xs)).mpr fun y => (h2 y).trans mem_nub.symm).length_eq
theorem nub_le : ∀ xs : List (List Int), (nub xs).length ≤ xs.length
  | [] => Nat.le_refl _
  | x :: xs => by
    unfold nub
    split
    · exact Nat.le_succ_of_le (nub_le xs)
    · exact Nat.succ_le_succ (nub_le xs)
theorem nub_len_iff : ∀ xs : List (List Int), (nub xs).length = xs.length ↔ xs.Nodup
  | [] => ⟨fun _ => List.nodup_nil, fun _ => rfl⟩
  | x :: xs => by
    have ih := nub_len_iff xs
    have le := nub_le xs
    unfold nub
    split
    · rename_i h
      rw [List.nodup_cons, List.length_cons]
      exact ⟨fun z => by omega, fun z => (z.1 h).elim⟩
    · rename_i h
      rw [List.nodup_cons, List.length_cons, List.length_cons, ← ih]
      exact ⟨fun z => ⟨h, by omega⟩, fun z => by omega⟩
def keyT : D → Option (List Int)
  | .tup ds => intsD ds
  | _ => none
def keysT : List D → Option (List (List Int))
  | [] => some []
  | d :: ds => (keyT d).bind fun k => (keysT ds).map (k :: ·)
def lenSetD : D → Option D
  | .lst ds => if ds.length < 64 then (keysT ds).map fun ks => .int (nub ks).length else none
  | _ => none
def eLenSet (f : EV D) : EV D := bnd f fun d => lift (lenSetD d)
section
variable {K : PySem.W.Frag} {mg : Str → Option Value} {S H : Hp}
theorem key_of {v : V} {d : D} {ns : List Int} (r : Rp K mg S v d) (h : keyT d = some ns) : ∃ a, v = .ref a ∧ SqT K S a (ns.map V.int) := by
  cases r <;> try cases h
  rename_i a xs ds h1 h2
  refine ⟨a, rfl, ?_⟩
  rw [← intsD_of h2 h]
  exact h1
theorem keys_of : ∀ {vs : List V} {ds : List D} {ks : List (List Int)}, RpA K mg S vs ds → keysT ds = some ks → ∃ ps : List (Addr × List Int), vs = ps.map (fun p => V.ref p.1) ∧ ps.map (·.2) = ks ∧ ∀ p ∈ ps, SqT K S p.1 (p.2.map V.int)
  | _, _, _, .nil, e => by cases e; exact ⟨[], rfl, rfl, fun p h => nomatch h⟩
  | _, _, _, .cons (d := d) (ds := ds) r rs, e => by
    unfold keysT at e
    cases hk : keyT d with
    | none => rw [hk] at e; cases e
    | some k =>
      rw [hk] at e
      dsimp only [Option.bind] at e
      cases hs : keysT ds with
      | none => rw [hs] at e; cases e
      | some kk =>
        rw [hs] at e
        cases e
        obtain ⟨a, rfl, h1⟩ := key_of r hk
        obtain ⟨ps, rfl, h2, h3⟩ := keys_of rs hs
        exact ⟨(a, k) :: ps, rfl, by rw [List.map_cons, h2], fun p hp => (List.mem_cons.mp hp).elim (fun z => z ▸ h1) (h3 p)⟩
end
section
variable {X : Cx}
def tLenSetT (K : PySem.W.Frag) (ta : TE) : TE := fun σ H Q => ta σ H fun x H1 => ∃ (l : Addr) (ks : List (Addr × List Int)), x = V.ref l ∧ SqL K H1 l (ks.map fun p => V.ref p.1) ∧ (∀ p ∈ ks, SqT K H1 p.1 (p.2.map V.int)) ∧ ks.length < 64 ∧
  ∀ L : List (Addr × List Int), (L.map (·.2)).Nodup → (∀ p ∈ L, p ∈ ks) → (∀ p ∈ ks, p.2 ∈ L.map (·.2)) → Q (.int L.length) H1
theorem pe_lenSetT {a : Expr} {ta : TE} {p p2 q pos : Pos} (hc : X.calm = true) (hu : X.A.units + 64 < cLine) (hg : Gl X "len") (hm : X.mg "len" = none) (hg2 : Gl X "set") (hm2 : X.mg "set" = none) (ha : PE X a ta)
    (na : starEach [a] X.env = (false, eval a X.env) :: starEach [] X.env := by rfl) : PE X (.Call (.Name "len" p) [.Call (.Name "set" p2) [a] [] q] [] pos) (tLenSetT X.K ta) := by
  refine ⟨fun pins s σ H Q I h => ?_⟩
  refine Call_ (ld_blt I hg hm PySem.boot_len ?_)
  refine PyProof.Rows.callWith_builtin1 (PyProof.Rows.args_cons ?_ rfl) rfl rfl
  refine Call_ (ld_blt I hg2 hm2 PyProof.Rows.boot_set ?_)
  refine PyProof.Rows.callWith_type1 (PyProof.Rows.args_cons (thn (ha.run pins s σ H _ I h) fun v s1 ⟨x, H1, I1, r1, q1⟩ => PyProof.Rows.args_nil ?_) na) na rfl
  obtain ⟨l, ks, rfl, hq, hk, h1, q1⟩ := q1
  cases r1
  obtain ⟨its, r, pl, hz⟩ := I1.list hq
  refine call_set_tups (P := X.prog) (w := X.w) ks (I1.ok.hd hc) pl.isList (by simpa using refs_of_vals r) (fun p hp => I1.isT (hk p hp)) h1 (by omega) fun h' tk L es ep t R g k => ?_
  refine PyProof.Rows.args_nil ?_
  have I2 : Inv X pins σ H1 { s1 with heap := h', toks := tk } := I1.kept k
  obtain ⟨o, ho, hex, hd⟩ := R.ob
  have hsz := SetTR.size (s := { s1 with heap := h', toks := tk }) R
  have hfew := R.few
  refine call_len_set ho hex hd (SetTR.fits (s := { s1 with heap := h', toks := tk }) R) (by omega) ⟨.int L.length, H1, I2.tok _, ⟨_, by rw [hsz]⟩, q1 L R.nd (fun p hp => List.mem_of_mem_take (g.sub p hp)) fun p hp => g.all p (by rw [List.take_length]; exact hp)⟩
end
section
variable {g : Gr} {G : Ctx} {a e : Expr} {es : List Expr} {pos p p2 q : Pos} {x y : Str} {id T : String}
theorem se_lenSet {f : EV D} (hc : G.calm = true) (hg : gloB G "len" = true) (hf : Free g "len") (hg2 : gloB G "set" = true) (hf2 : Free g "set") (ha : SE g G e f) (hs : starB e = true) : SE g G (.Call (.Name "len" p) [.Call (.Name "set" p2) [e] [] q] [] pos) (eLenSet f) := fun X W gd tk => by
  refine PE.weak (pe_lenSetT (gd.calm hc).1 (gd.calm hc).2.units (gl_of gd hg) (by rw [gd.hm]; exact hf) (gl_of gd hg2) (by rw [gd.hm]; exact hf2) (ha X W gd tk) (star_of hs)) fun σ H Q ⟨env, S, rep, q⟩ => ⟨env, S, rep, q.then.imp fun d env1 S1 H1 st1 rep1 q1 v rv => ?_⟩
  obtain ⟨r, e1, q2⟩ := q1.lift
  cases d with
  | lst ds =>
    unfold lenSetD at e1
    dsimp only at e1
    split at e1
    case isFalse => cases e1
    case isTrue h64 =>
    cases hk : keysT ds with
    | none => rw [hk] at e1; cases e1
    | some ks =>
      rw [hk] at e1
      cases e1
      cases rv with
      | lst r1 r2 =>
        obtain ⟨ps, h1, h2, h3⟩ := keys_of (r2.mono rep1.sub) hk
        refine ⟨_, ps, rfl, ?_, fun p hp => ?_, ?_, fun L n1 n2 n3 => ?_⟩
        · rw [gd.hK, ← h1]; exact .inl (.inl (rep1.sub _ _ r1))
        · rw [gd.hK]; exact h3 p hp
        · have e1 := r2.length
          rw [h1, List.length_map] at e1
          omega
        · have e2 : L.length = (nub ks).length := by
            rw [← List.length_map (f := (·.2)) (as := L)]
            refine nub_len n1 fun y => ⟨fun hy => ?_, fun hy => ?_⟩
            · obtain ⟨p, hp, rfl⟩ := List.mem_map.mp hy
              rw [← h2]
              exact List.mem_map.mpr ⟨p, n2 p hp, rfl⟩
            · rw [← h2] at hy
              obtain ⟨p, hp, rfl⟩ := List.mem_map.mp hy
              exact n3 p hp
          rw [e2]
          exact q2 _ _ Stp.refl rep1 _ (.int _)
  | _ => cases e1
end
end G3
namespace G3
open PySem PySem.Spec PyProof.Rows L2
/-! ### the suite of a test of an exception's class -/
/-- an exception of class c, asked for the class Y -/
def IsEx (g : Gr) (c Y : Str) (b : Bool) : Prop := ∃ C Dv, g.mg c = some (.ref C) ∧ ExcC g.K C ∧ g.mg Y = some (.ref Dv) ∧ PySem.W.kitOne g.K (.ref C) (.ref Dv) = some b
/-- an expression of an except suite that gives a written value -/
def SUE (g : Gr) (G : Ctx) (i : Nat) (e : Expr) (h : Str → Option D) : Prop := ∀ X, Good g G X → ∀ (a : Addr) (oe : Obj) (cls : Value) (pn : List (Addr × Obj)) (c : Str) (r : D), g.mg c = some cls → Zc cls none oe → (∃ vs, oe.data = .fields vs) → h c = some r →
  PE (X.suite a ((a, oe) :: pn)) e (fun σ H Q => σ[i]? = some (some (.ref a)) ∧ ∀ v, KVal g r v → Q v H)
section
variable {g : Gr} {G : Ctx} {e e' c0 : Expr} {pos p p2 p3 q : Pos} {n Y : Str} {i : Nat} {h h' : Str → Option D}
theorem su_ret (he : SUE g G i e h) : SU g G i [.Return (some e) pos] h := fun X gd a oe cls pn c r h1 h2 h3 h4 =>
  PSs.weak (pss_one (ps_ret (he X gd a oe cls pn c r h1 h2 h3 h4))) fun D' σ H q => q
theorem sue_isE {hb : Str → Option Bool} (hg : gloB G "isinstance" = true) (hf : Free g "isinstance") (hY : gloB G Y = true) (hn : varB G i n = true) (hx : ∀ c b, hb c = some b → IsEx g c Y b) :
    SUE g G i (.Call (.Name "isinstance" p) [.Name n p2, .Name Y p3] [] pos) (fun c => (hb c).map D.bl) := fun X gd a oe cls pn c r h1 h2 h3 h4 => by
  dsimp only at h4
  cases hz : hb c with
  | none => rw [hz] at h4; cases h4
  | some b =>
    rw [hz] at h4
    cases h4
    obtain ⟨C, Dv, e1, e2, e3, e4⟩ := hx c b hz
    rw [e1] at h1
    injection h1 with h1
    subst h1
    unfold varB at hn
    simp only [Bool.and_eq_true, decide_eq_true_eq] at hn
    have gg := gl_of gd hg
    have gy := gl_of gd hY
    have p1 : PE (X.suite a ((a, oe) :: pn)) (.Name n p2) (tVar i) := pe_var (i := i) (by show X.N[i]? = _; rw [gd.hN]; exact hn.1.1) (by show Vis X.env.scope n; rw [gd.hs]; exact vis_of hn.1.2) (nameOk_1 hn.2).1 (nameOk_1 hn.2).2.1
    have p2' : PE (X.suite a ((a, oe) :: pn)) (.Name Y p3) (tC (.ref Dv)) := pe_glob gy (by show X.mg Y = _; rw [gd.hm]; exact e3) rfl (nameOk_1 (glo_nm hY)).1
    refine PE.weak (pe_callB (call_isE (X := X) (a := a) (D := C) (oe := oe) (pn := pn) (by rw [gd.hK]; exact e2) h2 h3) gg (by show X.mg _ = _; rw [gd.hm]; exact hf) rfl (pa_cons p1 (pa_cons p2' pa_nil)) (nameOk_1 (glo_nm hg)).2.2 (nameOk_1 (glo_nm hg)).1) fun σ H Q ⟨hs, q⟩ => ?_
    refine ⟨.ref a, hs, .ref Dv, .ref Dv, b, rfl, fun u hu => hu, by rw [gd.hK]; exact e4, q _ fun S => .bl b⟩
end
end G3

/-! G3q: x[::k], k one or minus one; x.pop(i) as a value. -/
namespace G3
open PySem PySem.Spec PyProof.Rows L2
section
variable {prog : Program} {w : World} {A : Around} {E : Value → Shared → Prop} {s : Shared}
theorem adjust_up (n : Nat) : Builtin.Slice.sliceAdjust none none 1 (n : Int) = (0, (n : Int)) := by
  unfold Builtin.Slice.sliceAdjust; rfl
theorem adjust_down (n : Nat) : Builtin.Slice.sliceAdjust none none (-1) (n : Int) = ((n : Int) - 1, -1) := by
  unfold Builtin.Slice.sliceAdjust; rfl
theorem places_up (n : Nat) : Builtin.Slice.slicePlaces 0 (n : Int) 1 = n := by
  unfold Builtin.Slice.slicePlaces
  have h1 : (1 : Int) > 0 := by omega
  simp only [h1, if_true, Int.ediv_one]
  split <;> omega
theorem places_down (n : Nat) : Builtin.Slice.slicePlaces ((n : Int) - 1) (-1) (-1) = n := by
  unfold Builtin.Slice.slicePlaces
  have h1 : ¬ ((-1 : Int) > 0) := by omega
  have e : (-(-1 : Int)) = 1 := by omega
  simp only [h1, if_false, e, Int.ediv_one]
  split <;> omega
theorem sliceApplied_step {sl : Addr} {n : Nat} {k : Int} {t : Tok} {Q : Int × Int × Nat → Shared → Prop} (hs : s.heap.IsSliceOf sl .none .none (.int k t)) (hk : k = 1 ∨ k = -1)
    (h : Q (if k = 1 then 0 else (n : Int) - 1, k, n) s) : wpAny (model prog w) A (Builtin.Slice.sliceApplied (.ref sl) (pure (n : Int))) Q E s := by
  obtain ⟨os, hos, hcs, hds⟩ := id hs
  unfold Builtin.Slice.sliceApplied Builtin.Slice.sliceFields
  refine wpAny_bind (wpAny_bind (wpAny_field hos hds (x := .none) rfl (wpAny_bind (wpAny_field hos hds (x := .none) rfl (wpAny_bind (wpAny_field hos hds (x := .int k t) rfl (wpAny_pure ?_)))))))
  refine wpAny_bind (slicePart_int ?_)
  show wpAny _ _ (if (k == 0) = true then _ else _) _ _ s
  rw [if_neg (by intro q; have := eq_of_beq q; omega)]
  refine wpAny_bind (slicePart_none (wpAny_bind (slicePart_none (wpAny_bind (wpAny_pure ?_)))))
  show wpAny _ _ (match Builtin.Slice.sliceAdjust none none k (n : Int) with | (lo, hi) => pure (lo, k, Builtin.Slice.slicePlaces lo hi k)) _ _ s
  rcases hk with rfl | rfl
  · rw [adjust_up]
    show wpAny _ _ (pure ((0 : Int), (1 : Int), Builtin.Slice.slicePlaces 0 (n : Int) 1)) _ _ s
    rw [places_up]
    exact wpAny_pure h
  · rw [adjust_down]
    show wpAny _ _ (pure ((n : Int) - 1, (-1 : Int), Builtin.Slice.slicePlaces ((n : Int) - 1) (-1) (-1))) _ _ s
    rw [places_down]
    exact wpAny_pure h
theorem fm_map {α β : Type} {f : α → Option β} {g : α → β} : ∀ l : List α, (∀ m ∈ l, f m = some (g m)) → l.filterMap f = l.map g
  | [], _ => rfl
  | m :: l, h => by rw [List.filterMap_cons, h m List.mem_cons_self, List.map_cons, fm_map l fun n hn => h n (List.mem_cons_of_mem _ hn)]
theorem pick_down (xs : Array Value) : ((List.range xs.size).filterMap fun (m : Nat) => xs[(((xs.size : Int) - 1) + (m : Int) * (-1)).toNat]?).toArray = xs.toList.reverse.toArray := by
  congr 1
  refine List.ext_getElem? fun i => ?_
  have e : (List.range xs.size).filterMap (fun (m : Nat) => xs[(((xs.size : Int) - 1) + (m : Int) * (-1)).toNat]?) = (List.range xs.size).map fun m => xs.toList.reverse.getD m .none := by
    refine fm_map _ fun m hm => ?_
    have hm := List.mem_range.mp hm
    have e1 : (((xs.size : Int) - 1) + (m : Int) * (-1)).toNat = xs.size - 1 - m := by omega
    rw [e1, List.getD_eq_getElem?_getD, List.getElem?_reverse (by simpa using hm), Array.length_toList, ← Array.getElem?_toList, List.getElem?_eq_getElem (by simp; omega)]
    rfl
  rw [e, List.getElem?_map]
  by_cases hi : i < xs.size
  · rw [List.getElem?_range hi, List.getElem?_eq_getElem (by simpa using hi)]
    show some (xs.toList.reverse.getD i .none) = _
    rw [List.getD_eq_getElem?_getD, List.getElem?_eq_getElem (by simpa using hi)]
    rfl
  · rw [List.getElem?_eq_none (by simpa using hi), List.getElem?_eq_none (by simpa using hi)]
    rfl
theorem getItem_tuple_step {t sl : Addr} {items : Array Value} {k : Int} {tk : Tok} {Q : Value → Shared → Prop} (ht : IsTup s.heap t items) (hs : s.heap.IsSliceOf sl .none .none (.int k tk)) (hk : k = 1 ∨ k = -1)
    (h1 : k = 1 → Q (.ref t) s)
    (h2 : k = -1 → Q (.ref s.heap.objs.size) { s with heap := s.heap.push { cls := .type "tuple", data := .seq items.toList.reverse.toArray } })
    (hsz : items.size ≤ sizeLine) : wpAny (model prog w) A (getItem (.ref t) (.ref sl)) Q E s := by
  have htake : sizeOk (.seq items.toList.reverse.toArray) := by
    show items.toList.reverse.toArray.size ≤ sizeLine
    rw [List.size_toArray, List.length_reverse, Array.length_toList]
    exact hsz
  obtain ⟨os, hos, hcs, hds⟩ := id hs
  have hTs : s.TypeIs (.ref sl) "slice" := ⟨os, hos, hcs⟩
  unfold getItem
  try with_reducible refine wpAny_holding ?_
  first | refine wpAny_bind (wpAny_pure ?_) | skip
  refine wpAny_bind (wpAny_sequenceKey ht.typeIs (by decide) ?_)
  refine wpAny_bind (wpAny_callSpecial?_slot (name := Str.ofString "__getitem__") ht.typeIs PyProof.Rows.slot_tuple_getitem
    (wpAny_call_entry PyProof.Rows.slot_tuple_getitem ht.typeIs entry_tuple_getitem ?_ (args_tuple_getitem _ _)))
  show wpAny _ _ (Builtin.Tuple.tupleItemsOf (.ref t) >>= _) _ _ s
  refine wpAny_bind (tupleItemsOf_ ht ?_)
  refine wpAny_bind (wpAny_typeOf hTs ?_)
  rw [if_pos (by decide)]
  refine wpAny_bind (sliceApplied_step hs hk ?_)
  rcases hk with rfl | rfl
  · rw [if_pos rfl]
    show wpAny _ _ (if ((0 : Int) == 0 && (1 : Int) == 1 && items.size == items.size) = true then _ else _) _ _ s
    rw [if_pos (by simp)]
    refine wpAny_bind ?_
    show wpAny _ _ (typeOf (.ref t) >>= fun T => pure (T == .type "tuple")) _ _ s
    refine wpAny_bind (wpAny_typeOf ht.typeIs (wpAny_pure ?_))
    first
      | rw [if_pos (by decide)]
      | simp only [beq_self_eq_true, if_true]
    first
      | exact wpAny_bind (wpAny_rule (wpAny_pure ⟨_, rfl, wpAny_pure (h1 rfl)⟩))
      | exact wpAny_bind (wpAny_rule (wpAny_bind (wpAny_pure (wpAny_pure ⟨_, rfl, wpAny_pure (h1 rfl)⟩))))
  · rw [if_neg (by omega)]
    show wpAny _ _ (if (((items.size : Int) - 1) == 0 && (-1 : Int) == 1 && items.size == items.size) = true then _ else _) _ _ s
    rw [if_neg (by simp), pick_down]
    have h := h2 rfl
    first
      | exact wpAny_bind (m := Builtin.Tuple.tupleExact _) (wpAny_newObj_type (wpAny_pure ⟨_, rfl, wpAny_pure h⟩) htake)
      | exact wpAny_bind (m := Builtin.Tuple.tupleExact _) (wpAny_newObj_type (wpAny_bind (wpAny_pure (wpAny_pure ⟨_, rfl, wpAny_pure h⟩))) htake)
      | exact wpAny_bind (wpAny_bind (m := Builtin.Tuple.tupleExact _) (wpAny_newObj_type (wpAny_pure (wpAny_pure ⟨_, rfl, wpAny_pure h⟩)) htake))
      | exact wpAny_bind (wpAny_bind (m := Builtin.Tuple.tupleExact _) (wpAny_newObj_type (wpAny_pure ⟨_, rfl, wpAny_pure h⟩) htake))
end
section
variable {X : Cx} {e k : Expr} {te tk : TE} {pos p2 : Pos}
def tStep (K : PySem.W.Frag) (te tk : TE) : TE := fun σ H Q => te σ H fun x H1 => tk σ H1 fun y H2 => ∃ a xs z, x = .ref a ∧ y = .int z ∧ SqT K H2 a xs ∧ (z = 1 ∨ z = -1) ∧ (z = 1 → Q (.ref a) H2) ∧ (z = -1 → ∀ p, H2 p = none → Q (.ref p) (upd H2 p (.tup xs.reverse)))
theorem vals_rev : ∀ {xs : List V} {us : List Value}, Vals xs us → Vals xs.reverse us.reverse
  | _, _, .nil => .nil
  | x :: xs, u :: us, .cons r t => by
    rw [List.reverse_cons, List.reverse_cons]
    exact (vals_rev t).append (.cons r .nil)
theorem pe_step (he : PE X e te) (hk : PE X k tk) : PE X (.Subscript e (.Slice none none (some k) p2) pos) (tStep X.K te tk) := by
  refine ⟨fun pins s σ H Q I h => ?_⟩
  refine Subscript_ (thn (he.run pins s σ H _ I h) fun v s1 ⟨x, H1, I1, r1, q1⟩ => ?_)
  refine wpAny_Slice ?_
  rw [evalPart_none]
  refine wpAny_pure (wpAny_pure ?_)
  rw [evalPart_some]
  refine thn (hk.run pins s1 σ H1 _ I1 q1) fun vk s3 ⟨y, H3, I3, rk, q3⟩ => ?_
  obtain ⟨a, xs, z, rfl, rfl, hx, hz, c1, c2⟩ := q3
  cases r1
  obtain ⟨t, rfl⟩ := rk
  have I4 : Inv X pins σ H3 { s3 with heap := s3.heap.push { cls := .type "slice", data := .fields #[.none, .none, .int z t] } } := I3.kept (t' := s3.toks) fun b ob q => Heap.get?_push_of_some _ q
  obtain ⟨its, r, ht, hsz⟩ := I4.tuple hx
  have hl := r.length
  show wpAny (model X.prog X.w) X.A (subscriptTail e (.Slice none none (some k) p2) (.ref a) (.ref s3.heap.objs.size)) (EP X pins σ Q) X.xe { s3 with heap := s3.heap.push { cls := .type "slice", data := .fields #[.none, .none, .int z t] } }
  refine tail_any (ops := [.ref a, .ref s3.heap.objs.size]) ht.typeIs PyProof.Rows.slot_tuple_getitem.lookup ?_ (by with_unfolding_all rfl)
  refine getItem_tuple_step ht (Heap.IsSliceOf.new ..) hz (fun z1 => ⟨.ref a, H3, I4, rfl, c1 z1⟩) (fun z1 => ?_) (by rw [List.size_toArray, ← hl]; exact hsz)
  have hn : H3 (s3.heap.push { cls := .type "slice", data := .fields #[.none, .none, .int z t] }).objs.size = none := I4.hok.fresh (Nat.le_refl _)
  refine ⟨.ref _, _, I4.laid (t' := s3.toks) (o := .tup xs.reverse) (fun _ _ q => Heap.get?_push_of_some _ q) (Nat.le_refl _) ?_, rfl, c2 z1 _ hn⟩
  exact ⟨by rw [List.length_reverse]; exact hsz, its.reverse, vals_rev r, IsTup.new _ _⟩
end
def stepD : D → D → Option D
  | .tup ds, .int z => if z = 1 then some (.tup ds) else if z = -1 then some (.tup ds.reverse) else none
  | _, _ => none
def eStep (f h : EV D) : EV D := bnd f fun d => bnd h fun k => lift (stepD d k)
section
variable {g : Gr} {G : Ctx} {a k e : Expr} {pos p2 : Pos} {f h : EV D}
theorem se_step (ha : SE g G a f) (hk : SE g G k h) : SE g G (.Subscript a (.Slice none none (some k) p2) pos) (eStep f h) := fun X W gd tk => by
  refine PE.weak (pe_step (ha X W gd tk) (hk X W gd tk)) fun σ H Q ⟨env, S, rep, q⟩ => ⟨env, S, rep, q.then.imp fun d env1 S1 H1 st1 rep1 q1 v rv => ⟨env1, S1, rep1, q1.then.imp fun z env2 S2 H2 st2 rep2 q2 u ru => ?_⟩⟩
  obtain ⟨d2, e2, q4⟩ := q2.lift
  have rv2 := rv.mono st2.up
  unfold stepD at e2
  split at e2
  · rename_i ds z
    cases rv2 with
    | tup hs hr =>
      cases ru
      have hq := rep2.sub.sqT hs
      rw [← gd.hK] at hq
      split at e2
      · rename_i hz
        cases e2
        exact ⟨_, _, z, rfl, rfl, hq, .inl hz, fun _ => q4 _ _ Stp.refl rep2 _ (.tup hs hr), fun z1 => by omega⟩
      · split at e2
        · rename_i hz0 hz
          cases e2
          refine ⟨_, _, z, rfl, rfl, hq, .inr hz, fun z1 => by omega, fun _ p hp => ?_⟩
          exact q4 _ _ (rep2.layStp hp) (rep2.lay hp) _ (.tup (SqT.of upd_same) (hr.reverse.mono (Le.upd_new (rep2.free hp))))
        · cases e2
  · cases e2
/-! ### x.pop(i) -/
def popD (j : D) (ds : List D) : Option (D × List D) := match j with
  | .int z => if -(2 ^ 63) ≤ z ∧ z < 2 ^ 63 then (seqIndex? z ds.length).bind fun k => ds[k]?.map fun d => (d, ds.eraseIdx k) else none
  | _ => none
def popV (i : Nat) (j : D) : EV D := fun env => match env[i]? with
  | some (.ow k ds) => (popD j ds).map fun p => .ok p.1 (env.set i (.ow k p.2))
  | _ => none
def ePop (i : Nat) (f : EV D) : EV D := bnd (chkO i) fun _ => bnd f fun j => popV i j
theorem se_pop {i : Nat} {x : Str} {pos' apos cpos : Pos} {f : EV D} (hx : varB G i x = true) (he : SE g G e f) (hs : starB e = true) (hl : (apos.endLine == cpos.line) = true) :
    SE g G (.Call (.Attribute (.Name x pos') "pop" apos) [e] [] cpos) (ePop i f) := fun X W gd tk => by
  have pb := pe_bm (X := X) (cpos := cpos) PySem.F.plainAttrs_list PySem.F.slot_list_pop PySem.F.type_list_pop mt_popAt (pvar gd (pos' := pos') hx) (pa_cons (he X W gd tk) pa_nil (star_of hs)) (by rfl) (few_of hs) hl (star_of hs) (by rfl)
  refine PE.weak pb fun σ H Q ⟨env, S, rep, q⟩ => ?_
  obtain ⟨⟨k0, ds0, z0⟩, q⟩ := q.then.chk rep
  obtain ⟨a0, xs0, hv, _, h30, _⟩ := rep.ow i k0 ds0 z0
  refine ⟨_, hv, ?_, env, S, rep, q.then.imp fun d env1 S1 H1 st1 rep1 q1 w rw' => ?_⟩
  · exact .inl ⟨rfl, _, SqL.of h30⟩
  · obtain ⟨r, e1, q2⟩ := q1
    unfold popV at e1
    cases z : env1[i]? with
    | none => rw [z] at e1; cases e1
    | some sl =>
      rw [z] at e1
      cases sl with
      | ow k ds =>
        dsimp only at e1
        cases hp : popD d ds with
        | none => rw [hp] at e1; cases e1
        | some p =>
          rw [hp] at e1
          cases e1
          unfold popD at hp
          split at hp
          · rename_i zz
            split at hp
            · rename_i hz
              cases rw'
              obtain ⟨a', xs, h1, h2, h3, h4⟩ := rep1.ow i k ds z
              rw [hv] at h1
              cases h1
              cases hk : seqIndex? zz ds.length with
              | none => rw [hk] at hp; cases hp
              | some kk =>
                rw [hk] at hp
                dsimp only [Option.bind] at hp
                cases hd : ds[kk]? with
                | none => rw [hd] at hp; cases hp
                | some dd =>
                  rw [hd] at hp
                  cases hp
                  obtain ⟨v, hv2, rv⟩ := h4.get hd
                  obtain ⟨r1, r2⟩ := rep1.wr z hv (h4.erase kk)
                  exact ⟨_, _, zz, kk, v, rfl, rfl, h3, hz.1, hz.2, by rw [h4.length]; exact hk, hv2, q2 _ _ r2 r1 _ rv⟩
            · cases hp
          · cases hp
      | _ => cases e1
end
end G3

/-! G3r: repr. -/
namespace G3
open PySem PySem.Spec PyProof.Rows L2
mutual
theorem pure_noDict : ∀ d : D, d.pure = true → d.py.hasDict = false
  | .non, _ => rfl
  | .bl _, _ => rfl
  | .int _, _ => rfl
  | .str _, _ => rfl
  | .lst xs, h => pures_noDict xs h
  | .tup xs, h => pures_noDict xs h
  | .scr _, h => nomatch h
  | .dct _ _, h => nomatch h
  | .obj _ _ _, h => nomatch h
theorem pures_noDict : ∀ ds : List D, pures ds = true → PyData.hasDictAll (pys ds) = false
  | [], _ => rfl
  | x :: xs, h => by
    have h := Bool.and_eq_true_iff.mp h
    show (x.py.hasDict || PyData.hasDictAll (pys xs)) = false
    rw [pure_noDict x h.1, pures_noDict xs h.2]
    rfl
end
/-- what repr shows, where it shows it -/
def reprOk (d : D) : Bool := d.pure && (PyData.showable d.py && (decide (d.py.shown.length ≤ sizeLine) && decide (d.py.depth ≤ 60)))
def isSeq : D → Bool
  | .lst _ => true
  | .tup _ => true
  | _ => false
def bRepr : List D → Option D
  | [.int i] => if i.natAbs.log2 < 1920 then some (.str (toString i)) else none
  | [d] => if (isSeq d && reprOk d) = true then some (.str d.py.shown) else none
  | _ => none
def rRepr (K : PySem.W.Frag) : List V → Hp → VK → Prop := fun xs H Q => ∃ (a : Addr) (d : PyData), xs = [.ref a] ∧ Dp K H (.ref a) d ∧ d.hasDict = false ∧ d.showable = true ∧ d.shown.length ≤ sizeLine ∧ d.depth ≤ 60 ∧ Q (.str d.shown) H
theorem call_reprD {X : Cx} (hg : X.A.guards = some []) (hu : X.A.units + 64 < cLine) : CallR X (.builtin "repr") (rRepr X.K) := by
  intro pins s σ H xs us Q I r h
  obtain ⟨a, d, rfl, hd, h1, h2, h3, h4, q⟩ := h
  rw [Vals.ref1 r]
  obtain ⟨as, hr⟩ := Dp.reads I d _ _ hd (show RelV (.ref a) (.ref a) from rfl)
  exact repr_of_reads' hr h2 (fun z => by rw [h1] at z; cases z) hg (by omega) (fun b o z => z) (fun h' u tk k => ⟨.str d.shown, H, I.kept k, ⟨_, rfl⟩, q⟩) h3
theorem CallR.or' {X : Cx} {f : Value} {r r' : List V → Hp → VK → Prop} (h : CallR X f r) (h' : CallR X f r') : CallR X f (fun xs H Q => r xs H Q ∨ r' xs H Q) := by
  intro pins s σ H xs us Q I rv q
  rcases q with q | q
  · exact h pins s σ H xs us Q I rv q
  · exact h' pins s σ H xs us Q I rv q
theorem ok_repr {g : Gr} {G : Ctx} (hc : G.calm = true) : CallOk g G (.builtin "repr") bRepr := fun X gd => ⟨_, CallR.or' SkE.call_repr_int (call_reprD gd.gds (gd.calm hc).2.units), fun env S σ H vs ds d Q rep r e q => by
  unfold bRepr at e
  split at e
  · split at e
    · rename_i hz
      cases e
      cases r with
      | cons r1 r2 => cases r2; cases r1; exact .inl ⟨_, rfl, hz, q S H Stp.refl rep _ (.str _)⟩
    · cases e
  · rename_i d0 hne
    split at e
    · rename_i hz
      cases e
      have hz := Bool.and_eq_true_iff.mp hz
      have h1 := hz.2
      unfold reprOk at h1
      simp only [Bool.and_eq_true, decide_eq_true_eq] at h1
      cases r with
      | cons r1 r2 =>
        cases r2
        have dp := Rp.dp rep.sub r1 h1.1
        rw [← gd.hK] at dp
        refine .inr ?_
        cases r1 with
        | lst a b => exact ⟨_, _, rfl, dp, pure_noDict _ h1.1, h1.2.1, h1.2.2.1, h1.2.2.2, q S H Stp.refl rep _ (.str _)⟩
        | tup a b => exact ⟨_, _, rfl, dp, pure_noDict _ h1.1, h1.2.1, h1.2.2.1, h1.2.2.2, q S H Stp.refl rep _ (.str _)⟩
        | _ => exact absurd hz.1 Bool.false_ne_true
    · cases e
  · cases e⟩
end G3

/-! G3s: what the printed terms lean on. -/
namespace G3
open PySem PySem.Spec PyProof.Rows L2
def LenA (n : Nat) (f : EV (List AR)) : Prop := ∀ env ars env', f env = some (.ok ars env') → ars.length = n
theorem la_nil : LenA 0 rNil := fun env ars env' h => by cases h; rfl
theorem la_cons {n : Nat} {f : EV D} {h : EV (List AR)} (a : LenA n h) : LenA (n + 1) (rCons f h) := fun env ars env' z => by
  obtain ⟨d, e1, z1, z2⟩ := bnd_some z
  obtain ⟨ds, e2, z3, z4⟩ := bnd_some z2
  cases z4
  show ds.length + 1 = _
  rw [a _ _ _ z3]
theorem la_io {n i : Nat} {h : EV (List AR)} (a : LenA n h) : LenA (n + 1) (rIo i h) := fun env ars env' z => by
  obtain ⟨d, e1, z1, z2⟩ := bnd_some z
  obtain ⟨ds, e2, z3, z4⟩ := bnd_some z2
  cases z4
  show ds.length + 1 = _
  rw [a _ _ _ z3]
theorem par_R {G : Ctx} : ∀ {ns : List Str} {is : List Nat}, ((ns.zip is).all fun p => tgB G p.2 p.1) = true → ∀ (j : Nat) (n : Str) (i : Nat), ns[j]? = some n → is[j]? = some i → tgB G i n = true
  | [], _, _, j, n, i, h1, _ => by simp at h1
  | _ :: _, [], _, j, n, i, _, h2 => by simp at h2
  | m :: ns, k :: is, h, j, n, i, h1, h2 => by
    have h := Bool.and_eq_true_iff.mp (by simpa using h : (tgB G k m && (ns.zip is).all fun p => tgB G p.2 p.1) = true)
    cases j with
    | zero => simp at h1 h2; subst h1; subst h2; exact h.1
    | succ j => exact par_R h.2 j n i (by simpa using h1) (by simpa using h2)
def nmB (G : Ctx) (t : Expr) (i : Nat) : Bool := match t with
  | .Name n _ => tgB G i n
  | _ => false
theorem nmB_of {G : Ctx} {t : Expr} {i : Nat} (h : nmB G t i = true) : ∃ n p, t = .Name n p ∧ tgB G i n = true := by
  unfold nmB at h
  split at h
  · exact ⟨_, _, rfl, h⟩
  · cases h
theorem par_L {G : Ctx} : ∀ {ts : List Expr} {is : List Nat}, ((ts.zip is).all fun p => nmB G p.1 p.2) = true → ∀ (j : Nat) (t : Expr) (i : Nat), ts[j]? = some t → is[j]? = some i → ∃ n p, t = .Name n p ∧ tgB G i n = true
  | [], _, _, j, n, i, h1, _ => by simp at h1
  | _ :: _, [], _, j, n, i, _, h2 => by simp at h2
  | m :: ns, k :: is, h, j, n, i, h1, h2 => by
    have h := Bool.and_eq_true_iff.mp (by simpa using h : (nmB G m k && (ns.zip is).all fun p => nmB G p.1 p.2) = true)
    cases j with
    | zero => simp at h1 h2; subst h1; subst h2; exact nmB_of h.1
    | succ j => exact par_L h.2 j n i (by simpa using h1) (by simpa using h2)
/-- the def of the text that stands at its name -/
def Fu (g : Gr) (x : Str) (st : Stmt) : Prop := ∃ f fd, g.mg x = some (.ref f) ∧ FunD g.K x x (defArgs st) (defBody st) (defScope st) [] [] f fd
theorem fun_of {K : PySem.W.Frag} {x : Str} {st : Stmt} {f : Addr} {fd : FuncData} (F : FunD K x x (defArgs st) (defBody st) (defScope st) [] [] f fd) : Fun K x x st f fd := by
  obtain ⟨oc, od, dV, kV, doc, pm, an, cdv, ct, osl, h1, h2, h3, hD, hK⟩ := F.ex
  rcases hD with ⟨_, rfl⟩ | ⟨e, _⟩
  · exact ⟨⟨oc, od, kV, doc, pm, an, cdv, ct, osl, h1, h2, h3⟩, F.kp⟩
  · exact absurd rfl e
theorem fnS_of {g : Gr} {x : Str} {st : Stmt} {N ps : List Str} {k : Nat} {b : SV} (F : Fu g x st) (Sc : FnScope N ps (defScope st)) (hn : ps.length ≤ N.length) (hb : SSs g (defG N (defScope st) k) (defBody st) b)
    (h : ∀ (kV doc pm : Value) (an : Option Addr) (cdv ct : Value) (us : List Value), us.length = ps.length → bindArgs (PySem.W.fnOf x x (defArgs st) (defBody st) (defScope st) .none kV doc pm an cdv ct) ⟨us, []⟩ = pure (ps.zip us)) : FnS g x ps.length (k + 1) (fnF N.length b) := by
  obtain ⟨f, fd, h1, h2⟩ := F
  exact ⟨f, fd, ps, h1, h2.kp, h2.bindsN h, fn_ok (fun_of h2) Sc hn hb⟩
end G3

/-! G3t: the head: what is read off the heap behind the top. -/
namespace G3
open PySem PySem.Spec PyProof.Rows L2
def hookE (n : Nat) (fa : List He.Fa) (fn : List He.DefD) (ex : PySem.W.Frag → Bool) : PySem.W.Hook where
  α := He.AlD × Bool
  obs := fun s => (He.obsDG n fa fn s.heap.get?, ex (He.frG s.heap.get? (He.asD s.heap.get? n)))
  val := fun _ => (He.valD fn, true)
  says := fun _ h => ∃ K : PySem.W.Frag, K.In h ∧ He.SaysD fa fn K ∧ ex K = true
  of := fun _ s e => ⟨_, He.frG_in, congrArg Prod.fst e, congrArg Prod.snd e⟩
  keeps := fun _ _ _ ⟨K, hK, c⟩ k => ⟨K, PySem.W.Frag.In.keeps hK k, c⟩
def obE (n : Nat) (fa : List He.Fa) (fn : List He.DefD) (ex : PySem.W.Frag → Bool) (s : PySem.W.SharedT) : He.AlD × Bool := (He.obsDG n fa fn (HandSHeadRun.getT s), ex (He.frG (HandSHeadRun.getT s) (He.asD (HandSHeadRun.getT s) n)))
theorem obE_eq {n : Nat} {fa : List He.Fa} {fn : List He.DefD} {ex : PySem.W.Frag → Bool} (s : PySem.W.SharedT) : obE n fa fn ex s = (hookE n fa fn ex).obs s.abs := by
  have e : HandSHeadRun.getT s = s.abs.heap.get? := funext fun a => HandSHeadRun.getT_eq s a
  unfold obE hookE
  rw [e]
/-! ### facts -/
section
variable {g : Gr} {h : Heap}
theorem cst_int (X : g.K.In h) (N : h.Ns mainGlobals g.mg) {x : Str} {i : Int} (c : (He.Fa.int x i).ok g.K = true) : Cst g x (.int i) := by
  obtain ⟨t, e⟩ := He.int_ok X N c
  exact ⟨.int i, .int i t, e, ⟨t, rfl⟩, fun S => .int i⟩
def cstB (K : PySem.W.Frag) (x : Str) (zs : List Str) : Bool := He.tupB K x (zs.map He.Dv.str)
theorem rp_strs {K : PySem.W.Frag} {mg : Str → Option Value} {S : Hp} : ∀ zs : List Str, RpA K mg S ((zs.map He.Dv.str).map (He.Dv.v K)) (zs.map D.str)
  | [] => .nil
  | z :: zs => .cons (.str z) (rp_strs zs)
theorem cst_strs (X : g.K.In h) (N : h.Ns mainGlobals g.mg) {x : Str} {zs : List Str} (c : (He.Fa.glo x).ok g.K = true) (t : cstB g.K x zs = true) : Cst g x (.tup (zs.map D.str)) :=
  ⟨.ref (He.ga g.K x), .ref (He.ga g.K x), He.glo_ok X N c, rfl, fun S => .tup (He.tupB_ok t S) (rp_strs zs)⟩
theorem excS_of (X : g.K.In h) (N : h.Ns mainGlobals g.mg) {x : Str} (c : (He.Fa.glo x).ok g.K = true) (e : (He.Fa.exc x).ok g.K = true) : ExcS g x := by
  obtain ⟨h1, h2, h3, h4⟩ := He.exc_ok e
  exact ⟨_, He.glo_ok X N c, h1, h2, h3, h4⟩
/-- a table of classes -/
def tabS (l : List (Str × Bool)) : Str → Option Bool := fun c => l.lookup c
theorem tab_mem {c : Str} {b : Bool} : ∀ {l : List (Str × Bool)}, tabS l c = some b → (c, b) ∈ l
  | [], e => nomatch (show (none : Option Bool) = some b from e)
  | (d, b') :: l, e => by
    have e : (match c == d with | true => some b' | false => l.lookup c) = some b := e
    cases q : (c == d) with
    | true => rw [q] at e; cases e; rw [beq_iff_eq.mp q]; exact List.mem_cons_self
    | false => rw [q] at e; exact List.mem_cons_of_mem _ (tab_mem e)
/-- the classes of a table, and the clause's -/
def catB (K : PySem.W.Frag) (x : Str) (l : List (Str × Bool)) : Bool := l.all fun p => (He.Fa.glo p.1).ok K && (He.Fa.exm p.1 x p.2).ok K
theorem catches_of (X : g.K.In h) (N : h.Ns mainGlobals g.mg) {x : Str} {l : List (Str × Bool)} (c : (He.Fa.glo x).ok g.K = true) (t : catB g.K x l = true) : Catches g x (tabS l) := by
  refine ⟨_, He.glo_ok X N c, fun c b cls e k => ?_⟩
  have m := Bool.and_eq_true_iff.mp (List.all_eq_true.mp t _ (tab_mem e))
  have e2 := (He.glo_ok X N m.1).symm.trans k
  cases e2
  exact He.exm_ok m.2
def excCB (K : PySem.W.Frag) (a : Addr) : Bool := He.eqO (PySem.W.findIn K (.ref a) "__getattribute__") (some (some (.builtin "BaseException.__getattribute__"))) && (He.eqO (PySem.W.findIn K (.ref a) "__getattr__") (some none) && (decide (PySem.W.subIn K (.ref a) (.type "BaseException") = some true) &&
  (PySem.W.hasDictIn K a && (He.eqO (PySem.W.findIn K (.ref a) "__class__") (some (some (.builtin "object.__class__"))) && (He.eqO (PySem.W.specialIn K (.builtin "object.__class__") "__get__") (some (some (.builtin "getset_descriptor.__get__"))) &&
  (decide (PySem.W.takesIn K (.builtin "object.__class__") = some true) && decide (PySem.W.mroIn K a (.type "object") = some true)))))))
theorem excC_of {K : PySem.W.Frag} {a : Addr} (t : excCB K a = true) : ExcC K a := by
  unfold excCB at t
  simp only [Bool.and_eq_true, decide_eq_true_eq] at t
  obtain ⟨h1, h2, h3, h4, h5, h6, h7, h8⟩ := t
  exact ⟨He.eqO_ok h1, He.eqO_ok h2, h3, h4, He.eqO_ok h5, He.eqO_ok h6, h7, h8⟩
def isxB (K : PySem.W.Frag) (y : Str) (l : List (Str × Bool)) : Bool := l.all fun p => (He.Fa.glo p.1).ok K && (excCB K (He.ga K p.1) && decide (PySem.W.kitOne K (.ref (He.ga K p.1)) (.ref (He.ga K y)) = some p.2))
theorem isEx_of (X : g.K.In h) (N : h.Ns mainGlobals g.mg) {y : Str} {l : List (Str × Bool)} (c : (He.Fa.glo y).ok g.K = true) (t : isxB g.K y l = true) (x : Str) (b : Bool) (e : tabS l x = some b) : IsEx g x y b := by
  have m := Bool.and_eq_true_iff.mp (List.all_eq_true.mp t _ (tab_mem e))
  have m2 := Bool.and_eq_true_iff.mp m.2
  exact ⟨_, _, He.glo_ok X N m.1, excC_of m2.1, He.glo_ok X N c, of_decide_eq_true m2.2⟩
theorem fu_of (X : g.K.In h) (N : h.Ns mainGlobals g.mg) {x : Str} {st : Stmt} (c : (He.Fa.glo x).ok g.K = true) (F : ∃ fd, FunD g.K x x (defArgs st) (defBody st) (defScope st) [] [] (He.fAd g.K (x, none)) fd) : Fu g x st := by
  obtain ⟨fd, F⟩ := F
  exact ⟨_, fd, He.glo_ok X N c, F⟩
/-- the law's promise at the script, from what F gives -/
def spLaw (K : PySem.W.Frag) (mg : Str → Option Value) (F : List Sl → Option FR) : Sp := spF K mg 1 F
theorem law_sp {K : PySem.W.Frag} {mg : Str → Option Value} {F : List Sl → Option FR} {H : Hp} {a : Addr} {ns : List Int} (hS : SqL K H a (ns.map V.int)) (hF : F [.sh (.scr ns)] = some (.sh (.bl true) [.un])) : spF K mg 1 F [.ref a] H (fun v _ => v = .bl true) fun _ _ _ => False := by
  have rs : Rp K mg H (.ref a) (.scr ns) := .scr hS
  refine ⟨rfl, [.sh (.scr ns)], H, _, ⟨Le.refl _, rfl, fun i d e => ?_, fun i k ds e => ?_, fun i j k l ds es b e => ?_⟩, hF, fun v S' H' st ro rv => ?_⟩
  · cases i with
    | zero => cases e; exact ⟨_, rfl, rs⟩
    | succ i => simp at e
  · cases i with
    | zero => cases e
    | succ i => simp at e
  · cases i with
    | zero => cases e
    | succ i => simp at e
  · cases rv; rfl
theorem no_exc {P : Program} (w : World) (H : Hp) (s : Shared) (e : Value) (s' : Shared) (h : L2.CX P w [] H s (fun _ _ _ => False) e s') : False := by
  obtain ⟨_, _, _, _, _, _, _, _, _, _, _, _, z⟩ := h
  exact z.elim
/-- the ground of a law, once the written part is chosen -/
def grd (P : Program) (w : World) (K : PySem.W.Frag) (mg : Str → Option Value) (base : Heap) : Gr := ⟨P, w, K, mg, base⟩
end
end G3

/-! G3u: sorted of a tuple of ints. -/
namespace G3
open PySem PySem.Spec PyProof.Rows L2
section
variable {prog : Program} {w : World} {A : Around} {E : Value → Shared → Prop} {s : Shared}
/-- the heap with the collected list -/
def gath (h : Heap) (vs : List Value) : Heap := (h.push (seqObj "list" #[] 0)).update h.objs.size (Obj.mapSeq (· ++ vs.toArray))
theorem collect_tupG {t : Addr} {vs : List Value} {Q : List Value → Shared → Prop} (ht : IsTup s.heap t vs.toArray) (hz : vs.length ≤ sizeLine) (h : Q vs { s with heap := gath s.heap vs }) : wpAny (model prog w) A (collect (.ref t)) Q E s := by
  obtain ⟨ob, hob, hcl, m, hda⟩ := id ht
  unfold collect
  refine wpAny_bind (wpAny_runValue (codeAny_builtin entry_proto_collect' ?_))
  show wpAny _ _ (do
    let l ← newList []
    again (.builtin "list.__iadd__" ⟨[l, .ref t], []⟩)) _ _ s
  refine wpAny_bind (wpAny_newList (wpAny_pure ⟨?_, codeAny_builtin entry_list_iadd' ?_⟩))
  · exact Code.quiet_builtin _ (by decide +kernel)
  show wpAny _ _ (Builtin.List.listExtendWith (.ref s.heap.objs.size) (.ref t) (.ref s.heap.objs.size)) _ _ { s with heap := s.heap.push (seqObj "list" #[] 0) }
  have old : (s.heap.push (seqObj "list" #[] 0)).get? t = some ob := Heap.get?_push_of_some _ hob
  have new : (s.heap.push (seqObj "list" #[] 0)).get? s.heap.objs.size = some (seqObj "list" #[] 0) := Heap.get?_push_size _ rfl
  unfold Builtin.List.listExtendWith
  refine wpAny_bind (wpAny_typeOf (T := "tuple") ⟨ob, old, hcl⟩ ?_)
  have tt : (Value.type "tuple" == Value.type "tuple") = true := by rfl
  rw [if_pos (by rw [tt, Bool.or_true])]
  refine wpAny_bind (listItems_at old hda (wpAny_bind (listItems_at (xs := #[]) (n := 0) new rfl ?_)))
  rw [if_neg (by simp)]
  have fits : (#[] ++ vs.toArray : Array Value).size ≤ sizeLine + 1 := by
    rw [Array.size_append, List.size_toArray]
    exact Nat.le_succ_of_le (by simpa using hz)
  refine wpAny_bind (listUpdate_at (xs := #[]) (n := 0) new rfl (wpAny_pure ?_) (Nat.zero_le _) fits)
  show wpAny (model prog w) A (load s.heap.objs.size >>= fun o => match o.data with
    | .seq xs _ => pure xs.toList
    | _ => unsupported "internal:collect") Q E { s with heap := gath s.heap vs }
  refine wpAny_bind (wpAny_load (get?_update_seq new _) ?_)
  have e : ((#[] : Array Value) ++ vs.toArray).toList = vs := by simp
  show wpAny _ _ (pure ((#[] : Array Value) ++ vs.toArray).toList) Q E _
  rw [e]
  exact wpAny_pure h
theorem sorted_tupG {t : Addr} {vs : List Value} {ns : List Int} {Q : Value → Shared → Prop} (ht : IsTup s.heap t vs.toArray) (hi : IntsAre vs ns) (hz : vs.length ≤ sizeLine)
    (h : ∀ out : List Value, SrtO.Srtd SrtO.ltIv out → SrtO.Stb SrtO.ltIv out vs → Q (.ref (s.heap.objs.size + 1)) { s with heap := sortedAll s.heap vs out.toArray }) : wpAny (model prog w) A (call (.builtin "sorted") [.ref t]) Q E s := by
  refine Calls.call_function_entry kind_sorted plain_sorted entry_sorted (args_sorted1 _) ?_
  unfold Builtin.«sorted»
  refine wpAny_bind (m := checkCount "sorted" 1 1 _) (wpAny_pure (wpAny_bind (collect_tupG ht hz (wpAny_bind (wpAny_newList ?_ hz)))))
  have n1 : (gath s.heap vs).objs.size = s.heap.objs.size + 1 := (Heap.size_update ..).trans (size_push' _ _)
  have at1 : ((gath s.heap vs).push (seqObj "list" vs.toArray 0)).get? (s.heap.objs.size + 1) = some (seqObj "list" vs.toArray 0) := n1 ▸ Heap.get?_push_size _ rfl
  show wpAny _ _ _ _ _ { s with heap := (gath s.heap vs).push (seqObj "list" vs.toArray 0) }
  rw [n1]
  refine wpAny_bind (wpAny_holding (wpAny_call_entry slot_list_sort ⟨_, at1, rfl⟩ entry_list_sort (SrtO.list_sort_ord SrtO.swo_int at1 hz (fun h2 => SrtO.ints_sortable hi h2) fun out a b => ⟨_, rfl, ?_⟩) (args_list_sort _)))
  exact wpAny_pure ⟨_, rfl, h out a b⟩
end
end G3
namespace G3
open PySem PySem.Spec PyProof.Rows L2
def rSortedIT (K : PySem.W.Frag) : List V → Hp → VK → Prop := fun vs H Q => ∃ (a : Addr) (ns : List Int), vs = [V.ref a] ∧ SqT K H a (ns.map V.int) ∧ ∀ (ns' : List Int) (p : Addr), ns'.Perm ns → ns'.Pairwise (· ≤ ·) → H p = none → Q (.ref p) (upd H p (.lst (ns'.map V.int)))
theorem cr_sortedIT {X : Cx} : CallR X (.builtin "sorted") (rSortedIT X.K) := by
  intro pins s σ H vs us Q I r h
  obtain ⟨a, ns, rfl, sq, q⟩ := h
  obtain ⟨its, rv, tp, hz⟩ := I.tuple sq
  rw [Vals.ref1 r]
  have hi := rv.ints
  have hz2 : its.length ≤ sizeLine := rv.length ▸ hz
  refine sorted_tupG tp hi hz2 fun out h1 h2 => ?_
  obtain ⟨k1, k2, k3⟩ := SrtO.ints_out hi h1 h2
  obtain ⟨ep, he⟩ := PyProof.Rows.sortedAll_at s.heap its out.toArray
  have hl : ((out.map SrtO.iv).map V.int).length ≤ sizeLine := by
    rw [List.length_map] at hz ⊢
    rw [k2.length_eq]
    exact hz
  refine ⟨.ref _, upd H (s.heap.objs.size + 1) (.lst ((out.map SrtO.iv).map V.int)), ?_, rfl, q _ _ k2 k3 (I.hok.fresh (Nat.le_succ _))⟩
  exact I.laid (t' := s.toks) (fun _ _ => PyProof.Rows.sortedAll_old) (Nat.le_succ _) ⟨hl, out, ep, vals_of_ints k1, he⟩
def bSorted2 : List D → Option (List D)
  | [.lst ds] => (intsD ds).map fun ns => (sortI ns).map D.int
  | [.tup ds] => (intsD ds).map fun ns => (sortI ns).map D.int
  | _ => none
theorem ok_sorted2 {g : Gr} {G : Ctx} : CallOkO g G (.builtin "sorted") bSorted2 := fun X gd => ⟨_, CallR.or' cr_sortedI cr_sortedIT, fun env S σ H vs ds es Q rep r e q => by
  unfold bSorted2 at e
  split at e
  · rename_i ds
    cases z : intsD ds with
    | none => rw [z] at e; cases e
    | some ns =>
      rw [z] at e
      cases e
      cases r with
      | cons r1 r2 =>
        cases r2
        cases r1 with
        | lst a b =>
          refine .inl ⟨_, ns, rfl, ?_, fun ns' p h1 h2 h3 => ?_⟩
          · rw [← intsD_of b z, gd.hK]; exact .inl (.inl (rep.sub _ _ a))
          · exact q p _ h3 (by show RpA g.K g.mg S _ ((sortI ns).map D.int); rw [← sortI_eq h1 h2]; exact RpA.ints ns')
  · rename_i ds
    cases z : intsD ds with
    | none => rw [z] at e; cases e
    | some ns =>
      rw [z] at e
      cases e
      cases r with
      | cons r1 r2 =>
        cases r2
        cases r1 with
        | tup a b =>
          refine .inr ⟨_, ns, rfl, ?_, fun ns' p h1 h2 h3 => ?_⟩
          · rw [← intsD_of b z, gd.hK]; exact rep.sub.sqT a
          · exact q p _ h3 (by show RpA g.K g.mg S _ ((sortI ns).map D.int); rw [← sortI_eq h1 h2]; exact RpA.ints ns')
  · cases e⟩
end G3

/-! G3v: plain laws of data and of the combinators. -/
namespace G3
open PySem (PyData)
/-! ### data that == takes -/
def canN (n : Nat) (d : D) : Prop := d.pure = true ∧ PyData.canLay0 d.py = true ∧ PyData.depth d.py ≤ n
theorem can_mono {n m : Nat} {d : D} (h : canN n d) (k : n ≤ m) : canN m d := ⟨h.1, h.2.1, Nat.le_trans h.2.2 k⟩
theorem can_int (n : Nat) (i : Int) : canN n (.int i) := ⟨rfl, rfl, Nat.zero_le _⟩
theorem can_bl (n : Nat) (i : Bool) : canN n (.bl i) := ⟨rfl, rfl, Nat.zero_le _⟩
theorem can_non (n : Nat) : canN n .non := ⟨rfl, rfl, Nat.zero_le _⟩
theorem can_all {n : Nat} : ∀ {ds : List D}, (∀ d ∈ ds, canN n d) → pures ds = true ∧ PyData.canLayAll0 (pys ds) = true ∧ PyData.depthAll (pys ds) ≤ n
  | [], _ => ⟨rfl, rfl, Nat.zero_le _⟩
  | d :: ds, h => by
    obtain ⟨h1, h2, h3⟩ := can_all (n := n) (ds := ds) fun x hx => h x (List.mem_cons_of_mem _ hx)
    obtain ⟨k1, k2, k3⟩ := h d List.mem_cons_self
    refine ⟨?_, ?_, ?_⟩
    · show (d.pure && pures ds) = true
      rw [k1, h1]; rfl
    · show (PyData.canLay0 d.py && PyData.canLayAll0 (pys ds)) = true
      rw [k2, h2]; rfl
    · show max (PyData.depth d.py) (PyData.depthAll (pys ds)) ≤ n
      omega
theorem can_tup {n : Nat} {ds : List D} (h : ∀ d ∈ ds, canN n d) : canN (n + 1) (.tup ds) := by
  obtain ⟨h1, h2, h3⟩ := can_all h
  exact ⟨h1, h2, Nat.succ_le_succ h3⟩
theorem can_lst {n : Nat} {ds : List D} (h : ∀ d ∈ ds, canN n d) : canN (n + 1) (.lst ds) := by
  obtain ⟨h1, h2, h3⟩ := can_all h
  exact ⟨h1, h2, Nat.succ_le_succ h3⟩
theorem okD_can {n : Nat} {d : D} (h : canN n d) (k : n ≤ 64) : okD d = true := by
  unfold okD PySem.SeqAt.shaped
  rw [h.1, h.2.1, decide_eq_true (Nat.le_trans h.2.2 k)]; rfl
theorem okD_int (i : Int) : okD (.int i) = true := okD_can (can_int 0 i) (by omega)
theorem okD_bl (i : Bool) : okD (.bl i) = true := okD_can (can_bl 0 i) (by omega)
theorem okD_non : okD .non = true := okD_can (can_non 0) (by omega)
theorem can_ints {n : Nat} (ns : List Int) : ∀ d ∈ ns.map D.int, canN n d := fun d h => by
  obtain ⟨i, _, rfl⟩ := List.mem_map.mp h
  exact can_int n i
theorem okD_ints (ns : List Int) : okD (.lst (ns.map D.int)) = true := okD_can (can_lst (n := 0) (can_ints ns)) (by omega)
theorem okD_tints (ns : List Int) : okD (.tup (ns.map D.int)) = true := okD_can (can_tup (n := 0) (can_ints ns)) (by omega)
theorem okD_pair (a b : Int) : okD (.tup [.int a, .int b]) = true := okD_tints [a, b]
theorem eqv_int (i j : Int) : eqv (.int i) (.int j) = decide (i = j) := by
  show (i == j) = _
  rfl
theorem eqv_pair (a b c d : Int) : eqv (.tup [.int a, .int b]) (.tup [.int c, .int d]) = decide (a = c ∧ b = d) := by
  show ((a == c) && ((b == d) && true)) = _
  by_cases h1 : a = c <;> by_cases h2 : b = d <;> simp [h1, h2]
theorem eqvAll_ints : ∀ ns ms : List Int, PyData.eqvAll (pys (ns.map D.int)) (pys (ms.map D.int)) = decide (ns = ms)
  | [], [] => rfl
  | [], m :: ms => rfl
  | n :: ns, [] => rfl
  | n :: ns, m :: ms => by
    show ((n == m) && PyData.eqvAll (pys (ns.map D.int)) (pys (ms.map D.int))) = _
    rw [eqvAll_ints ns ms]
    by_cases h1 : n = m <;> by_cases h2 : ns = ms <;> simp [h1, h2]
theorem eqv_ints (ns ms : List Int) : eqv (.lst (ns.map D.int)) (.lst (ms.map D.int)) = decide (ns = ms) := eqvAll_ints ns ms
theorem eqv_tints (ns ms : List Int) : eqv (.tup (ns.map D.int)) (.tup (ms.map D.int)) = decide (ns = ms) := eqvAll_ints ns ms
mutual
theorem eqv_refl : ∀ d : D, d.pure = true → eqv d d = true
  | .non, _ => rfl
  | .bl b, _ => by show (b == b) = true; simp
  | .int b, _ => by show (b == b) = true; simp
  | .str b, _ => by show (b == b) = true; simp
  | .lst ds, h => eqvAll_refl ds h
  | .tup ds, h => eqvAll_refl ds h
  | .scr _, h => nomatch h
  | .dct _ _, h => nomatch h
  | .obj _ _ _, h => nomatch h
theorem eqvAll_refl : ∀ ds : List D, pures ds = true → PyData.eqvAll (pys ds) (pys ds) = true
  | [], _ => rfl
  | d :: ds, h => by
    have h := Bool.and_eq_true_iff.mp h
    show (PyData.eqv d.py d.py && PyData.eqvAll (pys ds) (pys ds)) = true
    rw [show PyData.eqv d.py d.py = true from eqv_refl d h.1, eqvAll_refl ds h.2]; rfl
end
/-! ### comprehensions -/
theorem wipe_other {env : List Sl} {j : Nat} : ∀ {vs : List Nat}, j ∉ vs → (wipeE env vs)[j]? = env[j]?
  | [], _ => rfl
  | v :: vs, h => by
    show ((wipeE env vs).set v .un)[j]? = _
    rw [List.getElem?_set_ne (fun z => h (by rw [z]; exact List.mem_cons_self)), wipe_other fun z => h (List.mem_cons_of_mem _ z)]
theorem rest_at {env e : List Sl} (hl : e.length = env.length) {j : Nat} : ∀ {vs : List Nat}, (restE env e vs)[j]? = if j ∈ vs then env[j]? else e[j]?
  | [] => by simp [restE]
  | v :: vs => by
    have hn : (restE env e vs).length = env.length := by
      have : ∀ vs : List Nat, (restE env e vs).length = e.length := fun vs => by
        induction vs with
        | nil => rfl
        | cons v vs ih => show ((restE env e vs).set v _).length = _; rw [List.length_set, ih]
      rw [this, hl]
    show ((restE env e vs).set v (env.getD v .un))[j]? = _
    by_cases z : v = j
    · subst z
      by_cases hj : v < env.length
      · rw [List.getElem?_set_self (by rw [hn]; exact hj), if_pos List.mem_cons_self, List.getD_eq_getElem?_getD, List.getElem?_eq_getElem hj]; rfl
      · rw [List.getElem?_eq_none (by rw [List.length_set, hn]; omega), if_pos List.mem_cons_self, List.getElem?_eq_none (by omega)]
    · rw [List.getElem?_set_ne z, rest_at hl (vs := vs)]
      by_cases q : j ∈ vs
      · rw [if_pos q, if_pos (List.mem_cons_of_mem _ q)]
      · rw [if_neg q, if_neg (by intro y; exact (List.mem_cons.mp y).elim (fun y => z y.symm) q)]
theorem rest_wipe (env : List Sl) (vs : List Nat) : restE env (wipeE env vs) vs = env := by
  refine List.ext_getElem? fun j => ?_
  rw [rest_at (wipeE_length env vs)]
  by_cases h : j ∈ vs
  · rw [if_pos h]
  · rw [if_neg h, wipe_other h]
def noFix (env : List Sl) (vs : List Nat) : Prop := vs.all (fun v => !fixed env v) = true
theorem wipeP_of {env : List Sl} {vs : List Nat} (h : noFix env vs) : wipeP vs env = some (.ok () (wipeE env vs)) := by
  have hh : (vs.all fun v => !fixed env v) = true := h
  unfold wipeP put
  simp only [hh, if_true]
inductive Paired2 {α β : Type} (Q : α → β → Prop) : List α → List β → Prop
  | nil : Paired2 Q [] []
  | cons {a : α} {b : β} {as : List α} {bs : List β} : Q a b → Paired2 Q as bs → Paired2 Q (a :: as) (b :: bs)
theorem Paired2.length {α β : Type} {Q : α → β → Prop} : ∀ {as : List α} {bs : List β}, Paired2 Q as bs → bs.length = as.length
  | _, _, .nil => rfl
  | _, _, .cons _ h => by rw [List.length_cons, List.length_cons, h.length]
/-- with a state that the comprehension carries on: W s are the slots ahead of an item -/
theorem compL_st {σ : Type} {vs : List Nat} {T : D → List Sl → Option (List Sl)} {tt : EV Bool} {f : EV D} (W : σ → List Sl) (I : σ → Prop) (Q : D → D → Prop)
    (step : ∀ s d, I s → ∃ e1 y e2 s', T d (W s) = some e1 ∧ tt e1 = some (.ok true e1) ∧ f e1 = some (.ok y e2) ∧ noFix e2 vs ∧ wipeE e2 vs = W s' ∧ I s' ∧ Q d y) :
    ∀ (ds : List D) (s : σ), I s → ∃ ys s', compL vs T tt f ds (W s) = some (.ok ys (W s')) ∧ I s' ∧ Paired2 Q ds ys
  | [], s, h => ⟨[], s, rfl, h, .nil⟩
  | d :: ds, s, h => by
    obtain ⟨e1, y, e2, s', h1, h2, h3, h4, h5, h6, h7⟩ := step s d h
    obtain ⟨ys, s2, k1, k2, k3⟩ := compL_st W I Q step ds s' h6
    refine ⟨y :: ys, s2, ?_, k2, .cons h7 k3⟩
    have hp : put (T d) (W s) = some (.ok () e1) := by unfold put; rw [h1]
    show bnd (put (T d)) _ (W s) = _
    rw [bnd_ok hp, bnd_ok h2]
    rw [if_pos rfl, bnd_ok h3, bnd_ok (wipeP_of h4), h5, bnd_ok k1]
    rfl
/-- a comprehension that changes nothing -/
theorem compL_map {vs : List Nat} {T : D → List Sl → Option (List Sl)} {tt : EV Bool} {f : EV D} {w : List Sl} (p : D → Bool) (y : D → D) :
    ∀ (ds : List D), (∀ d ∈ ds, ∃ e1, T d w = some e1 ∧ tt e1 = some (.ok (p d) e1) ∧ (p d = true → f e1 = some (.ok (y d) e1)) ∧ noFix e1 vs ∧ wipeE e1 vs = w) → compL vs T tt f ds w = some (.ok ((ds.filter p).map y) w)
  | [], _ => rfl
  | d :: ds, h => by
    obtain ⟨e1, h1, h2, h3, h4, h5⟩ := h d List.mem_cons_self
    have ih := compL_map p y ds fun x hx => h x (List.mem_cons_of_mem _ hx)
    have hp : put (T d) w = some (.ok () e1) := by unfold put; rw [h1]
    show bnd (put (T d)) _ w = _
    rw [bnd_ok hp, bnd_ok h2]
    cases hd : p d with
    | true =>
      rw [if_pos rfl, bnd_ok (h3 hd), bnd_ok (wipeP_of h4), h5, bnd_ok ih, List.filter_cons_of_pos hd]
      rfl
    | false =>
      rw [if_neg Bool.false_ne_true, bnd_ok (wipeP_of h4), h5, ih, List.filter_cons_of_neg (by rw [hd]; exact Bool.false_ne_true)]
theorem oComp_of {vs : List Nat} {src : EV (List D)} {T : D → List Sl → Option (List Sl)} {tt : EV Bool} {f : EV D} {env e0 e1 : List Sl} {ds ys : List D} (hs : src env = some (.ok ds e0)) (hf : noFix e0 vs) (hc : compL vs T tt f ds (wipeE e0 vs) = some (.ok ys e1)) (hl : ys.length ≤ PySem.sizeLine) :
    oComp vs src T tt f env = some (.ok ys (restE e0 e1 vs)) := by
  unfold oComp
  rw [bnd_ok hs, bnd_ok (wipeP_of hf), hc]
  dsimp only
  rw [if_pos hl]
theorem oComp_map {vs : List Nat} {src : EV (List D)} {T : D → List Sl → Option (List Sl)} {tt : EV Bool} {f : EV D} {env : List Sl} {ds : List D} (p : D → Bool) (y : D → D) (hs : src env = some (.ok ds env)) (hf : noFix env vs)
    (h : ∀ d ∈ ds, ∃ e1, T d (wipeE env vs) = some e1 ∧ tt e1 = some (.ok (p d) e1) ∧ (p d = true → f e1 = some (.ok (y d) e1)) ∧ noFix e1 vs ∧ wipeE e1 vs = wipeE env vs) (hl : ds.length ≤ PySem.sizeLine) :
    oComp vs src T tt f env = some (.ok ((ds.filter p).map y) env) := by
  have k := oComp_of hs hf (compL_map p y ds h) (by rw [List.length_map]; exact Nat.le_trans (List.length_filter_le _ _) hl)
  rw [rest_wipe] at k
  exact k
end G3

/-! G3w: the words of evaluation. -/
namespace G3
theorem k_ii : L2.kitB "int" "int" = some true := by decide +kernel
theorem k_ib : L2.kitB "int" "bool" = some false := by decide +kernel
theorem k_bi : L2.kitB "bool" "int" = some true := by decide +kernel
theorem k_bb : L2.kitB "bool" "bool" = some true := by decide +kernel
theorem k_ni : L2.kitB "NoneType" "int" = some false := by decide +kernel
theorem k_nt : L2.kitB "NoneType" "tuple" = some false := by decide +kernel
theorem k_tt : L2.kitB "tuple" "tuple" = some true := by decide +kernel
theorem k_lt : L2.kitB "list" "tuple" = some false := by decide +kernel
theorem k_ss : L2.kitB "str" "str" = some true := by decide +kernel
theorem asB_bl (b : Bool) (f : EV D) (env env' : List Sl) (h : f env = some (.ok (.bl b) env')) : asB f env = some (.ok b env') := by
  unfold asB; rw [bnd_ok h]; rfl
theorem oEq_of {a b : D} (h1 : okD a = true) (h2 : okD b = true) : oEq a b = some (.bl (eqv a b)) := by unfold oEq; rw [if_pos ⟨h1, h2⟩]
theorem oNe_of {a b : D} (h1 : okD a = true) (h2 : okD b = true) : oNe a b = some (.bl (!eqv a b)) := by unfold oNe; rw [if_pos ⟨h1, h2⟩]
theorem oEq_int (i j : Int) : oEq (.int i) (.int j) = some (.bl (decide (i = j))) := by rw [oEq_of (okD_int i) (okD_int j), eqv_int]
theorem oNe_int (i j : Int) : oNe (.int i) (.int j) = some (.bl (!decide (i = j))) := by rw [oNe_of (okD_int i) (okD_int j), eqv_int]
theorem oEq_pair (a b c d : Int) : oEq (.tup [.int a, .int b]) (.tup [.int c, .int d]) = some (.bl (decide (a = c ∧ b = d))) := by rw [oEq_of (okD_pair a b) (okD_pair c d), eqv_pair]
theorem oNe_pair (a b c d : Int) : oNe (.tup [.int a, .int b]) (.tup [.int c, .int d]) = some (.bl (!decide (a = c ∧ b = d))) := by rw [oNe_of (okD_pair a b) (okD_pair c d), eqv_pair]
theorem oEq_ints (ns ms : List Int) : oEq (.lst (ns.map D.int)) (.lst (ms.map D.int)) = some (.bl (decide (ns = ms))) := by rw [oEq_of (okD_ints ns) (okD_ints ms), eqv_ints]
/-! ### steps -/
theorem seq_nx {f h : SV} {env env1 : List Sl} (e : f env = some (.ok .nx env1)) : sSeq f h env = h env1 := by unfold sSeq; rw [bnd_ok e]
theorem seq_rt {f h : SV} {env env1 : List Sl} {w : Rt} (e : f env = some (.ok (.rt w) env1)) : sSeq f h env = some (.ok (.rt w) env1) := by unfold sSeq; rw [bnd_ok e]; rfl
theorem seq_ex {f h : SV} {env env1 : List Sl} {c : PySem.Str} {fs : List (PySem.Str × D)} (e : f env = some (.ex c fs env1)) : sSeq f h env = some (.ex c fs env1) := by unfold sSeq bnd; rw [e]
theorem if_t {t : EV Bool} {f h : SV} {env env1 : List Sl} (e : t env = some (.ok true env1)) : sIf t f h env = f env1 := by unfold sIf; rw [bnd_ok e]; rfl
theorem if_f {t : EV Bool} {f h : SV} {env env1 : List Sl} (e : t env = some (.ok false env1)) : sIf t f h env = h env1 := by unfold sIf; rw [bnd_ok e]; rfl
theorem ret_of {f : EV D} {env env1 : List Sl} {d : D} (e : f env = some (.ok d env1)) : sRet f env = some (.ok (.rt (.sh d)) env1) := by unfold sRet; rw [bnd_ok e]; rfl
theorem set_of {f : EV D} {i : Nat} {env env1 env2 : List Sl} {d : D} (e : f env = some (.ok d env1)) (e2 : stSl i (.sh d) env1 = some env2) : sSet i f env = some (.ok .nx env2) := by
  unfold sSet
  rw [bnd_ok e]
  have hp : put (stSl i (.sh d)) env1 = some (.ok () env2) := by unfold put; rw [e2]
  rw [bnd_ok hp]; rfl
theorem setO_of {f : EV (List D)} {i : Nat} {env env1 env2 : List Sl} {d : List D} (e : f env = some (.ok d env1)) (e2 : stSl i (.ow false d) env1 = some env2) : sSetO i f env = some (.ok .nx env2) := by
  unfold sSetO
  rw [bnd_ok e]
  have hp : put (stSl i (.ow false d)) env1 = some (.ok () env2) := by unfold put; rw [e2]
  rw [bnd_ok hp]; rfl
theorem asg_of {T : D → List Sl → Option (List Sl)} {f : EV D} {env env1 env2 : List Sl} {d : D} (e : f env = some (.ok d env1)) (e2 : T d env1 = some env2) : sAsg T f env = some (.ok .nx env2) := by
  unfold sAsg
  rw [bnd_ok e]
  have hp : put (T d) env1 = some (.ok () env2) := by unfold put; rw [e2]
  rw [bnd_ok hp]; rfl
theorem expr_of {f : EV D} {env env1 : List Sl} {d : D} (e : f env = some (.ok d env1)) : sExpr f env = some (.ok .nx env1) := by unfold sExpr; rw [bnd_ok e]; rfl
theorem fn_rt {n : Nat} {b : SV} {args env' : List Sl} {d : D} (e : b (args ++ List.replicate (n - args.length) .un) = some (.ok (.rt (.sh d)) env')) : fnF n b args = some (.sh d (outsOf args env')) := by unfold fnF; rw [e]
theorem fn_own {n : Nat} {b : SV} {args env' : List Sl} {d : List D} (e : b (args ++ List.replicate (n - args.length) .un) = some (.ok (.rt (.own d)) env')) : fnF n b args = some (.own d (outsOf args env')) := by unfold fnF; rw [e]
theorem fn_nx {n : Nat} {b : SV} {args env' : List Sl} (e : b (args ++ List.replicate (n - args.length) .un) = some (.ok .nx env')) : fnF n b args = some (.sh .non (outsOf args env')) := by unfold fnF; rw [e]
theorem fn_ex {n : Nat} {b : SV} {args env' : List Sl} {c : PySem.Str} {fs : List (PySem.Str × D)} (e : b (args ++ List.replicate (n - args.length) .un) = some (.ex c fs env')) : fnF n b args = some (.ex c fs (outsOf args env')) := by unfold fnF; rw [e]
theorem bin_of {op : D → D → Option D} {f h : EV D} {env env1 env2 : List Sl} {a b c : D} (e1 : f env = some (.ok a env1)) (e2 : h env1 = some (.ok b env2)) (e3 : op a b = some c) : eBin op f h env = some (.ok c env2) := by
  unfold eBin; rw [bnd_ok e1, bnd_ok e2, e3]; rfl
theorem acons_of {f : EV D} {h : EV (List D)} {env env1 env2 : List Sl} {a : D} {as : List D} (e1 : f env = some (.ok a env1)) (e2 : h env1 = some (.ok as env2)) : aCons f h env = some (.ok (a :: as) env2) := by
  unfold aCons; rw [bnd_ok e1, bnd_ok e2]; rfl
theorem rcons_of {f : EV D} {h : EV (List AR)} {env env1 env2 : List Sl} {a : D} {as : List AR} (e1 : f env = some (.ok a env1)) (e2 : h env1 = some (.ok as env2)) : rCons f h env = some (.ok (.s a :: as) env2) := by
  unfold rCons; rw [bnd_ok e1, bnd_ok e2]; rfl
theorem rio_of {i : Nat} {h : EV (List AR)} {env env2 : List Sl} {k : Bool} {ds : List D} {as : List AR} (e1 : env[i]? = some (.ow k ds)) (e2 : h env = some (.ok as env2)) : rIo i h env = some (.ok (.io i :: as) env2) := by
  have c : chkO i env = some (.ok () env) := by unfold chkO; rw [e1]
  unfold rIo; rw [bnd_ok c, bnd_ok e2]; rfl
theorem blt_of {op : List D → Option D} {h : EV (List D)} {env env1 : List Sl} {as : List D} {c : D} (e1 : h env = some (.ok as env1)) (e2 : op as = some c) : eBlt op h env = some (.ok c env1) := by
  unfold eBlt; rw [bnd_ok e1, e2]; rfl
theorem oblt_of {op : List D → Option (List D)} {h : EV (List D)} {env env1 : List Sl} {as c : List D} (e1 : h env = some (.ok as env1)) (e2 : op as = some c) : oBlt op h env = some (.ok c env1) := by
  unfold oBlt; rw [bnd_ok e1, e2]; rfl
theorem frz_of {h : EV (List D)} {env env1 : List Sl} {as : List D} (e1 : h env = some (.ok as env1)) : eFrz h env = some (.ok (.lst as) env1) := by unfold eFrz; rw [bnd_ok e1]; rfl
theorem tup_of {h : EV (List D)} {env env1 : List Sl} {as : List D} (e1 : h env = some (.ok as env1)) (e2 : as.length ≤ PySem.sizeLine) : eTup h env = some (.ok (.tup as) env1) := by unfold eTup; rw [bnd_ok e1, if_pos e2]; rfl
theorem lst_of {h : EV (List D)} {env env1 : List Sl} {as : List D} (e1 : h env = some (.ok as env1)) (e2 : as.length ≤ PySem.sizeLine) : oLst h env = some (.ok as env1) := by unfold oLst; rw [bnd_ok e1, if_pos e2]; rfl
theorem seq_of {f : EV D} {env env1 : List Sl} {ds : List D} (e : f env = some (.ok (.lst ds) env1)) : iSeq f env = some (.ok ds env1) := by unfold iSeq; rw [bnd_ok e]; rfl
theorem seqT_of {f : EV D} {env env1 : List Sl} {ds : List D} (e : f env = some (.ok (.tup ds) env1)) : iSeq f env = some (.ok ds env1) := by unfold iSeq; rw [bnd_ok e]; rfl
theorem notB_of {f : EV Bool} {env env1 : List Sl} {b : Bool} (e : f env = some (.ok b env1)) : bNot f env = some (.ok (!b) env1) := by unfold bNot; rw [bnd_ok e]; rfl
theorem andB_t {f h : EV Bool} {env env1 : List Sl} (e : f env = some (.ok true env1)) : bAnd f h env = h env1 := by unfold bAnd; rw [bnd_ok e]; rfl
theorem andB_f {f h : EV Bool} {env env1 : List Sl} (e : f env = some (.ok false env1)) : bAnd f h env = some (.ok false env1) := by unfold bAnd; rw [bnd_ok e]; rfl
theorem orB_t {f h : EV Bool} {env env1 : List Sl} (e : f env = some (.ok true env1)) : bOr f h env = some (.ok true env1) := by unfold bOr; rw [bnd_ok e]; rfl
theorem orB_f {f h : EV Bool} {env env1 : List Sl} (e : f env = some (.ok false env1)) : bOr f h env = h env1 := by unfold bOr; rw [bnd_ok e]; rfl
theorem and_t {f h : EV D} {env env1 : List Sl} (e : f env = some (.ok (.bl true) env1)) : eAnd f h env = h env1 := by unfold eAnd; rw [bnd_ok e]
theorem and_f {f h : EV D} {env env1 : List Sl} (e : f env = some (.ok (.bl false) env1)) : eAnd f h env = some (.ok (.bl false) env1) := by unfold eAnd; rw [bnd_ok e]; rfl
theorem anil_of {env : List Sl} : aNil env = some (.ok [] env) := rfl
theorem rnil_of {env : List Sl} : rNil env = some (.ok [] env) := rfl
theorem lit_of {d : D} {env : List Sl} : eLit d env = some (.ok d env) := rfl
theorem rgOk_of {i j : Int} (h1 : -1000000 ≤ i) (h2 : i ≤ 1000000) (h3 : -1000000 ≤ j) (h4 : j ≤ 1000000) : rgOk i j = true := by
  unfold rgOk
  rw [decide_eq_true (by omega : -(2 ^ 62) ≤ i), decide_eq_true (by omega : i < 2 ^ 62), decide_eq_true (by omega : -(2 ^ 62) ≤ j), decide_eq_true (by omega : j < 2 ^ 62)]
  rfl
theorem rg24_of {i j : Int} (h1 : -1000000 ≤ i) (h2 : i ≤ 1000000) (h3 : -1000000 ≤ j) (h4 : j ≤ 1000000) : rg24 i j = true := by
  unfold rg24
  rw [rgOk_of h1 h2 h3 h4, decide_eq_true (by omega : (j - i).toNat ≤ 2 ^ 24)]
  rfl
theorem abs_nat (i : Int) : (if i < 0 then -i else i) = (i.natAbs : Int) := by split <;> omega
theorem oMod_pos {i j : Int} (h : 0 < j) : oMod (.int i) (.int j) = some (.int (i % j)) := by
  show (if j ≠ 0 then some (D.int (i.fmod j)) else none) = _
  rw [if_pos (by omega), Int.fmod_eq_emod_of_nonneg _ (by omega)]
theorem log2_lt {n k : Nat} (h : n < 2 ^ k) (hk : 0 < k) : n.log2 < k := by
  by_cases z : n = 0
  · subst z; simpa using hk
  · exact (Nat.log2_lt z).mpr h
theorem mulOk_small {i j : Int} (h : j.natAbs < 2 ^ 64) : mulOk i j = true := by
  have b : PySem.Builtin.Int.intBits j ≤ 64 := by
    unfold PySem.Builtin.Int.intBits
    have := log2_lt h (by omega)
    split <;> omega
  have : decide (PySem.Builtin.Int.intBits j > PySem.shortFactorBits) = false := decide_eq_false (by show ¬ (_ > 64); omega)
  unfold mulOk
  rw [this]
  simp
theorem oMul_small {i j : Int} (h : j.natAbs < 2 ^ 64) : oMul (.int i) (.int j) = some (.int (i * j)) := by
  show (if mulOk i j = true then some (D.int (i * j)) else none) = _
  rw [if_pos (mulOk_small h)]
theorem divOk_small {i j : Int} (h0 : j ≠ 0) (h : j.natAbs < 2 ^ 64) : divOk i j = true := by
  have b : PySem.Builtin.divisionGoesByPylong i j = false := by
    unfold PySem.Builtin.divisionGoesByPylong
    have := log2_lt h (by omega)
    dsimp only
    have k : ¬ ((if (j == 0) = true then 0 else j.natAbs.log2 / 30 + 1) > 300) := by split <;> omega
    rw [decide_eq_false k, Bool.false_and]
  unfold divOk
  rw [b]
  simp [h0]
theorem oFdiv_pos {i j : Int} (h0 : 0 < j) (h : j.natAbs < 2 ^ 64) : oFdiv (.int i) (.int j) = some (.int (i / j)) := by
  show (if divOk i j = true then some (D.int (i.fdiv j)) else none) = _
  rw [if_pos (divOk_small (by omega) h), Int.fdiv_eq_ediv_of_nonneg _ (by omega)]
/-! ### calls -/
def resF (o : Option FR) (env : List Sl) : Option (R Rt) := match o with
  | none => none
  | some (.sh d _) => some (.ok (.sh d) env)
  | some (.own ds _) => some (.ok (.own ds) env)
  | some (.ex c fs _) => some (.ex c fs env)
theorem mapIdx_id {α : Type} {f : Nat → α → α} (h : ∀ i a, f i a = a) (l : List α) : l.mapIdx f = l := by
  refine List.ext_getElem? fun i => ?_
  rw [List.getElem?_mapIdx]
  cases l[i]? with
  | none => rfl
  | some a => show some (f i a) = _; rw [h]
theorem back_id (env outs : List Sl) (ds : List D) : backE env (ds.map AR.s) outs = env := by
  unfold backE
  refine mapIdx_id (fun i a => ?_) env
  have e : (ds.map AR.s).findIdx? (isIo i) = none := by
    induction ds with
    | nil => rfl
    | cons d ds ih => rw [List.map_cons, List.findIdx?_cons, ih]; rfl
  rw [e]
theorem mk_sh (env : List Sl) : ∀ ds : List D, mkArgs env (ds.map AR.s) = some (ds.map Sl.sh)
  | [] => rfl
  | d :: ds => by
    show (some (Sl.sh d)).bind _ = _
    rw [mk_sh env ds]; rfl
theorem ios_sh : ∀ ds : List D, ios (ds.map AR.s) = []
  | [] => rfl
  | _ :: ds => ios_sh ds
theorem callF_sh (F : List Sl → Option FR) (ds : List D) (env : List Sl) : callF F (ds.map AR.s) env = resF (F (ds.map Sl.sh)) env := by
  unfold callF
  rw [mk_sh, ios_sh]
  dsimp only
  rw [if_pos List.nodup_nil]
  cases F (ds.map Sl.sh) with
  | none => rfl
  | some fr => cases fr <;> (dsimp only [resF]; rw [back_id])
theorem callF1 (F : List Sl → Option FR) (a : D) (env : List Sl) : callF F [.s a] env = resF (F [.sh a]) env := callF_sh F [a] env
theorem callF2 (F : List Sl → Option FR) (a b : D) (env : List Sl) : callF F [.s a, .s b] env = resF (F [.sh a, .sh b]) env := callF_sh F [a, b] env
theorem callF3 (F : List Sl → Option FR) (a b c : D) (env : List Sl) : callF F [.s a, .s b, .s c] env = resF (F [.sh a, .sh b, .sh c]) env := callF_sh F [a, b, c] env
/-- a call with the list of slot i, then data -/
def resI (i : Nat) (k : Bool) (o : Option FR) (env : List Sl) : Option (R Rt) := match o with
  | some (.sh d (.ow _ es :: _)) => some (.ok (.sh d) (env.set i (.ow k es)))
  | some (.own ds (.ow _ es :: _)) => some (.ok (.own ds) (env.set i (.ow k es)))
  | _ => none
theorem back_io {env : List Sl} {i : Nat} {k k' : Bool} {ds es : List D} {r : List Sl} (as : List D) (h : env[i]? = some (.ow k ds)) : backE env (.io i :: as.map AR.s) (.ow k' es :: r) = env.set i (.ow k es) := by
  unfold backE
  refine List.ext_getElem? fun j => ?_
  have e : ∀ j, j ≠ i → (AR.io i :: as.map AR.s).findIdx? (isIo j) = none := fun j hj => by
    have e1 : (as.map AR.s).findIdx? (isIo j) = none := by
      induction as with
      | nil => rfl
      | cons d ds ih => rw [List.map_cons, List.findIdx?_cons, ih]; rfl
    rw [List.findIdx?_cons, e1]
    have : isIo j (.io i) = false := by show (i == j) = false; simp; exact fun z => hj z.symm
    rw [this]; rfl
  rw [List.getElem?_mapIdx]
  by_cases hj : j = i
  · subst hj
    rw [List.getElem?_set_self (List.getElem?_eq_some_iff.mp h).1, h]
    have e0 : (AR.io j :: as.map AR.s).findIdx? (isIo j) = some 0 := by
      rw [List.findIdx?_cons]
      have : isIo j (.io j) = true := by show (j == j) = true; simp
      rw [this]; rfl
    show some (match (AR.io j :: as.map AR.s).findIdx? (isIo j) with | none => _ | some p => _) = _
    rw [e0]; rfl
  · rw [List.getElem?_set_ne (fun z => hj z.symm)]
    cases z : env[j]? with
    | none => rfl
    | some sl =>
      show some (match (AR.io i :: as.map AR.s).findIdx? (isIo j) with | none => _ | some p => _) = _
      rw [e j hj]
theorem callF_io {F : List Sl → Option FR} {env : List Sl} {i : Nat} {k : Bool} {ds es : List D} {d : D} {k' : Bool} {r : List Sl} (as : List D) (h : env[i]? = some (.ow k ds)) (hF : F (.ow true ds :: as.map Sl.sh) = some (.sh d (.ow k' es :: r))) :
    callF F (.io i :: as.map AR.s) env = some (.ok (.sh d) (env.set i (.ow k es))) := by
  have m : mkArgs env (.io i :: as.map AR.s) = some (.ow true ds :: as.map Sl.sh) := by
    show (mkArg env (.io i)).bind _ = _
    have : mkArg env (.io i) = some (.ow true ds) := by simp [mkArg, h]
    rw [this, mk_sh]; rfl
  have o : ios (.io i :: as.map AR.s) = [i] := by show i :: ios (as.map AR.s) = _; rw [ios_sh]
  unfold callF
  rw [m, o]
  dsimp only
  rw [if_pos (by simp), hF]
  dsimp only
  rw [back_io as h]
/-- a call of a def with the list of slot i: its data's word -/
theorem eCall_io {F : List Sl → Option FR} {args : EV (List AR)} {env env1 : List Sl} {i : Nat} {k : Bool} {ds es : List D} {d : D} {k' : Bool} {r : List Sl} (as : List D) (e : args env = some (.ok (.io i :: as.map AR.s) env1)) (h : env1[i]? = some (.ow k ds))
    (hF : F (.ow true ds :: as.map Sl.sh) = some (.sh d (.ow k' es :: r))) : eCall F args env = some (.ok d (env1.set i (.ow k es))) := by
  unfold eCall
  rw [bnd_ok e, bnd_ok (callF_io as h hF)]; rfl
theorem eCall_sh {F : List Sl → Option FR} {args : EV (List AR)} {env env1 : List Sl} {d : D} {r : List Sl} (as : List D) (e : args env = some (.ok (as.map AR.s) env1)) (hF : F (as.map Sl.sh) = some (.sh d r)) : eCall F args env = some (.ok d env1) := by
  have c : callF F (as.map AR.s) env1 = some (.ok (.sh d) env1) := by rw [callF_sh, hF]; rfl
  unfold eCall
  rw [bnd_ok e, bnd_ok c]; rfl
end G3

/-! G3x: comprehensions over one and two names. -/
namespace G3
theorem fix_sh {env : List Sl} {v : Nat} {d : D} : fixed (env.set v (.sh d)) v = false := by
  unfold fixed
  by_cases h : v < env.length
  · rw [List.getElem?_set_self h]
  · rw [List.getElem?_eq_none (by rw [List.length_set]; omega)]
theorem noFix1 {env : List Sl} {v : Nat} (h : fixed env v = false) : noFix env [v] := by
  show ((!fixed env v) && true) = true
  rw [h]; rfl
theorem st1 {env : List Sl} {v : Nat} (hl : v < env.length) (d : D) : tgName v d (wipeE env [v]) = some (env.set v (.sh d)) := by
  unfold tgName stSl
  have e : wipeE env [v] = env.set v .un := rfl
  rw [e, List.getElem?_set_self hl]
  show some ((env.set v .un).set v (.sh d)) = _
  rw [List.set_set]
theorem comp1 {src : EV (List D)} {tt : EV Bool} {f : EV D} {env : List Sl} {v : Nat} {ds : List D} (p : D → Bool) (y : D → D) (hs : src env = some (.ok ds env)) (h1 : fixed env v = false) (hl : v < env.length) (hz : ds.length ≤ PySem.sizeLine)
    (h : ∀ d ∈ ds, tt (env.set v (.sh d)) = some (.ok (p d) (env.set v (.sh d))) ∧ (p d = true → f (env.set v (.sh d)) = some (.ok (y d) (env.set v (.sh d))))) :
    oComp [v] src (tgName v) tt f env = some (.ok ((ds.filter p).map y) env) := by
  refine oComp_map p y hs (noFix1 h1) (fun d hd => ?_) hz
  obtain ⟨k1, k2⟩ := h d hd
  refine ⟨env.set v (.sh d), st1 hl d, k1, k2, noFix1 fix_sh, ?_⟩
  show (env.set v (.sh d)).set v .un = env.set v .un
  rw [List.set_set]
theorem comp1_map {src : EV (List D)} {f : EV D} {env : List Sl} {v : Nat} {ds : List D} (y : D → D) (hs : src env = some (.ok ds env)) (h1 : fixed env v = false) (hl : v < env.length) (hz : ds.length ≤ PySem.sizeLine)
    (h : ∀ d ∈ ds, f (env.set v (.sh d)) = some (.ok (y d) (env.set v (.sh d)))) : oComp [v] src (tgName v) (ret true) f env = some (.ok (ds.map y) env) := by
  have k := comp1 (tt := ret true) (fun _ => true) y hs h1 hl hz fun d hd => ⟨rfl, fun _ => h d hd⟩
  rw [List.filter_eq_self.mpr fun _ _ => rfl] at k
  exact k
/-- all([f for v in src]) -/
theorem all1 {src : EV (List D)} {f : EV D} {env : List Sl} {v : Nat} {ds : List D} (p : D → Bool) (hs : src env = some (.ok ds env)) (h1 : fixed env v = false) (hl : v < env.length) (hz : ds.length ≤ PySem.sizeLine)
    (h : ∀ d ∈ ds, f (env.set v (.sh d)) = some (.ok (.bl (p d)) (env.set v (.sh d)))) : eBlt bAll (aCons (eFrz (oComp [v] src (tgName v) (ret true) f)) aNil) env = some (.ok (.bl (ds.all p)) env) := by
  refine blt_of (acons_of (frz_of (comp1_map (fun d => .bl (p d)) hs h1 hl hz h)) rfl) ?_
  have e : ds.map (fun d => D.bl (p d)) = (ds.map p).map D.bl := by rw [List.map_map]; rfl
  show (blsD (ds.map fun d => D.bl (p d))).map _ = _
  rw [e, blsD_map]
  show some (D.bl ((ds.map p).all _root_.id)) = _
  rw [List.all_map]; rfl
/-! ### two names -/
theorem st2 {env : List Sl} {v u : Nat} (hv : v < env.length) (hu : u < env.length) (hn : v ≠ u) (a b : D) : tgTup 2 (tgCons (tgName v) (tgCons (tgName u) tgNil)) (.tup [a, b]) (wipeE env [v, u]) = some ((env.set v (.sh a)).set u (.sh b)) := by
  have e : wipeE env [v, u] = (env.set u .un).set v .un := rfl
  have l1 : ((env.set u .un).set v .un)[v]? = some .un := List.getElem?_set_self (by simpa using hv)
  have l2 : (((env.set u .un).set v .un).set v (.sh a))[u]? = some .un := by
    rw [List.getElem?_set_ne hn, List.getElem?_set_ne hn, List.getElem?_set_self hu]
  rw [e]
  show (tgName v a ((env.set u .un).set v .un)).bind _ = _
  have t1 : tgName v a ((env.set u .un).set v .un) = some (((env.set u .un).set v .un).set v (.sh a)) := by
    unfold tgName stSl; rw [l1]
  rw [t1]
  show (tgName u b _).bind _ = _
  have t2 : tgName u b (((env.set u .un).set v .un).set v (.sh a)) = some ((((env.set u .un).set v .un).set v (.sh a)).set u (.sh b)) := by
    unfold tgName stSl; rw [l2]
  rw [t2]
  show some _ = _
  congr 1
  rw [List.set_set, List.set_comm _ _ (fun z => hn z.symm), List.set_set]
theorem comp2 {src : EV (List D)} {tt : EV Bool} {f : EV D} {env : List Sl} {v u : Nat} {α : Type} {es : List α} (A B : α → D) (p : α → Bool) (y : α → D) (hs : src env = some (.ok (es.map fun e => .tup [A e, B e]) env)) (h1 : fixed env v = false) (h2 : fixed env u = false) (hv : v < env.length) (hu : u < env.length) (hn : v ≠ u) (hz : es.length ≤ PySem.sizeLine)
    (h : ∀ e ∈ es, tt ((env.set v (.sh (A e))).set u (.sh (B e))) = some (.ok (p e) ((env.set v (.sh (A e))).set u (.sh (B e)))) ∧ (p e = true → f ((env.set v (.sh (A e))).set u (.sh (B e))) = some (.ok (y e) ((env.set v (.sh (A e))).set u (.sh (B e)))))) :
    oComp [v, u] src (tgTup 2 (tgCons (tgName v) (tgCons (tgName u) tgNil))) tt f env = some (.ok ((es.filter p).map y) env) := by
  have nf : noFix env [v, u] := by
    show ((!fixed env v) && ((!fixed env u) && true)) = true
    rw [h1, h2]; rfl
  have cl : ∀ es' : List α, (∀ e ∈ es', e ∈ es) → compL [v, u] (tgTup 2 (tgCons (tgName v) (tgCons (tgName u) tgNil))) tt f (es'.map fun e => .tup [A e, B e]) (wipeE env [v, u]) = some (.ok ((es'.filter p).map y) (wipeE env [v, u])) := by
    intro es'
    induction es' with
    | nil => intro _; rfl
    | cons e es' ih =>
      intro sub
      obtain ⟨k1, k2⟩ := h e (sub e List.mem_cons_self)
      have ih := ih fun x hx => sub x (List.mem_cons_of_mem _ hx)
      have hp : put (tgTup 2 (tgCons (tgName v) (tgCons (tgName u) tgNil)) (.tup [A e, B e])) (wipeE env [v, u]) = some (.ok () ((env.set v (.sh (A e))).set u (.sh (B e)))) := by unfold put; rw [st2 hv hu hn]
      have nf1 : noFix ((env.set v (.sh (A e))).set u (.sh (B e))) [v, u] := by
        have q1 : fixed ((env.set v (.sh (A e))).set u (.sh (B e))) v = false := by rw [List.set_comm _ _ hn]; exact fix_sh
        show ((!fixed _ v) && ((!fixed _ u) && true)) = true
        rw [q1, fix_sh]; rfl
      have w1 : wipeE ((env.set v (.sh (A e))).set u (.sh (B e))) [v, u] = wipeE env [v, u] := by
        show (((env.set v (.sh (A e))).set u (.sh (B e))).set u .un).set v .un = (env.set u .un).set v .un
        rw [List.set_set, List.set_comm _ _ hn, List.set_set]
      rw [List.map_cons]
      show bnd (put _) _ _ = _
      rw [bnd_ok hp, bnd_ok k1]
      cases hd : p e with
      | true =>
        rw [if_pos rfl, bnd_ok (k2 hd), bnd_ok (wipeP_of nf1), w1, bnd_ok ih, List.filter_cons_of_pos hd]
        rfl
      | false =>
        rw [if_neg Bool.false_ne_true, bnd_ok (wipeP_of nf1), w1, ih, List.filter_cons_of_neg (by rw [hd]; exact Bool.false_ne_true)]
  have k := oComp_of hs nf (cl es fun e he => he) (by rw [List.length_map]; exact Nat.le_trans (List.length_filter_le _ _) hz)
  rw [rest_wipe] at k
  exact k
end G3

/-! G3y: a comprehension that carries a state. -/
namespace G3
theorem set_un {env : List Sl} {v : Nat} (h : env[v]? = some .un) : env.set v .un = env := by
  refine List.ext_getElem? fun j => ?_
  by_cases z : v = j
  · subst z; rw [List.getElem?_set_self (List.getElem?_eq_some_iff.mp h).1, h]
  · rw [List.getElem?_set_ne z]
theorem comp1_st {σ : Type} {v : Nat} {src : EV (List D)} {f : EV D} (E : σ → List Sl) (I : Nat → σ → Prop) (Q : D → D → Prop) {env : List Sl} {ds : List D} {s0 : σ} (hu : ∀ s, (E s)[v]? = some .un) (hs : src env = some (.ok ds (E s0))) (h0 : I ds.length s0) (hz : ds.length ≤ PySem.sizeLine)
    (step : ∀ n s d, d ∈ ds → I (n + 1) s → ∃ y s', f ((E s).set v (.sh d)) = some (.ok y ((E s').set v (.sh d))) ∧ I n s' ∧ Q d y) :
    ∃ ys s', oComp [v] src (tgName v) (ret true) f env = some (.ok ys (E s')) ∧ I 0 s' ∧ Paired2 Q ds ys := by
  have w : ∀ s, wipeE (E s) [v] = E s := fun s => set_un (hu s)
  have fx : ∀ s, fixed (E s) v = false := fun s => by unfold fixed; rw [hu s]
  have cl : ∀ (es : List D) (s : σ), (∀ d ∈ es, d ∈ ds) → I es.length s → ∃ ys s', compL [v] (tgName v) (ret true) f es (E s) = some (.ok ys (E s')) ∧ I 0 s' ∧ Paired2 Q es ys := by
    intro es
    induction es with
    | nil => intro s _ h; exact ⟨[], s, rfl, h, .nil⟩
    | cons d es ih =>
      intro s sub h
      obtain ⟨y, s1, h1, h2, h3⟩ := step es.length s d (sub d List.mem_cons_self) h
      obtain ⟨ys, s2, k1, k2, k3⟩ := ih s1 (fun x hx => sub x (List.mem_cons_of_mem _ hx)) h2
      refine ⟨y :: ys, s2, ?_, k2, .cons h3 k3⟩
      have hl : v < (E s).length := (List.getElem?_eq_some_iff.mp (hu s)).1
      have t := st1 hl d
      rw [w] at t
      have hp : put (tgName v d) (E s) = some (.ok () ((E s).set v (.sh d))) := by unfold put; rw [t]
      have tr : ret true ((E s).set v (.sh d)) = some (.ok true ((E s).set v (.sh d))) := rfl
      have wp := wipeP_of (env := (E s1).set v (.sh d)) (vs := [v]) (noFix1 fix_sh)
      have we : wipeE ((E s1).set v (.sh d)) [v] = E s1 := by
        show ((E s1).set v (.sh d)).set v .un = _
        rw [List.set_set, set_un (hu s1)]
      rw [we] at wp
      show bnd (put (tgName v d)) _ _ = _
      rw [bnd_ok hp, bnd_ok tr, if_pos rfl, bnd_ok h1, bnd_ok wp, bnd_ok k1]
      rfl
  obtain ⟨ys, s', k1, k2, k3⟩ := cl ds s0 (fun d hd => hd) h0
  refine ⟨ys, s', ?_, k2, k3⟩
  have k := oComp_of (f := f) hs (noFix1 (fx s0)) (by rw [w]; exact k1) (by rw [k3.length]; exact hz)
  rw [k]
  congr 2
  show (E s').set v ((E s0).getD v .un) = E s'
  rw [List.getD_eq_getElem?_getD, hu s0]
  exact set_un (hu s')
theorem Paired2.all {α β : Type} {Q : α → β → Prop} : ∀ {as : List α} {bs : List β}, Paired2 Q as bs → ∀ b ∈ bs, ∃ a ∈ as, Q a b
  | _, _, .nil, b, hb => nomatch hb
  | _, _, .cons h t, b, hb => by
    rcases List.mem_cons.mp hb with rfl | hb
    · exact ⟨_, List.mem_cons_self, h⟩
    · obtain ⟨a, ha, q⟩ := t.all b hb
      exact ⟨a, List.mem_cons_of_mem _ ha, q⟩
end G3

/-! G3z: what repr shows is a text, and short. -/
namespace G3
open PySem (PyData Str)
theorem strOk_of (s : String) : PyData.strOk (Str.ofString s) = true := by
  rw [Str.ofString_eq_toList]
  unfold PyData.strOk
  rw [Array.all_eq_true']
  intro n hn
  simp only [List.mem_toArray, List.mem_map] at hn
  obtain ⟨c, _, rfl⟩ := hn
  refine decide_eq_true ?_
  have h : c.toNat.isValidChar := c.valid
  rcases h with h | h <;> omega
theorem strOk_app {a b : Str} (h1 : PyData.strOk a = true) (h2 : PyData.strOk b = true) : PyData.strOk (a ++ b) = true := by
  show (a.cps ++ b.cps).all _ = true
  rw [Array.all_append]
  exact Bool.and_eq_true_iff.mpr ⟨h1, h2⟩
theorem strOk_join {ts : List Str} (h : ∀ t ∈ ts, PyData.strOk t = true) : PyData.strOk (Str.join ", " ts) = true := by
  induction ts with
  | nil => decide +kernel
  | cons x r ih =>
    cases r with
    | nil => exact h x List.mem_cons_self
    | cons y r =>
      show PyData.strOk (x ++ Str.ofString ", " ++ Str.join ", " (y :: r)) = true
      exact strOk_app (strOk_app (h x List.mem_cons_self) (strOk_of _)) (ih fun t ht => h t (List.mem_cons_of_mem _ ht))
theorem strOk_tup {ts : List Str} (h : ∀ t ∈ ts, PyData.strOk t = true) : PyData.strOk (PySem.tupleText ts) = true := by
  unfold PySem.tupleText
  refine strOk_app (strOk_app (strOk_of _) (strOk_join h)) ?_
  split <;> exact strOk_of _
theorem okD_str {s : Str} (h : PyData.strOk s = true) : okD (.str s) = true := okD_can (n := 0) ⟨rfl, h, Nat.zero_le _⟩ (by omega)
theorem eqv_str (s : Str) : eqv (.str s) (.str s) = true := eqv_refl _ rfl
theorem shown_ints : ∀ ns : List Int, PyData.shownAll (pys (ns.map D.int)) = ns.map fun i => Str.ofString (toString i)
  | [] => rfl
  | n :: ns => by
    show (Str.ofString (toString n)) :: PyData.shownAll (pys (ns.map D.int)) = _
    rw [shown_ints ns]; rfl
theorem len_int {i : Int} (h0 : 0 ≤ i) (h1 : i < 100) : (Str.ofString (toString i)).length ≤ 2 := by
  have h : ∀ k : Fin 100, (Str.ofString (toString ((k.val : Nat) : Int))).length ≤ 2 := by decide +kernel
  obtain ⟨n, rfl⟩ := Int.eq_ofNat_of_zero_le h0
  exact h ⟨n, by omega⟩
theorem piled_le {ts : List Str} {m : Nat} (h : ∀ t ∈ ts, t.length ≤ m) : PySem.piled ts ≤ ts.length * (m + 2) := by
  induction ts with
  | nil => exact Nat.zero_le _
  | cons t ts ih =>
    rw [PySem.piled_cons, List.length_cons, Nat.add_mul]
    have := h t List.mem_cons_self
    have := ih fun x hx => h x (List.mem_cons_of_mem _ hx)
    omega
theorem len_app (a b : Str) : (a ++ b).length = a.length + b.length := Array.size_append ..
theorem len_tup {ts : List Str} : (PySem.tupleText ts).length ≤ PySem.piled ts + 5 := by
  unfold PySem.tupleText
  rw [len_app, len_app]
  have h1 : (Str.ofString "(").length = 1 := by decide +kernel
  have h2 : ((if ts.length == 1 then ",)" else ")" : String) : Str).length ≤ 2 := by
    split <;> decide +kernel
  have h3 : (Str.join ", " ts).length ≤ PySem.piled ts := by
    by_cases z : ts = []
    · subst z; exact Nat.zero_le _
    · have := PySem.join_length_add ts z; omega
  omega
theorem showable_ints : ∀ ns : List Int, (∀ n ∈ ns, n.natAbs.log2 < 1920) → PyData.showableAll (pys (ns.map D.int)) = true
  | [], _ => rfl
  | n :: ns, h => by
    show (decide (n.natAbs.log2 < 1920) && PyData.showableAll (pys (ns.map D.int))) = true
    rw [decide_eq_true (h n List.mem_cons_self), showable_ints ns fun x hx => h x (List.mem_cons_of_mem _ hx)]; rfl
/-- a short tuple of small ints -/
theorem repr_ints {ns : List Int} (h : ∀ n ∈ ns, 0 ≤ n ∧ n < 100) (hl : ns.length ≤ 1000) : ∃ s : Str, bRepr [.tup (ns.map D.int)] = some (.str s) ∧ PyData.strOk s = true := by
  obtain ⟨c1, c2, c3⟩ := can_tup (n := 0) (can_ints ns)
  have e : (D.tup (ns.map D.int)).py.shown = PySem.tupleText (ns.map fun i => Str.ofString (toString i)) := by
    show PySem.tupleText (PyData.shownAll (pys (ns.map D.int))) = _
    rw [shown_ints]
  have ts : ∀ t ∈ ns.map (fun i => Str.ofString (toString i)), t.length ≤ 2 := fun t ht => by
    obtain ⟨i, hi, rfl⟩ := List.mem_map.mp ht
    exact len_int (h i hi).1 (h i hi).2
  have lb : (D.tup (ns.map D.int)).py.shown.length ≤ PySem.sizeLine := by
    rw [e]
    have h1 := len_tup (ts := ns.map fun i => Str.ofString (toString i))
    have h2 := piled_le ts
    rw [List.length_map] at h2
    show _ ≤ 2 ^ 24
    omega
  have sh : PyData.showable (D.tup (ns.map D.int)).py = true := showable_ints ns fun n hn => by
    have := h n hn
    have := log2_lt (n := n.natAbs) (k := 7) (by omega) (by omega)
    omega
  have ro : reprOk (.tup (ns.map D.int)) = true := by
    unfold reprOk
    rw [c1, sh, decide_eq_true lb, decide_eq_true (by omega : PyData.depth (D.tup (ns.map D.int)).py ≤ 60)]; rfl
  refine ⟨(D.tup (ns.map D.int)).py.shown, ?_, ?_⟩
  · show (if (isSeq (.tup (ns.map D.int)) && reprOk (.tup (ns.map D.int))) = true then _ else none) = _
    rw [if_pos (by rw [ro]; rfl)]
  · rw [e]
    refine strOk_tup fun t ht => ?_
    obtain ⟨i, _, rfl⟩ := List.mem_map.mp ht
    exact strOk_of _
theorem oNe_same {s : Str} (h : PyData.strOk s = true) : oNe (.str s) (.str s) = some (.bl false) := by
  rw [oNe_of (okD_str h) (okD_str h), eqv_str]; rfl
end G3

namespace K53
open PySem PySem.Spec PyProof.Rows L2 G3
noncomputable section
def lt_InvalidEvents : List (Str × Bool) := [("SpanError", false), ("InvalidFrame", false), ("InvalidEvents", true)]
def mt_InvalidEvents : Str → Option Bool := tabS lt_InvalidEvents
def li_SpanError : List (Str × Bool) := [("SpanError", true), ("InvalidFrame", true), ("InvalidEvents", true)]
def ie_SpanError : Str → Option Bool := tabS li_SpanError
def c_BARS : D := (.int 12)
def c_CASES : D := (.int 4)
def c_EVENTS : D := (.int 40)
def c_HELD : D := (.tup [(.str ""), (.str "x"), (.str "y"), (.str "xy")])
def c_JOINTS : D := (.int 8)
def c_LIMIT : D := (.int 999)
def c_LOAD : D := (.int 99)
def c_PLACE : D := (.int 9)
def c_SORTS : D := (.int 6)
def c_STIFF : D := (.int 9)
/-- all_cases -/
def b_all_cases : SV :=
  (sRet (eFrz (oRng2 (eNeg (eLit (.int 1))) (eBlt bLen (aCons (eBin atD (eVar 0) (eLit (.int 3))) aNil)))))
def F_all_cases : List Sl → Option FR := fnF 1 b_all_cases
/-- is_round -/
def b_is_round : SV :=
  (sSeq (sIf (asB (eBlt bAny (aCons (eFrz (oComp [2, 3] (iSeq (eVar 1)) (tgTup 2 (tgCons (tgName 2) (tgCons (tgName 3) tgNil))) (ret true) (eBin oNe (eVar 3) (eBin atD (eBin atD (eVar 1) (eLit (.int 0))) (eLit (.int 1)))))) aNil)))
  (sRet (eLit (.bl false)))
  sNil)
  (sRet (eBin oEq (eFrz (oBlt bSorted2 (aCons (eFrz (oComp [2, 3] (iSeq (eVar 1)) (tgTup 2 (tgCons (tgName 2) (tgCons (tgName 3) tgNil))) (ret true) (eVar 2))) aNil))) (eCall F_all_cases (rCons (eVar 0) rNil)))))
def F_is_round : List Sl → Option FR := fnF 4 b_is_round
/-- rounds_of -/
def b_rounds_of : SV :=
  (sSeq (sParR [2, 3, 4] (qO (oLst aNil) (qS (eLit (.int 0)) (qS (eBin oAdd (eBlt bLen (aCons (eBin atD (eVar 0) (eLit (.int 3))) aNil)) (eLit (.int 1))) qNil))))
  (sSeq (sWhile (asB (eBin oLe (eBin oAdd (eVar 3) (eVar 4)) (eBlt bLen (aCons (eVar 1) aNil))))
  (sIf (asB (eCall F_is_round (rCons (eVar 0) (rCons (eSl (eVar 1) (pSome (eVar 3)) (pSome (eBin oAdd (eVar 3) (eVar 4)))) rNil))))
  (sSeq (sApp 2 (eVar 3))
  (sSet 3 (eBin oAdd (eVar 3) (eVar 4))))
  (sSet 3 (eBin oAdd (eVar 3) (eLit (.int 1))))))
  (sRet (eVar 2))))
def F_rounds_of : List Sl → Option FR := fnF 5 b_rounds_of
/-- is_whole -/
def b_is_whole : SV :=
  (sRet (eAnd (eIsi "int" (eVar 0)) (eAnd (eNot (eIsi "bool" (eVar 0))) (eChain oLe oLe (eVar 1) (eVar 0) (eVar 2)))))
def F_is_whole : List Sl → Option FR := fnF 3 b_is_whole
/-- common_divisor -/
def b_common_divisor : SV :=
  (sSeq (sParR [0, 1] (qS (eBlt bAbs (aCons (eVar 0) aNil)) (qS (eBlt bAbs (aCons (eVar 1) aNil)) qNil)))
  (sSeq (sWhile (asB (eBin oNe (eVar 1) (eLit (.int 0))))
  (sParR [0, 1] (qS (eVar 1) (qS (eBin oMod (eVar 0) (eVar 1)) qNil))))
  (sRet (eVar 0))))
def F_common_divisor : List Sl → Option FR := fnF 2 b_common_divisor
/-- is_tuple_of -/
def b_is_tuple_of : SV :=
  (sRet (eAnd (eIsi "tuple" (eVar 0)) (eChain oLe oLe (eVar 1) (eBlt bLen (aCons (eVar 0) aNil)) (eVar 2))))
def F_is_tuple_of : List Sl → Option FR := fnF 3 b_is_tuple_of
/-- is_integer -/
def b_is_integer : SV :=
  (sRet (eAnd (eIsi "int" (eVar 0)) (eNot (eIsi "bool" (eVar 0)))))
def F_is_integer : List Sl → Option FR := fnF 1 b_is_integer
/-- fits_ratio -/
def b_fits_ratio : SV :=
  (sSeq (sIf (bOr (bNot (asB (eCall F_is_tuple_of (rCons (eVar 0) (rCons (eLit (.int 2)) (rCons (eLit (.int 2)) rNil)))))) (bOr (bNot (asB (eCall F_is_integer (rCons (eBin atD (eVar 0) (eLit (.int 0))) rNil)))) (bNot (asB (eCall F_is_integer (rCons (eBin atD (eVar 0) (eLit (.int 1))) rNil))))))
  (sRet (eLit (.bl false)))
  sNil)
  (sRet (eAnd (eBin oGe (eBin atD (eVar 0) (eLit (.int 1))) (eLit (.int 1))) (eBin oEq (eCall F_common_divisor (rCons (eBin atD (eVar 0) (eLit (.int 0))) (rCons (eBin atD (eVar 0) (eLit (.int 1))) rNil))) (eLit (.int 1))))))
def F_fits_ratio : List Sl → Option FR := fnF 1 b_fits_ratio
/-- fits_events -/
def b_fits_events : SV :=
  (sSeq (sIf (bOr (bNot (asB (eCall F_is_tuple_of (rCons (eVar 1) (rCons (eLit (.int 0)) (rCons (eLit c_EVENTS) rNil)))))) (bNot (asB (eBlt bAll (aCons (eFrz (oComp [3] (iSeq (eVar 1)) (tgName 3) (ret true) (eCall F_is_tuple_of (rCons (eVar 3) (rCons (eLit (.int 2)) (rCons (eLit (.int 2)) rNil)))))) aNil)))))
  (sRet (eLit (.bl false)))
  sNil)
  (sSeq (sSet 2 (eBlt bLen (aCons (eBin atD (eVar 0) (eLit (.int 3))) aNil)))
  (sRet (eBlt bAll (aCons (eFrz (oComp [3] (iSeq (eVar 1)) (tgName 3) (ret true) (eAnd (eCall F_is_whole (rCons (eBin atD (eVar 3) (eLit (.int 0))) (rCons (eNeg (eLit (.int 1))) (rCons (eBin oSub (eVar 2) (eLit (.int 1))) rNil)))) (eAnd (eCall F_fits_ratio (rCons (eBin atD (eVar 3) (eLit (.int 1))) rNil)) (eBin oGe (eBin atD (eBin atD (eVar 3) (eLit (.int 1))) (eLit (.int 0))) (eLit (.int 0))))))) aNil)))))
def F_fits_events : List Sl → Option FR := fnF 4 b_fits_events
/-- need_events -/
def b_need_events : SV :=
  (sIf (bNot (asB (eCall F_fits_events (rCons (eVar 0) (rCons (eVar 1) rNil)))))
  (sRaise "InvalidEvents")
  sNil)
def F_need_events : List Sl → Option FR := fnF 2 b_need_events
/-- fits_load -/
def b_fits_load : SV :=
  (sSeq (sIf (bNot (asB (eCall F_is_tuple_of (rCons (eVar 1) (rCons (eVar 0) (rCons (eVar 0) rNil))))))
  (sRet (eLit (.bl false)))
  sNil)
  (sRet (eBlt bAll (aCons (eFrz (oComp [2] (iSeq (eVar 1)) (tgName 2) (ret true) (eAnd (eCall F_is_tuple_of (rCons (eVar 2) (rCons (eLit (.int 2)) (rCons (eLit (.int 2)) rNil)))) (eBlt bAll (aCons (eFrz (oComp [3] (iSeq (eVar 2)) (tgName 3) (ret true) (eCall F_is_whole (rCons (eVar 3) (rCons (eNeg (eLit c_LOAD)) (rCons (eLit c_LOAD) rNil)))))) aNil))))) aNil))))
def F_fits_load : List Sl → Option FR := fnF 4 b_fits_load
/-- are_unlike -/
def b_are_unlike : SV :=
  (sRet (eBin oEq (eLenSet (eVar 0)) (eBlt bLen (aCons (eVar 0) aNil))))
def F_are_unlike : List Sl → Option FR := fnF 1 b_are_unlike
/-- fits_bar -/
def b_fits_bar : SV :=
  (sSeq (sIf (bOr (bNot (asB (eCall F_is_tuple_of (rCons (eVar 2) (rCons (eLit (.int 4)) (rCons (eLit (.int 4)) rNil)))))) (bOr (bNot (asB (eCall F_is_whole (rCons (eBin atD (eVar 2) (eLit (.int 0))) (rCons (eLit (.int 0)) (rCons (eBin oSub (eVar 1) (eLit (.int 1))) rNil)))))) (bNot (asB (eCall F_is_whole (rCons (eBin atD (eVar 2) (eLit (.int 1))) (rCons (eLit (.int 0)) (rCons (eBin oSub (eVar 1) (eLit (.int 1))) rNil))))))))
  (sRet (eLit (.bl false)))
  sNil)
  (sRet (eAnd (eBin oNe (eBin atD (eVar 2) (eLit (.int 0))) (eBin atD (eVar 2) (eLit (.int 1)))) (eAnd (eCall F_is_whole (rCons (eBin atD (eVar 2) (eLit (.int 2))) (rCons (eLit (.int 0)) (rCons (eBin oSub (eVar 0) (eLit (.int 1))) rNil)))) (eCall F_is_whole (rCons (eBin atD (eVar 2) (eLit (.int 3))) (rCons (eNeg (eLit c_LOAD)) (rCons (eLit c_LOAD) rNil))))))))
def F_fits_bar : List Sl → Option FR := fnF 3 b_fits_bar
/-- fits_sort -/
def b_fits_sort : SV :=
  (sSeq (sIf (bOr (bNot (asB (eCall F_is_tuple_of (rCons (eVar 0) (rCons (eLit (.int 3)) (rCons (eLit (.int 3)) rNil)))))) (bNot (asB (eCall F_is_whole (rCons (eBin atD (eVar 0) (eLit (.int 0))) (rCons (eLit (.int 1)) (rCons (eLit c_STIFF) rNil)))))))
  (sRet (eLit (.bl false)))
  sNil)
  (sRet (eAnd (eCall F_is_whole (rCons (eBin atD (eVar 0) (eLit (.int 1))) (rCons (eLit (.int 1)) (rCons (eLit c_LIMIT) rNil)))) (eCall F_is_whole (rCons (eBin atD (eVar 0) (eLit (.int 2))) (rCons (eLit (.int 1)) (rCons (eLit c_LIMIT) rNil)))))))
def F_fits_sort : List Sl → Option FR := fnF 1 b_fits_sort
/-- fits_joint -/
def b_fits_joint : SV :=
  (sSeq (sIf (bOr (bNot (asB (eCall F_is_tuple_of (rCons (eVar 0) (rCons (eLit (.int 3)) (rCons (eLit (.int 3)) rNil)))))) (bOr (bNot (asB (eCall F_is_whole (rCons (eBin atD (eVar 0) (eLit (.int 0))) (rCons (eLit (.int 0)) (rCons (eLit c_PLACE) rNil)))))) (bNot (asB (eCall F_is_whole (rCons (eBin atD (eVar 0) (eLit (.int 1))) (rCons (eLit (.int 0)) (rCons (eLit c_PLACE) rNil))))))))
  (sRet (eLit (.bl false)))
  sNil)
  (sRet (eAnd (eIsi "str" (eBin atD (eVar 0) (eLit (.int 2)))) (eBin oIn (eBin atD (eVar 0) (eLit (.int 2))) (eLit c_HELD)))))
def F_fits_joint : List Sl → Option FR := fnF 1 b_fits_joint
/-- fits_frame -/
def b_fits_frame : SV :=
  (sSeq (sIf (bOr (bNot (asB (eCall F_is_tuple_of (rCons (eVar 0) (rCons (eLit (.int 4)) (rCons (eLit (.int 4)) rNil)))))) (bOr (bNot (asB (eCall F_is_tuple_of (rCons (eBin atD (eVar 0) (eLit (.int 0))) (rCons (eLit (.int 1)) (rCons (eLit c_SORTS) rNil)))))) (bNot (asB (eCall F_is_tuple_of (rCons (eBin atD (eVar 0) (eLit (.int 1))) (rCons (eLit (.int 2)) (rCons (eLit c_JOINTS) rNil))))))))
  (sRet (eLit (.bl false)))
  sNil)
  (sSeq (sAsg (tgTup 4 (tgCons (tgName 1) (tgCons (tgName 2) (tgCons (tgName 3) (tgCons (tgName 4) tgNil))))) (eVar 0))
  (sSeq (sIf (bOr (bNot (asB (eCall F_is_tuple_of (rCons (eVar 3) (rCons (eLit (.int 1)) (rCons (eLit c_BARS) rNil)))))) (bNot (asB (eCall F_is_tuple_of (rCons (eVar 4) (rCons (eLit (.int 0)) (rCons (eLit c_CASES) rNil)))))))
  (sRet (eLit (.bl false)))
  sNil)
  (sSeq (sIf (bOr (bNot (asB (eBlt bAll (aCons (eFrz (oComp [5] (iSeq (eVar 1)) (tgName 5) (ret true) (eCall F_fits_sort (rCons (eVar 5) rNil)))) aNil)))) (bNot (asB (eBlt bAll (aCons (eFrz (oComp [5] (iSeq (eVar 2)) (tgName 5) (ret true) (eCall F_fits_joint (rCons (eVar 5) rNil)))) aNil)))))
  (sRet (eLit (.bl false)))
  sNil)
  (sSeq (sIf (bNot (asB (eBlt bAll (aCons (eFrz (oComp [5] (iSeq (eVar 3)) (tgName 5) (ret true) (eCall F_fits_bar (rCons (eBlt bLen (aCons (eVar 1) aNil)) (rCons (eBlt bLen (aCons (eVar 2) aNil)) (rCons (eVar 5) rNil)))))) aNil))))
  (sRet (eLit (.bl false)))
  sNil)
  (sSeq (sIf (bOr (bNot (asB (eCall F_are_unlike (rCons (eFrz (oComp [5] (iSeq (eVar 2)) (tgName 5) (ret true) (eSl (eVar 5) pNone (pSome (eLit (.int 2)))))) rNil)))) (bNot (asB (eCall F_are_unlike (rCons (eFrz (oComp [5] (iSeq (eVar 3)) (tgName 5) (ret true) (eBlt bTuple (aCons (eFrz (oBlt bSorted2 (aCons (eSl (eVar 5) pNone (pSome (eLit (.int 2)))) aNil))) aNil)))) rNil)))))
  (sRet (eLit (.bl false)))
  sNil)
  (sRet (eBlt bAll (aCons (eFrz (oComp [5] (iSeq (eVar 4)) (tgName 5) (ret true) (eCall F_fits_load (rCons (eBlt bLen (aCons (eVar 2) aNil)) (rCons (eVar 5) rNil))))) aNil)))))))))
def F_fits_frame : List Sl → Option FR := fnF 6 b_fits_frame
/-- need_frame -/
def b_need_frame : SV :=
  (sIf (bNot (asB (eCall F_fits_frame (rCons (eVar 0) rNil))))
  (sRaise "InvalidFrame")
  sNil)
def F_need_frame : List Sl → Option FR := fnF 1 b_need_frame
/-- rounds_in -/
def b_rounds_in : SV :=
  (sSeq (sExpr (eCall F_need_frame (rCons (eVar 0) rNil)))
  (sSeq (sExpr (eCall F_need_events (rCons (eVar 0) (rCons (eVar 1) rNil))))
  (sRet (eBlt bTuple (aCons (eCall F_rounds_of (rCons (eVar 0) (rCons (eVar 1) rNil))) aNil)))))
def F_rounds_in : List Sl → Option FR := fnF 2 b_rounds_in
/-- _law_refused -/
def b__law_refused : SV :=
  (sSeq (sTry 2 mt_InvalidEvents (fun c => (ie_SpanError c).map D.bl)
  (sExpr (eCall F_rounds_in (rCons (eVar 0) (rCons (eVar 1) rNil)))))
  (sRet (eLit (.bl false))))
def F__law_refused : List Sl → Option FR := fnF 3 b__law_refused
/-- _law_roll -/
def b__law_roll : SV :=
  (sSeq (sIf (asB (eBin oGt (eIxV 0 (eLit (.int 0))) (eLit (.int 0))))
  (sSeq (sSet 3 (eBin oMod (eBlt bInt (aCons (eIxV 0 (eLit (.int 0))) aNil)) (eVar 1)))
  (sSeq (sSetIx 0 (eLit (.int 0)) (eBin oFdiv (eIxV 0 (eLit (.int 0))) (eVar 1)))
  (sRet (eVar 3))))
  sNil)
  (sSeq (sSetIx 0 (eLit (.int 1)) (eBin oMod (eBlt bInt (aCons (eBin oAdd (eBin oMul (eIxV 0 (eLit (.int 1))) (eLit (.int 31103))) (eLit (.int 8059))) aNil)) (eLit (.int 2147483399))))
  (sSeq (sSet 2 (eBin oMod (eBlt bInt (aCons (eBin oMul (eIxV 0 (eLit (.int 1))) (eBin oAdd (eIxV 0 (eLit (.int 1))) (eLit (.int 263)))) aNil)) (eLit (.int 2147483587))))
  (sRet (eBin oMod (eBlt bInt (aCons (eBin oFdiv (eVar 2) (eLit (.int 857))) aNil)) (eVar 1))))))
def F__law_roll : List Sl → Option FR := fnF 4 b__law_roll
/-- _law_some -/
def b__law_some : SV :=
  (sRet (eBin atD (eVar 1) (eCall F__law_roll (rIo 0 (rCons (eBlt bLen (aCons (eVar 1) aNil)) rNil)))))
def F__law_some : List Sl → Option FR := fnF 2 b__law_some
/-- _law_rounds -/
def b__law_rounds : SV :=
  (sSeq (sParR [3, 4, 5] (qS (eBin oAdd (eBlt bLen (aCons (eBin atD (eVar 0) (eLit (.int 3))) aNil)) (eLit (.int 1))) (qS (eFrz (oLst aNil)) (qS (eLit (.int 0)) qNil))))
  (sSeq (sFor (tgName 2) (iRng1 (eBin oAdd (eBin oSub (eBlt bLen (aCons (eVar 1) aNil)) (eVar 3)) (eLit (.int 1))))
  (sSeq (sSet 6 (eSl (eVar 1) (pSome (eVar 2)) (pSome (eBin oAdd (eVar 2) (eVar 3)))))
  (sSeq (sSet 7 (eFrz (oBlt bSorted2 (aCons (eFrz (oComp [8, 9] (iSeq (eVar 6)) (tgTup 2 (tgCons (tgName 8) (tgCons (tgName 9) tgNil))) (ret true) (eVar 8))) aNil))))
  (sIf (bAnd (asB (eBin oGe (eVar 2) (eVar 5))) (bAnd (asB (eBin oEq (eVar 7) (eFrz (oRng2 (eNeg (eLit (.int 1))) (eBin oSub (eVar 3) (eLit (.int 1))))))) (asB (eBin oEq (eFrz (oComp [8, 9] (iSeq (eVar 6)) (tgTup 2 (tgCons (tgName 8) (tgCons (tgName 9) tgNil))) (asB (eBin oNe (eVar 9) (eBin atD (eBin atD (eVar 6) (eLit (.int 0))) (eLit (.int 1))))) (eLit (.int 1)))) (eFrz (oLst aNil))))))
  (sParR [4, 5] (qS (eBin oAdd (eVar 4) (eFrz (oLst (aCons (eVar 2) aNil)))) (qS (eBin oAdd (eVar 2) (eVar 3)) qNil)))
  sNil))))
  (sRet (eVar 4))))
def F__law_rounds : List Sl → Option FR := fnF 10 b__law_rounds
/-- _law_made -/
def b__law_made : SV :=
  (sSeq (sParR [2, 3] (qS (eBlt bAbs (aCons (eVar 0) aNil)) (qS (eBlt bAbs (aCons (eVar 1) aNil)) qNil)))
  (sSeq (sWhile (asB (eBin oNe (eVar 3) (eLit (.int 0))))
  (sParR [2, 3] (qS (eVar 3) (qS (eBin oMod (eBlt bInt (aCons (eVar 2) aNil)) (eVar 3)) qNil))))
  (sRet (eIf (asB (eBin oGt (eVar 1) (eLit (.int 0)))) (eTup (aCons (eBin oFdiv (eVar 0) (eVar 2)) (aCons (eBin oFdiv (eVar 1) (eVar 2)) aNil))) (eTup (aCons (eBin oFdiv (eNeg (eVar 0)) (eVar 2)) (aCons (eBin oFdiv (eNeg (eVar 1)) (eVar 2)) aNil)))))))
def F__law_made : List Sl → Option FR := fnF 4 b__law_made
/-- _law_any_events -/
def b__law_any_events : SV :=
  (sSeq (sParR [3, 4] (qS (eFrz (oLst aNil)) (qS (eBlt bLen (aCons (eBin atD (eVar 1) (eLit (.int 3))) aNil)) qNil)))
  (sSeq (sWhile (asB (eBin oLt (eBlt bLen (aCons (eVar 3) aNil)) (eVar 2)))
  (sSeq (sSet 5 (eCall F__law_some (rIo 0 (rCons (eFrz (oLst (aCons (eTup (aCons (eLit (.int 1)) (aCons (eLit (.int 1)) aNil))) (aCons (eTup (aCons (eLit (.int 1)) (aCons (eLit (.int 2)) aNil))) (aCons (eTup (aCons (eLit (.int 0)) (aCons (eLit (.int 1)) aNil))) (aCons (eTup (aCons (eLit (.int 3)) (aCons (eLit (.int 1)) aNil))) (aCons (eCall F__law_made (rCons (eCall F__law_roll (rIo 0 (rCons (eLit (.int 30)) rNil))) (rCons (eBin oAdd (eLit (.int 1)) (eCall F__law_roll (rIo 0 (rCons (eLit (.int 6)) rNil)))) rNil))) aNil))))))) rNil))))
  (sSeq (sSetO 6 (oRng2 (eNeg (eLit (.int 1))) (eVar 4)))
  (sSeq (sSetO 7 (oComp [8] (iRng1 (eBin oAdd (eVar 4) (eLit (.int 1)))) (tgName 8) (ret true) (ePop 6 (eCall F__law_roll (rIo 0 (rCons (eLenV 6) rNil))))))
  (sSet 3 (eBin oAdd (eVar 3) (eFrz (oComp [9] (iSeq (eCall F__law_some (rIo 0 (rCons (eFrz (oLst (aCons (eVar 7) (aCons (eVar 7) (aCons (eSl (eVar 7) pNone (pSome (eLit (.int 1)))) (aCons (eBin oAdd (eVar 7) (eSl (eVar 7) pNone (pSome (eLit (.int 1))))) aNil)))))) rNil)))) (tgName 9) (ret true) (eTup (aCons (eVar 9) (aCons (eVar 5) aNil)))))))))))
  (sRet (eBlt bTuple (aCons (eSl (eVar 3) pNone (pSome (eVar 2))) aNil)))))
def F__law_any_events : List Sl → Option FR := fnF 10 b__law_any_events
/-- _law_star -/
def b__law_star : SV :=
  (sSeq (sSet 1 (eFrz (oLst (aCons (eTup (aCons (eLit (.int 0)) (aCons (eLit (.int 0)) aNil))) (aCons (eTup (aCons (eLit (.int 8)) (aCons (eLit (.int 1)) aNil))) (aCons (eTup (aCons (eLit (.int 4)) (aCons (eLit (.int 0)) aNil))) (aCons (eTup (aCons (eLit (.int 1)) (aCons (eLit (.int 8)) aNil))) (aCons (eTup (aCons (eLit (.int 7)) (aCons (eLit (.int 9)) aNil))) aNil))))))))
  (sSeq (sParL [7, 8] (qS (eCall F__law_roll (rIo 0 (rCons (eLit (.int 3)) rNil))) (qS (eCall F__law_some (rIo 0 (rCons (eFrz (oLst (aCons (eLit (.int 2)) (aCons (eLit (.int 3)) (aCons (eLit (.int 3)) (aCons (eLit (.int 3)) aNil)))))) rNil))) qNil)))
  (sSeq (sSet 2 (eBlt bTuple (aCons (eFrz (oComp [10] (iSeq (eSl (eVar 1) (pSome (eVar 7)) (pSome (eBin oAdd (eVar 7) (eVar 8))))) (tgName 10) (ret true) (eBin oAdd (eVar 10) (eTup (aCons (eLit (.str "xy")) aNil))))) aNil)))
  (sSeq (sSet 3 (eBlt bTuple (aCons (eFrz (oComp [11] (iRng1 (eBin oAdd (eLit (.int 1)) (eCall F__law_roll (rIo 0 (rCons (eLit (.int 2)) rNil))))) (tgName 11) (ret true) (eTup (aCons (eBin oAdd (eLit (.int 1)) (eCall F__law_roll (rIo 0 (rCons (eLit (.int 4)) rNil)))) (aCons (eBin oAdd (eLit (.int 1)) (eCall F__law_roll (rIo 0 (rCons (eLit (.int 12)) rNil)))) (aCons (eBin oAdd (eLit (.int 1)) (eCall F__law_roll (rIo 0 (rCons (eLit (.int 12)) rNil)))) aNil)))))) aNil)))
  (sSeq (sSet 4 (eBlt bTuple (aCons (eFrz (oComp [12] (iRng1 (eVar 8)) (tgName 12) (ret true) (eBin oAdd (eStep (eTup (aCons (eVar 12) (aCons (eVar 8) aNil))) (eCall F__law_some (rIo 0 (rCons (eFrz (oLst (aCons (eLit (.int 1)) (aCons (eNeg (eLit (.int 1))) aNil)))) rNil)))) (eTup (aCons (eCall F__law_roll (rIo 0 (rCons (eBlt bLen (aCons (eVar 3) aNil)) rNil))) (aCons (eCall F__law_some (rIo 0 (rCons (eFrz (oLst (aCons (eLit (.int 0)) (aCons (eLit (.int 0)) (aCons (eLit (.int 1)) (aCons (eNeg (eLit (.int 2))) (aCons (eLit (.int 3)) aNil))))))) rNil))) aNil)))))) aNil)))
  (sSeq (sSetO 5 (oComp [9] (iRng1 (eBin oAdd (eLit (.int 1)) (eCall F__law_roll (rIo 0 (rCons (eLit (.int 2)) rNil))))) (tgName 9) (ret true) (eTup (aCons (eBin oSub (eCall F__law_roll (rIo 0 (rCons (eLit (.int 41)) rNil))) (eLit (.int 20))) (aCons (eBin oSub (eCall F__law_roll (rIo 0 (rCons (eLit (.int 41)) rNil))) (eLit (.int 20))) aNil)))))
  (sSeq (sSet 6 (eBlt bTuple (aCons (eFrz (oComp [13] (iSeq (eVar 5)) (tgName 13) (ret true) (eBin oAdd (eBin oMul (eTup (aCons (eTup (aCons (eLit (.int 0)) (aCons (eLit (.int 0)) aNil))) aNil)) (eVar 8)) (eTup (aCons (eIf (asB (eBin oNe (eVar 13) (eTup (aCons (eLit (.int 0)) (aCons (eLit (.int 0)) aNil))))) (eVar 13) (eTup (aCons (eLit (.int 0)) (aCons (eNeg (eLit (.int 9))) aNil)))) aNil))))) aNil)))
  (sRet (eTup (aCons (eVar 3) (aCons (eBin oAdd (eVar 2) (eTup (aCons (eTup (aCons (eLit (.int 4)) (aCons (eLit (.int 4)) (aCons (eLit (.str "")) aNil)))) aNil))) (aCons (eVar 4) (aCons (eVar 6) aNil)))))))))))))
def F__law_star : List Sl → Option FR := fnF 14 b__law_star
/-- _law_cup -/
def b__law_cup : SV :=
  (sSeq (sSet 1 (eBlt bAbs (aCons (eBin atD (eBin oAdd (eFrz (oBlt bList (aCons (eVar 0) aNil))) (eFrz (oLst (aCons (eLit (.int 0)) aNil)))) (eLit (.int 0))) aNil)))
  (sRetO (oLst (aCons (eIf (asB (eBin oGe (eVar 1) (eBin oPow (eLit (.int 10)) (eLit (.int 18))))) (eBin oFdiv (eVar 1) (eLit (.int 97))) (eLit (.int 0))) (aCons (eBin oAdd (eBin oMod (eBlt bInt (aCons (eBin oAdd (eBin oMul (eVar 1) (eLit (.int 313))) (eLit (.int 3203))) aNil)) (eLit (.int 2077503089))) (eLit (.int 193))) aNil)))))
def F__law_cup : List Sl → Option FR := fnF 2 b__law_cup
/-- law -/
def b_law : SV :=
  (sSeq (sSetO 1 (oCall F__law_cup (rCons (eVar 0) rNil)))
  (sSeq (sSet 2 (eCall F__law_star (rIo 1 rNil)))
  (sSeq (sFor (tgName 3) (iRng1 (eLit (.int 4)))
  (sSeq (sSet 5 (eCall F__law_any_events (rIo 1 (rCons (eVar 2) (rCons (eCall F__law_roll (rIo 1 (rCons (eLit (.int 15)) rNil))) rNil)))))
  (sIf (asB (eBin oNe (eBlt bRepr (aCons (eCall F_rounds_in (rCons (eVar 2) (rCons (eVar 5) rNil))) aNil)) (eBlt bRepr (aCons (eBlt bTuple (aCons (eCall F__law_rounds (rCons (eVar 2) (rCons (eVar 5) rNil))) aNil)) aNil))))
  (sRet (eLit (.bl false)))
  sNil)))
  (sSeq (sSet 4 (eBlt bTuple (aCons (eFrz (oComp [6] (iRng2 (eNeg (eLit (.int 1))) (eBlt bLen (aCons (eBin atD (eVar 2) (eLit (.int 3))) aNil))) (tgName 6) (ret true) (eTup (aCons (eVar 6) (aCons (eTup (aCons (eLit (.int 1)) (aCons (eLit (.int 3)) aNil))) aNil))))) aNil)))
  (sSeq (sIf (bOr (asB (eBin oNe (eBlt bRepr (aCons (eCall F_rounds_in (rCons (eVar 2) (rCons (eBin oAdd (eBin oMul (eVar 4) (eLit (.int 2))) (eSl (eVar 4) pNone (pSome (eLit (.int 1))))) rNil))) aNil)) (eBlt bRepr (aCons (eTup (aCons (eLit (.int 0)) (aCons (eBlt bLen (aCons (eVar 4) aNil)) aNil))) aNil)))) (asB (eBin oNe (eCall F_rounds_in (rCons (eVar 2) (rCons (eSl (eVar 4) (pSome (eLit (.int 1))) pNone) rNil))) (eTup aNil))))
  (sRet (eLit (.bl false)))
  sNil)
  (sRet (eCall F__law_refused (rCons (eVar 2) (rCons (eCall F__law_some (rIo 1 (rCons (eFrz (oLst (aCons (eLit .non) (aCons (eFrz (oBlt bList (aCons (eVar 4) aNil))) (aCons (eBin oMul (eVar 4) (eLit (.int 21))) (aCons (eTup (aCons (eTup (aCons (eLit (.int 0)) (aCons (eTup (aCons (eLit (.int 1)) (aCons (eLit (.int 0)) aNil))) aNil))) aNil)) (aCons (eTup (aCons (eTup (aCons (eLit (.bl true)) (aCons (eTup (aCons (eLit (.int 1)) (aCons (eLit (.int 1)) aNil))) aNil))) aNil)) (aCons (eTup (aCons (eTup (aCons (eNeg (eLit (.int 2))) (aCons (eTup (aCons (eLit (.int 1)) (aCons (eLit (.int 1)) aNil))) aNil))) aNil)) aNil)))))))) rNil))) rNil)))))))))
def F_law : List Sl → Option FR := fnF 7 b_law
end
end K53

namespace K53
open G3
theorem whole_int (i a b : Int) : F_is_whole [.sh (.int i), .sh (.int a), .sh (.int b)] = some (.sh (.bl (decide (a ≤ i) && decide (i ≤ b))) [.un, .un, .un]) := by
  by_cases h : a ≤ i <;> by_cases h' : i ≤ b <;> simp [fnF, sSeq, sIf, sRet, sRetO, sNil, sSet, sSetO, sAsg, sExpr, sRaise, sApp, sSetIx, sFor, eAnd, eOr, eNot, eIf, eNeg, negD, asB, bAnd, bOr, bNot, eIsi, isD, tyD, eChain, eBin, eTup, oLst, eFrz, aNil, aCons, eLit, eVar, eIxV, rdV, slD, eLenV, pNone, pSome, eSl, slcD, eBlt, oBlt, eCall, oCall, callF1, callF2, callF3, resF, rNil, rCons, rIo, chkO, put, stSl, tgName, tgNil, tgCons, tgTup, iSeq, iRng1, iRng2, oRng1, oRng2, qNil, qS, qO, sParR, sParL, stAllR, stAll, oAdd, oSub, oLe, oLt, oGe, oGt, bLen, bAbs, bInt, bTuple, bList, bnd, ret, lift, stuck, outsOf, keepIo, atD, L2.atI, L2.ixN, PySem.sizeLine, oEq_int, oNe_int, oEq_pair, oNe_pair, k_ii, k_ib, k_bi, k_bb, k_ni, k_nt, k_tt, k_lt, k_ss, F_is_whole, b_is_whole, h, h']
theorem whole_bl (i : Bool) (a b : Int) : F_is_whole [.sh (.bl i), .sh (.int a), .sh (.int b)] = some (.sh (.bl false) [.un, .un, .un]) := by
  simp [fnF, sSeq, sIf, sRet, sRetO, sNil, sSet, sSetO, sAsg, sExpr, sRaise, sApp, sSetIx, sFor, eAnd, eOr, eNot, eIf, eNeg, negD, asB, bAnd, bOr, bNot, eIsi, isD, tyD, eChain, eBin, eTup, oLst, eFrz, aNil, aCons, eLit, eVar, eIxV, rdV, slD, eLenV, pNone, pSome, eSl, slcD, eBlt, oBlt, eCall, oCall, callF1, callF2, callF3, resF, rNil, rCons, rIo, chkO, put, stSl, tgName, tgNil, tgCons, tgTup, iSeq, iRng1, iRng2, oRng1, oRng2, qNil, qS, qO, sParR, sParL, stAllR, stAll, oAdd, oSub, oLe, oLt, oGe, oGt, bLen, bAbs, bInt, bTuple, bList, bnd, ret, lift, stuck, outsOf, keepIo, atD, L2.atI, L2.ixN, PySem.sizeLine, oEq_int, oNe_int, oEq_pair, oNe_pair, k_ii, k_ib, k_bi, k_bb, k_ni, k_nt, k_tt, k_lt, k_ss, F_is_whole, b_is_whole]
theorem integer_int (i : Int) : F_is_integer [.sh (.int i)] = some (.sh (.bl true) [.un]) := by
  simp [fnF, sSeq, sIf, sRet, sRetO, sNil, sSet, sSetO, sAsg, sExpr, sRaise, sApp, sSetIx, sFor, eAnd, eOr, eNot, eIf, eNeg, negD, asB, bAnd, bOr, bNot, eIsi, isD, tyD, eChain, eBin, eTup, oLst, eFrz, aNil, aCons, eLit, eVar, eIxV, rdV, slD, eLenV, pNone, pSome, eSl, slcD, eBlt, oBlt, eCall, oCall, callF1, callF2, callF3, resF, rNil, rCons, rIo, chkO, put, stSl, tgName, tgNil, tgCons, tgTup, iSeq, iRng1, iRng2, oRng1, oRng2, qNil, qS, qO, sParR, sParL, stAllR, stAll, oAdd, oSub, oLe, oLt, oGe, oGt, bLen, bAbs, bInt, bTuple, bList, bnd, ret, lift, stuck, outsOf, keepIo, atD, L2.atI, L2.ixN, PySem.sizeLine, oEq_int, oNe_int, oEq_pair, oNe_pair, k_ii, k_ib, k_bi, k_bb, k_ni, k_nt, k_tt, k_lt, k_ss, F_is_integer, b_is_integer]
theorem tupOf (ds : List D) (a b : Int) : F_is_tuple_of [.sh (.tup ds), .sh (.int a), .sh (.int b)] = some (.sh (.bl (decide (a ≤ ds.length) && decide ((ds.length : Int) ≤ b))) [.un, .un, .un]) := by
  by_cases h : a ≤ ds.length <;> by_cases h' : (ds.length : Int) ≤ b <;> simp [fnF, sSeq, sIf, sRet, sRetO, sNil, sSet, sSetO, sAsg, sExpr, sRaise, sApp, sSetIx, sFor, eAnd, eOr, eNot, eIf, eNeg, negD, asB, bAnd, bOr, bNot, eIsi, isD, tyD, eChain, eBin, eTup, oLst, eFrz, aNil, aCons, eLit, eVar, eIxV, rdV, slD, eLenV, pNone, pSome, eSl, slcD, eBlt, oBlt, eCall, oCall, callF1, callF2, callF3, resF, rNil, rCons, rIo, chkO, put, stSl, tgName, tgNil, tgCons, tgTup, iSeq, iRng1, iRng2, oRng1, oRng2, qNil, qS, qO, sParR, sParL, stAllR, stAll, oAdd, oSub, oLe, oLt, oGe, oGt, bLen, bAbs, bInt, bTuple, bList, bnd, ret, lift, stuck, outsOf, keepIo, atD, L2.atI, L2.ixN, PySem.sizeLine, oEq_int, oNe_int, oEq_pair, oNe_pair, k_ii, k_ib, k_bi, k_bb, k_ni, k_nt, k_tt, k_lt, k_ss, F_is_tuple_of, b_is_tuple_of, h, h']
theorem tupOf_non (a b : Int) : F_is_tuple_of [.sh .non, .sh (.int a), .sh (.int b)] = some (.sh (.bl false) [.un, .un, .un]) := by
  simp [fnF, sSeq, sIf, sRet, sRetO, sNil, sSet, sSetO, sAsg, sExpr, sRaise, sApp, sSetIx, sFor, eAnd, eOr, eNot, eIf, eNeg, negD, asB, bAnd, bOr, bNot, eIsi, isD, tyD, eChain, eBin, eTup, oLst, eFrz, aNil, aCons, eLit, eVar, eIxV, rdV, slD, eLenV, pNone, pSome, eSl, slcD, eBlt, oBlt, eCall, oCall, callF1, callF2, callF3, resF, rNil, rCons, rIo, chkO, put, stSl, tgName, tgNil, tgCons, tgTup, iSeq, iRng1, iRng2, oRng1, oRng2, qNil, qS, qO, sParR, sParL, stAllR, stAll, oAdd, oSub, oLe, oLt, oGe, oGt, bLen, bAbs, bInt, bTuple, bList, bnd, ret, lift, stuck, outsOf, keepIo, atD, L2.atI, L2.ixN, PySem.sizeLine, oEq_int, oNe_int, oEq_pair, oNe_pair, k_ii, k_ib, k_bi, k_bb, k_ni, k_nt, k_tt, k_lt, k_ss, F_is_tuple_of, b_is_tuple_of]
theorem tupOf_lst (ds : List D) (a b : Int) : F_is_tuple_of [.sh (.lst ds), .sh (.int a), .sh (.int b)] = some (.sh (.bl false) [.un, .un, .un]) := by
  simp [fnF, sSeq, sIf, sRet, sRetO, sNil, sSet, sSetO, sAsg, sExpr, sRaise, sApp, sSetIx, sFor, eAnd, eOr, eNot, eIf, eNeg, negD, asB, bAnd, bOr, bNot, eIsi, isD, tyD, eChain, eBin, eTup, oLst, eFrz, aNil, aCons, eLit, eVar, eIxV, rdV, slD, eLenV, pNone, pSome, eSl, slcD, eBlt, oBlt, eCall, oCall, callF1, callF2, callF3, resF, rNil, rCons, rIo, chkO, put, stSl, tgName, tgNil, tgCons, tgTup, iSeq, iRng1, iRng2, oRng1, oRng2, qNil, qS, qO, sParR, sParL, stAllR, stAll, oAdd, oSub, oLe, oLt, oGe, oGt, bLen, bAbs, bInt, bTuple, bList, bnd, ret, lift, stuck, outsOf, keepIo, atD, L2.atI, L2.ixN, PySem.sizeLine, oEq_int, oNe_int, oEq_pair, oNe_pair, k_ii, k_ib, k_bi, k_bb, k_ni, k_nt, k_tt, k_lt, k_ss, F_is_tuple_of, b_is_tuple_of]
/-! ### the greatest common divisor -/
theorem gcd_loop : ∀ (n x y : Nat), y < n → whF (asB (eBin oNe (eVar 1) (eLit (.int 0)))) (sParR [0, 1] (qS (eVar 1) (qS (eBin oMod (eVar 0) (eVar 1)) qNil))) n [.sh (.int x), .sh (.int y)] = some (.ok .nx [.sh (.int (Nat.gcd x y)), .sh (.int 0)])
  | 0, x, y, h => by omega
  | n + 1, x, y, h => by
    unfold whF
    by_cases hy : y = 0
    · subst hy
      simp [fnF, sSeq, sIf, sRet, sRetO, sNil, sSet, sSetO, sAsg, sExpr, sRaise, sApp, sSetIx, sFor, eAnd, eOr, eNot, eIf, eNeg, negD, asB, bAnd, bOr, bNot, eIsi, isD, tyD, eChain, eBin, eTup, oLst, eFrz, aNil, aCons, eLit, eVar, eIxV, rdV, slD, eLenV, pNone, pSome, eSl, slcD, eBlt, oBlt, eCall, oCall, callF1, callF2, callF3, resF, rNil, rCons, rIo, chkO, put, stSl, tgName, tgNil, tgCons, tgTup, iSeq, iRng1, iRng2, oRng1, oRng2, qNil, qS, qO, sParR, sParL, stAllR, stAll, oAdd, oSub, oLe, oLt, oGe, oGt, bLen, bAbs, bInt, bTuple, bList, bnd, ret, lift, stuck, outsOf, keepIo, atD, L2.atI, L2.ixN, PySem.sizeLine, oEq_int, oNe_int, oEq_pair, oNe_pair, k_ii, k_ib, k_bi, k_bb, k_ni, k_nt, k_tt, k_lt, k_ss]
    · have hp : (0 : Int) < (y : Int) := by omega
      have ih := gcd_loop n y (x % y) (by have := Nat.mod_lt x (Nat.pos_of_ne_zero hy); omega)
      have g : Nat.gcd y (x % y) = Nat.gcd x y := by
        rw [Nat.gcd_comm x y, Nat.gcd_rec y x, Nat.gcd_comm]
      rw [g] at ih
      have t : asB (eBin oNe (eVar 1) (eLit (.int 0))) [.sh (.int x), .sh (.int y)] = some (.ok true [.sh (.int x), .sh (.int y)]) := by simp [fnF, sSeq, sIf, sRet, sRetO, sNil, sSet, sSetO, sAsg, sExpr, sRaise, sApp, sSetIx, sFor, eAnd, eOr, eNot, eIf, eNeg, negD, asB, bAnd, bOr, bNot, eIsi, isD, tyD, eChain, eBin, eTup, oLst, eFrz, aNil, aCons, eLit, eVar, eIxV, rdV, slD, eLenV, pNone, pSome, eSl, slcD, eBlt, oBlt, eCall, oCall, callF1, callF2, callF3, resF, rNil, rCons, rIo, chkO, put, stSl, tgName, tgNil, tgCons, tgTup, iSeq, iRng1, iRng2, oRng1, oRng2, qNil, qS, qO, sParR, sParL, stAllR, stAll, oAdd, oSub, oLe, oLt, oGe, oGt, bLen, bAbs, bInt, bTuple, bList, bnd, ret, lift, stuck, outsOf, keepIo, atD, L2.atI, L2.ixN, PySem.sizeLine, oEq_int, oNe_int, oEq_pair, oNe_pair, k_ii, k_ib, k_bi, k_bb, k_ni, k_nt, k_tt, k_lt, k_ss, hy]
      have s : sParR [0, 1] (qS (eVar 1) (qS (eBin oMod (eVar 0) (eVar 1)) qNil)) [.sh (.int x), .sh (.int y)] = some (.ok .nx [.sh (.int y), .sh (.int ((x % y : Nat) : Int))]) := by
        simp [fnF, sSeq, sIf, sRet, sRetO, sNil, sSet, sSetO, sAsg, sExpr, sRaise, sApp, sSetIx, sFor, eAnd, eOr, eNot, eIf, eNeg, negD, asB, bAnd, bOr, bNot, eIsi, isD, tyD, eChain, eBin, eTup, oLst, eFrz, aNil, aCons, eLit, eVar, eIxV, rdV, slD, eLenV, pNone, pSome, eSl, slcD, eBlt, oBlt, eCall, oCall, callF1, callF2, callF3, resF, rNil, rCons, rIo, chkO, put, stSl, tgName, tgNil, tgCons, tgTup, iSeq, iRng1, iRng2, oRng1, oRng2, qNil, qS, qO, sParR, sParL, stAllR, stAll, oAdd, oSub, oLe, oLt, oGe, oGt, bLen, bAbs, bInt, bTuple, bList, bnd, ret, lift, stuck, outsOf, keepIo, atD, L2.atI, L2.ixN, PySem.sizeLine, oEq_int, oNe_int, oEq_pair, oNe_pair, k_ii, k_ib, k_bi, k_bb, k_ni, k_nt, k_tt, k_lt, k_ss, oMod_pos hp]
      rw [bnd_ok t, if_pos rfl, bnd_ok s]
      exact ih
theorem gcd_F (a b : Int) : F_common_divisor [.sh (.int a), .sh (.int b)] = some (.sh (.int (Int.gcd a b)) [.un, .un]) := by
  have h := sWhile_of (gcd_loop (b.natAbs + 1) a.natAbs b.natAbs (by omega))
  refine fn_rt (env' := [.sh (.int (Int.gcd a b)), .sh (.int 0)]) ?_
  unfold b_common_divisor
  refine (seq_nx (env1 := [.sh (.int a.natAbs), .sh (.int b.natAbs)]) ?_).trans ?_
  · simp [fnF, sSeq, sIf, sRet, sRetO, sNil, sSet, sSetO, sAsg, sExpr, sRaise, sApp, sSetIx, sFor, eAnd, eOr, eNot, eIf, eNeg, negD, asB, bAnd, bOr, bNot, eIsi, isD, tyD, eChain, eBin, eTup, oLst, eFrz, aNil, aCons, eLit, eVar, eIxV, rdV, slD, eLenV, pNone, pSome, eSl, slcD, eBlt, oBlt, eCall, oCall, callF1, callF2, callF3, resF, rNil, rCons, rIo, chkO, put, stSl, tgName, tgNil, tgCons, tgTup, iSeq, iRng1, iRng2, oRng1, oRng2, qNil, qS, qO, sParR, sParL, stAllR, stAll, oAdd, oSub, oLe, oLt, oGe, oGt, bLen, bAbs, bInt, bTuple, bList, bnd, ret, lift, stuck, outsOf, keepIo, atD, L2.atI, L2.ixN, PySem.sizeLine, oEq_int, oNe_int, oEq_pair, oNe_pair, k_ii, k_ib, k_bi, k_bb, k_ni, k_nt, k_tt, k_lt, k_ss, abs_nat]
  · rw [seq_nx h]
    exact ret_of rfl
/-! ### ratios -/
theorem ratio_F (n d : Int) : F_fits_ratio [.sh (.tup [.int n, .int d])] = some (.sh (.bl (decide (1 ≤ d) && decide (((Int.gcd n d : Nat) : Int) = 1))) [.un]) := by
  by_cases h : 1 ≤ d <;> by_cases h' : ((Int.gcd n d : Nat) : Int) = 1 <;> simp [fnF, sSeq, sIf, sRet, sRetO, sNil, sSet, sSetO, sAsg, sExpr, sRaise, sApp, sSetIx, sFor, eAnd, eOr, eNot, eIf, eNeg, negD, asB, bAnd, bOr, bNot, eIsi, isD, tyD, eChain, eBin, eTup, oLst, eFrz, aNil, aCons, eLit, eVar, eIxV, rdV, slD, eLenV, pNone, pSome, eSl, slcD, eBlt, oBlt, eCall, oCall, callF1, callF2, callF3, resF, rNil, rCons, rIo, chkO, put, stSl, tgName, tgNil, tgCons, tgTup, iSeq, iRng1, iRng2, oRng1, oRng2, qNil, qS, qO, sParR, sParL, stAllR, stAll, oAdd, oSub, oLe, oLt, oGe, oGt, bLen, bAbs, bInt, bTuple, bList, bnd, ret, lift, stuck, outsOf, keepIo, atD, L2.atI, L2.ixN, PySem.sizeLine, oEq_int, oNe_int, oEq_pair, oNe_pair, k_ii, k_ib, k_bi, k_bb, k_ni, k_nt, k_tt, k_lt, k_ss, F_fits_ratio, b_fits_ratio, tupOf, integer_int, gcd_F, h, h']
/-! ### the cup -/
def rollV (a b m : Int) : Int := if 0 < a then a % m else ((((b * 31103 + 8059) % 2147483399) * ((b * 31103 + 8059) % 2147483399 + 263)) % 2147483587 / 857) % m
def rollA (a m : Int) : Int := if 0 < a then a / m else a
def rollB (a b : Int) : Int := if 0 < a then b else (b * 31103 + 8059) % 2147483399
theorem roll_F (a b m : Int) (hm : 0 < m) (hm2 : m.natAbs < 2 ^ 64) : F__law_roll [.ow true [.int a, .int b], .sh (.int m)] = some (.sh (.int (rollV a b m)) [.ow true [.int (rollA a m), .int (rollB a b)], .un]) := by
  unfold rollV rollA rollB
  by_cases h : 0 < a
  · simp [fnF, sSeq, sIf, sRet, sRetO, sNil, sSet, sSetO, sAsg, sExpr, sRaise, sApp, sSetIx, sFor, eAnd, eOr, eNot, eIf, eNeg, negD, asB, bAnd, bOr, bNot, eIsi, isD, tyD, eChain, eBin, eTup, oLst, eFrz, aNil, aCons, eLit, eVar, eIxV, rdV, slD, eLenV, pNone, pSome, eSl, slcD, eBlt, oBlt, eCall, oCall, callF1, callF2, callF3, resF, rNil, rCons, rIo, chkO, put, stSl, tgName, tgNil, tgCons, tgTup, iSeq, iRng1, iRng2, oRng1, oRng2, qNil, qS, qO, sParR, sParL, stAllR, stAll, oAdd, oSub, oLe, oLt, oGe, oGt, bLen, bAbs, bInt, bTuple, bList, bnd, ret, lift, stuck, outsOf, keepIo, atD, L2.atI, L2.ixN, PySem.sizeLine, oEq_int, oNe_int, oEq_pair, oNe_pair, k_ii, k_ib, k_bi, k_bb, k_ni, k_nt, k_tt, k_lt, k_ss, F__law_roll, b__law_roll, h, wrV, setAt, oMod_pos hm, oFdiv_pos hm hm2]
  · have e1 : oMul (.int b) (.int 31103) = some (.int (b * 31103)) := oMul_small (by decide)
    have e2 : ∀ c : Int, oMod (.int c) (.int 2147483399) = some (.int (c % 2147483399)) := fun c => oMod_pos (by omega)
    have e3 : ∀ c : Int, oMod (.int c) (.int 2147483587) = some (.int (c % 2147483587)) := fun c => oMod_pos (by omega)
    have e4 : ∀ c : Int, oFdiv (.int c) (.int 857) = some (.int (c / 857)) := fun c => oFdiv_pos (by omega) (by decide)
    have e5 : oMul (.int ((b * 31103 + 8059) % 2147483399)) (.int ((b * 31103 + 8059) % 2147483399 + 263)) = some (.int (((b * 31103 + 8059) % 2147483399) * ((b * 31103 + 8059) % 2147483399 + 263))) := oMul_small (by omega)
    simp [fnF, sSeq, sIf, sRet, sRetO, sNil, sSet, sSetO, sAsg, sExpr, sRaise, sApp, sSetIx, sFor, eAnd, eOr, eNot, eIf, eNeg, negD, asB, bAnd, bOr, bNot, eIsi, isD, tyD, eChain, eBin, eTup, oLst, eFrz, aNil, aCons, eLit, eVar, eIxV, rdV, slD, eLenV, pNone, pSome, eSl, slcD, eBlt, oBlt, eCall, oCall, callF1, callF2, callF3, resF, rNil, rCons, rIo, chkO, put, stSl, tgName, tgNil, tgCons, tgTup, iSeq, iRng1, iRng2, oRng1, oRng2, qNil, qS, qO, sParR, sParL, stAllR, stAll, oAdd, oSub, oLe, oLt, oGe, oGt, bLen, bAbs, bInt, bTuple, bList, bnd, ret, lift, stuck, outsOf, keepIo, atD, L2.atI, L2.ixN, PySem.sizeLine, oEq_int, oNe_int, oEq_pair, oNe_pair, k_ii, k_ib, k_bi, k_bb, k_ni, k_nt, k_tt, k_lt, k_ss, F__law_roll, b__law_roll, h, wrV, setAt, oMod_pos hm, e1, e2, e3, e4, e5]
theorem roll_lt {a b m : Int} (hm : 0 < m) : 0 ≤ rollV a b m ∧ rollV a b m < m := by
  unfold rollV
  split <;> exact ⟨Int.emod_nonneg _ (by omega), Int.emod_lt_of_pos _ hm⟩
theorem atI_get {ds : List D} {v : Int} (h0 : 0 ≤ v) (h1 : v < ds.length) : ∃ d, d ∈ ds ∧ L2.atI ds v = some d ∧ ds[v.toNat]? = some d := by
  have hl : v.toNat < ds.length := by omega
  refine ⟨ds[v.toNat], List.getElem_mem hl, ?_, List.getElem?_eq_getElem hl⟩
  unfold L2.atI L2.ixN
  rw [if_pos h0, if_pos h1]
  exact List.getElem?_eq_getElem hl
/-- a draw: any cup gives a number below m and a cup -/
theorem roll_E (a b m : Int) (hm : 0 < m) (hm2 : m < 2 ^ 60) : ∃ v a' b', 0 ≤ v ∧ v < m ∧ F__law_roll [.ow true [.int a, .int b], .sh (.int m)] = some (.sh (.int v) [.ow true [.int a', .int b'], .un]) :=
  ⟨_, _, _, (roll_lt hm).1, (roll_lt hm).2, roll_F a b m hm (by omega)⟩
theorem some_E (a b : Int) (ds : List D) (hd : ds ≠ []) (hl : ds.length < 2 ^ 60) : ∃ d a' b', d ∈ ds ∧ F__law_some [.ow true [.int a, .int b], .sh (.lst ds)] = some (.sh d [.ow true [.int a', .int b'], .un]) := by
  have hp : 0 < ds.length := List.length_pos_iff.mpr hd
  obtain ⟨v, a', b', h0, h1, h2⟩ := roll_E a b ds.length (by omega) (by omega)
  obtain ⟨d, hm, he, _⟩ := atI_get h0 h1
  refine ⟨d, a', b', hm, fn_rt (env' := [.ow true [.int a', .int b'], .sh (.lst ds)]) (ret_of ?_)⟩
  refine bin_of (env1 := [.ow true [.int a, .int b], .sh (.lst ds)]) rfl (eCall_io (i := 0) (k := true) [.int ds.length] (env1 := [.ow true [.int a, .int b], .sh (.lst ds)]) (rio_of (k := true) rfl (rcons_of (blt_of (acons_of rfl rfl) rfl) rfl)) rfl h2) he
/-! ### ratios made -/
theorem made_loop : ∀ (n x y : Nat) (s t : Sl), y < n → whF (asB (eBin oNe (eVar 3) (eLit (.int 0)))) (sParR [2, 3] (qS (eVar 3) (qS (eBin oMod (eBlt bInt (aCons (eVar 2) aNil)) (eVar 3)) qNil))) n [s, t, .sh (.int x), .sh (.int y)] = some (.ok .nx [s, t, .sh (.int (Nat.gcd x y)), .sh (.int 0)])
  | 0, x, y, s, t, h => by omega
  | n + 1, x, y, s, t, h => by
    unfold whF
    by_cases hy : y = 0
    · subst hy
      simp [fnF, sSeq, sIf, sRet, sRetO, sNil, sSet, sSetO, sAsg, sExpr, sRaise, sApp, sSetIx, sFor, eAnd, eOr, eNot, eIf, eNeg, negD, asB, bAnd, bOr, bNot, eIsi, isD, tyD, eChain, eBin, eTup, oLst, eFrz, aNil, aCons, eLit, eVar, eIxV, rdV, slD, eLenV, pNone, pSome, eSl, slcD, eBlt, oBlt, eCall, oCall, callF1, callF2, callF3, resF, rNil, rCons, rIo, chkO, put, stSl, tgName, tgNil, tgCons, tgTup, iSeq, iRng1, iRng2, oRng1, oRng2, qNil, qS, qO, sParR, sParL, stAllR, stAll, oAdd, oSub, oLe, oLt, oGe, oGt, bLen, bAbs, bInt, bTuple, bList, bnd, ret, lift, stuck, outsOf, keepIo, atD, L2.atI, L2.ixN, PySem.sizeLine, oEq_int, oNe_int, oEq_pair, oNe_pair, k_ii, k_ib, k_bi, k_bb, k_ni, k_nt, k_tt, k_lt, k_ss]
    · have hp : (0 : Int) < (y : Int) := by omega
      have ih := made_loop n y (x % y) s t (by have := Nat.mod_lt x (Nat.pos_of_ne_zero hy); omega)
      have g : Nat.gcd y (x % y) = Nat.gcd x y := by
        rw [Nat.gcd_comm x y, Nat.gcd_rec y x, Nat.gcd_comm]
      rw [g] at ih
      have t1 : asB (eBin oNe (eVar 3) (eLit (.int 0))) [s, t, .sh (.int x), .sh (.int y)] = some (.ok true [s, t, .sh (.int x), .sh (.int y)]) := by simp [fnF, sSeq, sIf, sRet, sRetO, sNil, sSet, sSetO, sAsg, sExpr, sRaise, sApp, sSetIx, sFor, eAnd, eOr, eNot, eIf, eNeg, negD, asB, bAnd, bOr, bNot, eIsi, isD, tyD, eChain, eBin, eTup, oLst, eFrz, aNil, aCons, eLit, eVar, eIxV, rdV, slD, eLenV, pNone, pSome, eSl, slcD, eBlt, oBlt, eCall, oCall, callF1, callF2, callF3, resF, rNil, rCons, rIo, chkO, put, stSl, tgName, tgNil, tgCons, tgTup, iSeq, iRng1, iRng2, oRng1, oRng2, qNil, qS, qO, sParR, sParL, stAllR, stAll, oAdd, oSub, oLe, oLt, oGe, oGt, bLen, bAbs, bInt, bTuple, bList, bnd, ret, lift, stuck, outsOf, keepIo, atD, L2.atI, L2.ixN, PySem.sizeLine, oEq_int, oNe_int, oEq_pair, oNe_pair, k_ii, k_ib, k_bi, k_bb, k_ni, k_nt, k_tt, k_lt, k_ss, hy]
      have s1 : sParR [2, 3] (qS (eVar 3) (qS (eBin oMod (eBlt bInt (aCons (eVar 2) aNil)) (eVar 3)) qNil)) [s, t, .sh (.int x), .sh (.int y)] = some (.ok .nx [s, t, .sh (.int y), .sh (.int ((x % y : Nat) : Int))]) := by
        simp [fnF, sSeq, sIf, sRet, sRetO, sNil, sSet, sSetO, sAsg, sExpr, sRaise, sApp, sSetIx, sFor, eAnd, eOr, eNot, eIf, eNeg, negD, asB, bAnd, bOr, bNot, eIsi, isD, tyD, eChain, eBin, eTup, oLst, eFrz, aNil, aCons, eLit, eVar, eIxV, rdV, slD, eLenV, pNone, pSome, eSl, slcD, eBlt, oBlt, eCall, oCall, callF1, callF2, callF3, resF, rNil, rCons, rIo, chkO, put, stSl, tgName, tgNil, tgCons, tgTup, iSeq, iRng1, iRng2, oRng1, oRng2, qNil, qS, qO, sParR, sParL, stAllR, stAll, oAdd, oSub, oLe, oLt, oGe, oGt, bLen, bAbs, bInt, bTuple, bList, bnd, ret, lift, stuck, outsOf, keepIo, atD, L2.atI, L2.ixN, PySem.sizeLine, oEq_int, oNe_int, oEq_pair, oNe_pair, k_ii, k_ib, k_bi, k_bb, k_ni, k_nt, k_tt, k_lt, k_ss, oMod_pos hp]
      rw [bnd_ok t1, if_pos rfl, bnd_ok s1]
      exact ih
theorem made_F (a b : Int) (hb : 0 < b) (hb2 : b < 2 ^ 60) : F__law_made [.sh (.int a), .sh (.int b)] = some (.sh (.tup [.int (a / Int.gcd a b), .int (b / Int.gcd a b)]) [.un, .un]) := by
  have h := sWhile_of (made_loop (b.natAbs + 1) a.natAbs b.natAbs (.sh (.int a)) (.sh (.int b)) (by omega))
  have g0 : 0 < Int.gcd a b := Int.gcd_pos_of_ne_zero_right a (by omega)
  have g1 : (0 : Int) < (Int.gcd a b : Nat) := by omega
  have g2 : ((Int.gcd a b : Nat) : Int).natAbs < 2 ^ 64 := by
    have : Int.gcd a b ≤ b.natAbs := Nat.gcd_le_right _ (by omega)
    omega
  refine fn_rt (env' := [.sh (.int a), .sh (.int b), .sh (.int (Int.gcd a b)), .sh (.int 0)]) ?_
  unfold b__law_made
  refine (seq_nx (env1 := [.sh (.int a), .sh (.int b), .sh (.int a.natAbs), .sh (.int b.natAbs)]) ?_).trans ?_
  · simp [fnF, sSeq, sIf, sRet, sRetO, sNil, sSet, sSetO, sAsg, sExpr, sRaise, sApp, sSetIx, sFor, eAnd, eOr, eNot, eIf, eNeg, negD, asB, bAnd, bOr, bNot, eIsi, isD, tyD, eChain, eBin, eTup, oLst, eFrz, aNil, aCons, eLit, eVar, eIxV, rdV, slD, eLenV, pNone, pSome, eSl, slcD, eBlt, oBlt, eCall, oCall, callF1, callF2, callF3, resF, rNil, rCons, rIo, chkO, put, stSl, tgName, tgNil, tgCons, tgTup, iSeq, iRng1, iRng2, oRng1, oRng2, qNil, qS, qO, sParR, sParL, stAllR, stAll, oAdd, oSub, oLe, oLt, oGe, oGt, bLen, bAbs, bInt, bTuple, bList, bnd, ret, lift, stuck, outsOf, keepIo, atD, L2.atI, L2.ixN, PySem.sizeLine, oEq_int, oNe_int, oEq_pair, oNe_pair, k_ii, k_ib, k_bi, k_bb, k_ni, k_nt, k_tt, k_lt, k_ss, abs_nat]
  · rw [seq_nx h]
    refine ret_of ?_
    have e1 := oFdiv_pos (i := a) g1 g2
    have e2 := oFdiv_pos (i := b) g1 g2
    have hg : ((Nat.gcd a.natAbs b.natAbs : Nat) : Int) = (Int.gcd a b : Nat) := rfl
    rw [hg]
    simp [fnF, sSeq, sIf, sRet, sRetO, sNil, sSet, sSetO, sAsg, sExpr, sRaise, sApp, sSetIx, sFor, eAnd, eOr, eNot, eIf, eNeg, negD, asB, bAnd, bOr, bNot, eIsi, isD, tyD, eChain, eBin, eTup, oLst, eFrz, aNil, aCons, eLit, eVar, eIxV, rdV, slD, eLenV, pNone, pSome, eSl, slcD, eBlt, oBlt, eCall, oCall, callF1, callF2, callF3, resF, rNil, rCons, rIo, chkO, put, stSl, tgName, tgNil, tgCons, tgTup, iSeq, iRng1, iRng2, oRng1, oRng2, qNil, qS, qO, sParR, sParL, stAllR, stAll, oAdd, oSub, oLe, oLt, oGe, oGt, bLen, bAbs, bInt, bTuple, bList, bnd, ret, lift, stuck, outsOf, keepIo, atD, L2.atI, L2.ixN, PySem.sizeLine, oEq_int, oNe_int, oEq_pair, oNe_pair, k_ii, k_ib, k_bi, k_bb, k_ni, k_nt, k_tt, k_lt, k_ss, e1, e2, hb]
end K53

namespace K53
open G3
/-! ### frames with their cases, events -/
/-- a frame as far as the rounds look at it -/
structure Fr (fr : D) (nc : Nat) : Prop where
  sh : ∃ (a b c : D) (cs : List D), fr = .tup [a, b, c, .tup cs] ∧ cs.length = nc
  few : nc ≤ 4
  fit : F_fits_frame [.sh fr] = some (.sh (.bl true) [.un])
abbrev Ev : Type := Int × Int × Int
def evD (e : Ev) : D := .tup [.int e.1, .tup [.int e.2.1, .int e.2.2]]
def evs (es : List Ev) : D := .tup (es.map evD)
def rgI (lo : Int) (n : Nat) : List Int := (List.range n).map fun i => lo + (i : Nat)
theorem rgD_eq (lo : Int) (n : Nat) : rgD lo n = (rgI lo n).map D.int := by
  unfold rgD rgI
  rw [List.map_map]; rfl
theorem cases_F {fr : D} {nc : Nat} (h : Fr fr nc) : F_all_cases [.sh fr] = some (.sh (.lst ((rgI (-1) (nc + 1)).map D.int)) [.un]) := by
  obtain ⟨a, b, c, cs, rfl, rfl⟩ := h.sh
  have hf := h.few
  have e : rg24 (-1) cs.length = true := rg24_of (by omega) (by omega) (by omega) (by omega)
  have e2 : ((cs.length : Int) - -1).toNat = cs.length + 1 := by omega
  refine fn_rt (env' := [.sh (.tup [a, b, c, .tup cs])]) (ret_of (frz_of ?_))
  have s1 : eNeg (eLit (.int 1)) [.sh (.tup [a, b, c, .tup cs])] = some (.ok (.int (-1)) [.sh (.tup [a, b, c, .tup cs])]) := rfl
  have s2 : eBlt bLen (aCons (eBin atD (eVar 0) (eLit (.int 3))) aNil) [.sh (.tup [a, b, c, .tup cs])] = some (.ok (.int cs.length) [.sh (.tup [a, b, c, .tup cs])]) := rfl
  unfold oRng2
  rw [show [Sl.sh (D.tup [a, b, c, D.tup cs])] ++ List.replicate (1 - [Sl.sh (D.tup [a, b, c, D.tup cs])].length) Sl.un = [Sl.sh (D.tup [a, b, c, D.tup cs])] from rfl, bnd_ok s1, bnd_ok s2]
  show (if rg24 (-1) cs.length = true then ret (rgD (-1) ((cs.length : Int) - -1).toNat) else stuck) _ = _
  rw [if_pos e, e2, rgD_eq]
  rfl
def sameB (es : List Ev) : Bool := match es with
  | [] => true
  | e :: r => (e :: r).all fun x => decide (x.2 = e.2)
def roundB (nc : Nat) (es : List Ev) : Bool := sameB es && decide (sortI (es.map (·.1)) = rgI (-1) (nc + 1))
theorem round_F {fr : D} {nc : Nat} (h : Fr fr nc) (e : Ev) (r : List Ev) (hz : r.length < 1000) : F_is_round [.sh fr, .sh (evs (e :: r))] = some (.sh (.bl (roundB nc (e :: r))) [.un, .un]) := by
  have hs : ∀ (x y : Sl), iSeq (eVar 1) [.sh fr, .sh (evs (e :: r)), x, y] = some (.ok ((e :: r).map evD) [.sh fr, .sh (evs (e :: r)), x, y]) := fun x y => seqT_of rfl
  have hl : (e :: r).length ≤ PySem.sizeLine := by
    show r.length + 1 ≤ 2 ^ 24
    omega
  have c1 : oComp [2, 3] (iSeq (eVar 1)) (tgTup 2 (tgCons (tgName 2) (tgCons (tgName 3) tgNil))) (ret true) (eBin oNe (eVar 3) (eBin atD (eBin atD (eVar 1) (eLit (.int 0))) (eLit (.int 1)))) [.sh fr, .sh (evs (e :: r)), .un, .un]
      = some (.ok (((e :: r).filter fun _ => true).map fun x => .bl (!decide (x.2 = e.2))) [.sh fr, .sh (evs (e :: r)), .un, .un]) := by
    refine comp2 (fun x : Ev => .int x.1) (fun x : Ev => .tup [.int x.2.1, .int x.2.2]) (fun _ => true) _ (hs .un .un) rfl rfl (by simp) (by simp) (by decide) hl fun x hx => ⟨rfl, fun _ => ?_⟩
    have e1 : decide (x.2 = e.2) = decide (x.2.1 = e.2.1 ∧ x.2.2 = e.2.2) := by
      by_cases q : x.2 = e.2
      · rw [q]; simp
      · rw [decide_eq_false q, decide_eq_false]
        exact fun z => q (Prod.ext z.1 z.2)
    refine bin_of rfl (bin_of (bin_of (a := evs (e :: r)) (b := .int 0) (c := evD e) rfl rfl ?_) rfl (c := .tup [.int e.2.1, .int e.2.2]) rfl) ?_
    · simp [fnF, sSeq, sIf, sRet, sRetO, sNil, sSet, sSetO, sAsg, sExpr, sRaise, sApp, sSetIx, sFor, eAnd, eOr, eNot, eIf, eNeg, negD, asB, bAnd, bOr, bNot, eIsi, isD, tyD, eChain, eBin, eTup, oLst, eFrz, aNil, aCons, eLit, eVar, eIxV, rdV, slD, eLenV, pNone, pSome, eSl, slcD, eBlt, oBlt, eCall, oCall, callF1, callF2, callF3, resF, rNil, rCons, rIo, chkO, put, stSl, tgName, tgNil, tgCons, tgTup, iSeq, iRng1, iRng2, oRng1, oRng2, qNil, qS, qO, sParR, sParL, stAllR, stAll, oAdd, oSub, oLe, oLt, oGe, oGt, bLen, bAbs, bInt, bTuple, bList, bnd, ret, lift, stuck, outsOf, keepIo, atD, L2.atI, L2.ixN, PySem.sizeLine, oEq_int, oNe_int, oEq_pair, oNe_pair, k_ii, k_ib, k_bi, k_bb, k_ni, k_nt, k_tt, k_lt, k_ss, evs, evD]
    · rw [e1]; exact oNe_pair _ _ _ _
  have c2 : oComp [2, 3] (iSeq (eVar 1)) (tgTup 2 (tgCons (tgName 2) (tgCons (tgName 3) tgNil))) (ret true) (eVar 2) [.sh fr, .sh (evs (e :: r)), .un, .un]
      = some (.ok (((e :: r).filter fun _ => true).map fun x => .int x.1) [.sh fr, .sh (evs (e :: r)), .un, .un]) :=
    comp2 (fun x : Ev => .int x.1) (fun x : Ev => .tup [.int x.2.1, .int x.2.2]) (fun _ => true) _ (hs .un .un) rfl rfl (by simp) (by simp) (by decide) hl fun x hx => ⟨rfl, fun _ => rfl⟩
  have ft : (e :: r).filter (fun _ => true) = e :: r := List.filter_eq_self.mpr fun _ _ => rfl
  rw [ft] at c1 c2
  have an : bAny [.lst ((e :: r).map fun x => D.bl (!decide (x.2 = e.2)))] = some (.bl (!sameB (e :: r))) := by
    have e1 : (e :: r).map (fun x => D.bl (!decide (x.2 = e.2))) = ((e :: r).map fun x => !decide (x.2 = e.2)).map D.bl := by rw [List.map_map]; rfl
    show (blsD ((e :: r).map fun x => D.bl (!decide (x.2 = e.2)))).map _ = _
    rw [e1, blsD_map]
    show some (D.bl (((e :: r).map fun x => !decide (x.2 = e.2)).any _root_.id)) = _
    rw [List.any_map]
    show some (D.bl ((e :: r).any fun x => !decide (x.2 = e.2))) = some (.bl (!((e :: r).all fun x => decide (x.2 = e.2))))
    rw [List.not_all_eq_any_not]
  refine fn_rt (env' := [.sh fr, .sh (evs (e :: r)), .un, .un]) ?_
  unfold b_is_round
  have t1 := asB_bl _ _ _ _ (blt_of (op := bAny) (acons_of (frz_of c1) anil_of) an)
  cases hS : sameB (e :: r) with
  | false =>
    rw [hS] at t1
    refine (seq_rt (w := .sh (.bl false)) (env1 := [.sh fr, .sh (evs (e :: r)), .un, .un]) ((if_t t1).trans rfl)).trans ?_
    unfold roundB; rw [hS]; rfl
  | true =>
    rw [hS] at t1
    refine (seq_nx ((if_f t1).trans rfl)).trans ?_
    refine ret_of (bin_of (frz_of (oblt_of (acons_of (frz_of c2) anil_of) (c := (sortI ((e :: r).map (·.1))).map D.int) ?_)) (eCall_sh [fr] (rcons_of rfl rfl) (cases_F h)) ?_)
    · have e1 : (e :: r).map (fun x => D.int x.1) = ((e :: r).map (·.1)).map D.int := by rw [List.map_map]; rfl
      show (intsD ((e :: r).map fun x => D.int x.1)).map _ = _
      rw [e1, intsD_map]; rfl
    · rw [oEq_ints]
      unfold roundB
      rw [hS]; rfl
end K53
namespace K53
open G3
/-! ### rounds_of -/
theorem cutD_mid {α : Type} (xs : List α) {a m : Nat} (h : a + m ≤ xs.length) : cutD xs (some (a : Int)) (some ((a : Int) + (m : Int))) = (xs.drop a).take m := by
  unfold cutD
  have e1 : HT.sIx xs.length 0 (some (a : Int)) = a := by rw [HT.sIx_nat]; omega
  have e2 : HT.sIx xs.length xs.length (some ((a : Int) + (m : Int))) = a + m := by
    rw [show ((a : Int) + (m : Int)) = ((a + m : Nat) : Int) by omega, HT.sIx_nat]; omega
  rw [e1, e2]
  congr 1
  omega
def rowE (es : List Ev) (at' m : Nat) : List Ev := (es.drop at').take m
def rds (nc : Nat) (es : List Ev) : Nat → Nat → List Int
  | 0, _ => []
  | n + 1, p => if p + (nc + 1) ≤ es.length then (if roundB nc (rowE es p (nc + 1)) = true then (p : Int) :: rds nc es n (p + (nc + 1)) else rds nc es n (p + 1)) else []
def envR (fr : D) (es : List Ev) (fo : List Int) (p nc : Nat) : List Sl := [.sh fr, .sh (evs es), .ow false (fo.map D.int), .sh (.int p), .sh (.int ((nc : Int) + 1))]
theorem app_of {i : Nat} {f : EV D} {env env1 env2 : List Sl} {k : Bool} {ds ds1 : List D} {d : D} (h0 : env[i]? = some (.ow k ds)) (h1 : f env = some (.ok d env1)) (h2 : env1[i]? = some (.ow k ds1)) (hz : ds1.length < PySem.sizeLine) (h3 : env2 = env1.set i (.ow k (ds1 ++ [d]))) : sApp i f env = some (.ok .nx env2) := by
  have c : chkO i env = some (.ok () env) := by unfold chkO; rw [h0]
  have w : wrV i (fun ds => if ds.length < PySem.sizeLine then some (ds ++ [d]) else none) env1 = some env2 := by
    unfold wrV
    rw [h2]
    show (if ds1.length < PySem.sizeLine then some (ds1 ++ [d]) else none).map _ = _
    rw [if_pos hz, h3]; rfl
  have hp : put (wrV i (fun ds => if ds.length < PySem.sizeLine then some (ds ++ [d]) else none)) env1 = some (.ok () env2) := by unfold put; rw [w]
  unfold sApp
  rw [bnd_ok c, bnd_ok h1, bnd_ok hp]; rfl
theorem add_int (i j : Int) : oAdd (.int i) (.int j) = some (.int (i + j)) := rfl
theorem sl_tup {f : EV D} {l u : EV (Option Int)} {env env1 env2 env3 : List Sl} {ds : List D} {lo hi : Option Int} (h : f env = some (.ok (.tup ds) env1)) (h1 : l env1 = some (.ok lo env2)) (h2 : u env2 = some (.ok hi env3)) : eSl f l u env = some (.ok (.tup (cutD ds lo hi)) env3) := by
  unfold eSl; rw [bnd_ok h, bnd_ok h1, bnd_ok h2]; rfl
theorem pSome_of {f : EV D} {env env1 : List Sl} {i : Int} (h : f env = some (.ok (.int i) env1)) : pSome f env = some (.ok (some i) env1) := by unfold pSome; rw [bnd_ok h]; rfl
theorem rds_loop {fr : D} {nc : Nat} (h : Fr fr nc) (es : List Ev) (hz : es.length < 900) : ∀ (n p : Nat) (fo : List Int), es.length < p + n → fo.length + n < 5000 →
    ∃ p', whF (asB (eBin oLe (eBin oAdd (eVar 3) (eVar 4)) (eBlt bLen (aCons (eVar 1) aNil)))) (sIf (asB (eCall F_is_round (rCons (eVar 0) (rCons (eSl (eVar 1) (pSome (eVar 3)) (pSome (eBin oAdd (eVar 3) (eVar 4)))) rNil)))) (sSeq (sApp 2 (eVar 3)) (sSet 3 (eBin oAdd (eVar 3) (eVar 4)))) (sSet 3 (eBin oAdd (eVar 3) (eLit (.int 1)))))
      n (envR fr es fo p nc) = some (.ok .nx (envR fr es (fo ++ rds nc es n p) p' nc)) ∨ n = 0
  | 0, p, fo, _, _ => ⟨0, .inr rfl⟩
  | n + 1, p, fo, hn, hf => by
    have t : asB (eBin oLe (eBin oAdd (eVar 3) (eVar 4)) (eBlt bLen (aCons (eVar 1) aNil))) (envR fr es fo p nc) = some (.ok (decide (p + (nc + 1) ≤ es.length)) (envR fr es fo p nc)) := by
      refine asB_bl _ _ _ _ (bin_of (bin_of rfl rfl (add_int _ _)) (blt_of (acons_of rfl anil_of) (c := .int es.length) ?_) ?_)
      · show some (D.int ((es.map evD).length : Nat)) = _
        rw [List.length_map]
      · show some (D.bl (decide ((p : Int) + ((nc : Int) + 1) ≤ (es.length : Int)))) = _
        congr 2
        exact decide_eq_decide.mpr (by omega)
    unfold whF
    rw [bnd_ok t]
    unfold rds
    by_cases hc : p + (nc + 1) ≤ es.length
    · rw [decide_eq_true hc, if_pos rfl, if_pos hc]
      have hrow : ∃ e r, rowE es p (nc + 1) = e :: r ∧ r.length < 1000 := by
        have hl : (rowE es p (nc + 1)).length = nc + 1 := by
          unfold rowE; rw [List.length_take, List.length_drop]; omega
        cases hr : rowE es p (nc + 1) with
        | nil => rw [hr] at hl; simp at hl
        | cons e r => rw [hr] at hl; exact ⟨e, r, rfl, by simp at hl; omega⟩
      obtain ⟨e, r, er, hr⟩ := hrow
      have sl : eSl (eVar 1) (pSome (eVar 3)) (pSome (eBin oAdd (eVar 3) (eVar 4))) (envR fr es fo p nc) = some (.ok (evs (e :: r)) (envR fr es fo p nc)) := by
        refine (sl_tup (ds := es.map evD) (lo := some (p : Int)) (hi := some ((p : Int) + ((nc : Int) + 1))) rfl (pSome_of rfl) (pSome_of (bin_of rfl rfl (add_int _ _)))).trans ?_
        have e1 : cutD (es.map evD) (some (p : Int)) (some ((p : Int) + ((nc : Int) + 1))) = (e :: r).map evD := by
          rw [show ((nc : Int) + 1) = ((nc + 1 : Nat) : Int) by omega, cutD_mid _ (by rw [List.length_map]; exact hc), ← er]
          unfold rowE
          rw [List.map_take, List.map_drop]
        rw [e1]; rfl
      have tc : asB (eCall F_is_round (rCons (eVar 0) (rCons (eSl (eVar 1) (pSome (eVar 3)) (pSome (eBin oAdd (eVar 3) (eVar 4)))) rNil))) (envR fr es fo p nc) = some (.ok (roundB nc (e :: r)) (envR fr es fo p nc)) :=
        asB_bl _ _ _ _ (eCall_sh [fr, evs (e :: r)] (rcons_of rfl (rcons_of sl rnil_of)) (round_F h e r hr))
      rw [er]
      cases hB : roundB nc (e :: r) with
      | true =>
        rw [hB] at tc
        have ih := rds_loop h es hz n (p + (nc + 1)) (fo ++ [(p : Int)]) (by omega) (by rw [List.length_append, List.length_singleton]; omega)
        obtain ⟨p', ih⟩ := ih
        have b1 : sApp 2 (eVar 3) (envR fr es fo p nc) = some (.ok .nx (envR fr es (fo ++ [(p : Int)]) p nc)) := by
          refine app_of (k := false) (ds := fo.map D.int) (ds1 := fo.map D.int) (d := .int p) rfl rfl rfl ?_ ?_
          · rw [List.length_map]; show _ < 2 ^ 24; omega
          · show envR fr es (fo ++ [(p : Int)]) p nc = _
            unfold envR
            rw [List.map_append]; rfl
        have b2 : sSet 3 (eBin oAdd (eVar 3) (eVar 4)) (envR fr es (fo ++ [(p : Int)]) p nc) = some (.ok .nx (envR fr es (fo ++ [(p : Int)]) (p + (nc + 1)) nc)) := by
          refine set_of (bin_of rfl rfl (add_int _ _)) ?_
          show some _ = some _
          unfold envR
          have : ((p : Int) + ((nc : Int) + 1)) = ((p + (nc + 1) : Nat) : Int) := by omega
          rw [this]; rfl
        have bb := (if_t (h := sSet 3 (eBin oAdd (eVar 3) (eLit (.int 1)))) (f := sSeq (sApp 2 (eVar 3)) (sSet 3 (eBin oAdd (eVar 3) (eVar 4)))) tc).trans ((seq_nx b1).trans b2)
        refine ⟨p', .inl ?_⟩
        rw [if_pos rfl, bnd_ok bb]
        rcases ih with ih | ih
        · refine ih.trans ?_
          rw [List.append_assoc]; rfl
        · omega
      | false =>
        rw [hB] at tc
        have ih := rds_loop h es hz n (p + 1) fo (by omega) (by omega)
        obtain ⟨p', ih⟩ := ih
        have b2 : sSet 3 (eBin oAdd (eVar 3) (eLit (.int 1))) (envR fr es fo p nc) = some (.ok .nx (envR fr es fo (p + 1) nc)) := by
          refine set_of (bin_of rfl rfl (add_int _ _)) ?_
          show some _ = some _
          unfold envR
          have : ((p : Int) + 1) = ((p + 1 : Nat) : Int) := by omega
          rw [this]; rfl
        have bb := (if_f (h := sSet 3 (eBin oAdd (eVar 3) (eLit (.int 1)))) (f := sSeq (sApp 2 (eVar 3)) (sSet 3 (eBin oAdd (eVar 3) (eVar 4)))) tc).trans b2
        refine ⟨p', .inl ?_⟩
        rw [if_neg Bool.false_ne_true, bnd_ok bb]
        rcases ih with ih | ih
        · exact ih
        · omega
    · rw [decide_eq_false hc, if_neg Bool.false_ne_true, if_neg hc]
      exact ⟨p, .inl (by rw [List.append_nil]; rfl)⟩
end K53

namespace K53
open G3
theorem roundsof_F {fr : D} {nc : Nat} (h : Fr fr nc) (es : List Ev) (hz : es.length < 900) : F_rounds_of [.sh fr, .sh (evs es)] = some (.sh (.lst ((rds nc es (es.length + 1) 0).map D.int)) [.un, .un]) := by
  obtain ⟨p', hw⟩ := rds_loop h es hz (es.length + 1) 0 [] (by omega) (by simp; omega)
  rcases hw with hw | hw
  · have hw := sWhile_of hw
    obtain ⟨a, b, c, cs, rfl, rfl⟩ := h.sh
    refine fn_rt (env' := [.sh (.tup [a, b, c, .tup cs]), .sh (evs es), .sh (.lst ((rds cs.length es (es.length + 1) 0).map D.int)), .sh (.int p'), .sh (.int ((cs.length : Int) + 1))]) ?_
    unfold b_rounds_of
    refine (seq_nx (env1 := envR (.tup [a, b, c, .tup cs]) es [] 0 cs.length) rfl).trans ?_
    exact (seq_nx hw).trans (ret_of rfl)
  · omega
/-! ### events that fit -/
noncomputable abbrev fE : EV D := eAnd (eCall F_is_whole (rCons (eBin atD (eVar 3) (eLit (.int 0))) (rCons (eNeg (eLit (.int 1))) (rCons (eBin oSub (eVar 2) (eLit (.int 1))) rNil)))) (eAnd (eCall F_fits_ratio (rCons (eBin atD (eVar 3) (eLit (.int 1))) rNil)) (eBin oGe (eBin atD (eBin atD (eVar 3) (eLit (.int 1))) (eLit (.int 0))) (eLit (.int 0))))
theorem fitsE {fr : D} {nc : Nat} (h : Fr fr nc) (ds : List D) (hl : ds.length ≤ 40) (p : D → Bool) (hp : ∀ d ∈ ds, ∃ x y, d = .tup [x, y])
    (hq : ∀ d ∈ ds, fE [.sh fr, .sh (.tup ds), .sh (.int nc), .sh d] = some (.ok (.bl (p d)) [.sh fr, .sh (.tup ds), .sh (.int nc), .sh d])) : F_fits_events [.sh fr, .sh (.tup ds)] = some (.sh (.bl (ds.all p)) [.un, .un]) := by
  have hz : ds.length ≤ PySem.sizeLine := by show _ ≤ 2 ^ 24; omega
  have t1 : asB (eCall F_is_tuple_of (rCons (eVar 1) (rCons (eLit (.int 0)) (rCons (eLit c_EVENTS) rNil)))) [.sh fr, .sh (.tup ds), .un, .un] = some (.ok true [.sh fr, .sh (.tup ds), .un, .un]) := by
    refine asB_bl _ _ _ _ ((eCall_sh [.tup ds, .int 0, .int 40] (rcons_of rfl (rcons_of lit_of (rcons_of lit_of rnil_of))) (tupOf ds 0 40)).trans ?_)
    rw [decide_eq_true (by omega : (0 : Int) ≤ (ds.length : Int)), decide_eq_true (by omega : (ds.length : Int) ≤ 40)]; rfl
  have t2 := asB_bl _ _ _ _ (all1 (v := 3) (src := iSeq (eVar 1)) (f := eCall F_is_tuple_of (rCons (eVar 3) (rCons (eLit (.int 2)) (rCons (eLit (.int 2)) rNil)))) (env := [.sh fr, .sh (.tup ds), .un, .un]) (fun _ => true) (seqT_of rfl) rfl (by simp) hz fun d hd => by
    obtain ⟨x, y, rfl⟩ := hp d hd
    exact eCall_sh [.tup [x, y], .int 2, .int 2] (rcons_of rfl (rcons_of lit_of (rcons_of lit_of rnil_of))) (tupOf [x, y] 2 2))
  have t3 := all1 (v := 3) (src := iSeq (eVar 1)) (f := fE) (env := [.sh fr, .sh (.tup ds), .sh (.int nc), .un]) p (seqT_of rfl) rfl (by simp) hz hq
  have ta : ds.all (fun _ => true) = true := by simp
  rw [ta] at t2
  obtain ⟨a, b, c, cs, rfl, rfl⟩ := h.sh
  refine fn_rt (env' := [.sh (.tup [a, b, c, .tup cs]), .sh (.tup ds), .sh (.int cs.length), .un]) ?_
  unfold b_fits_events
  refine (seq_nx ((if_f ((orB_f (notB_of t1)).trans (notB_of t2))).trans rfl)).trans ?_
  refine (seq_nx (env1 := [.sh (.tup [a, b, c, .tup cs]), .sh (.tup ds), .sh (.int cs.length), .un]) rfl).trans ?_
  exact ret_of t3
structure FitE (nc : Nat) (e : Ev) : Prop where
  lo : -1 ≤ e.1
  hi : e.1 ≤ (nc : Int) - 1
  dp : 1 ≤ e.2.2
  cp : Int.gcd e.2.1 e.2.2 = 1
  np : 0 ≤ e.2.1
theorem whole_of {i a b : Int} (h1 : a ≤ i) (h2 : i ≤ b) : F_is_whole [.sh (.int i), .sh (.int a), .sh (.int b)] = some (.sh (.bl true) [.un, .un, .un]) := by
  rw [whole_int, decide_eq_true h1, decide_eq_true h2]; rfl
theorem fitsE_ok {fr : D} {nc : Nat} (h : Fr fr nc) (es : List Ev) (hl : es.length ≤ 40) (hf : ∀ e ∈ es, FitE nc e) : F_fits_events [.sh fr, .sh (evs es)] = some (.sh (.bl true) [.un, .un]) := by
  have k := fitsE h (es.map evD) (by rw [List.length_map]; exact hl) (fun _ => true) (fun d hd => by obtain ⟨e, _, rfl⟩ := List.mem_map.mp hd; exact ⟨_, _, rfl⟩) fun d hd => by
    obtain ⟨e, he, rfl⟩ := List.mem_map.mp hd
    have f := hf e he
    refine (and_t (eCall_sh [.int e.1, .int (-1), .int ((nc : Int) - 1)] (rcons_of rfl (rcons_of rfl (rcons_of rfl rnil_of))) (whole_of f.lo f.hi))).trans ?_
    refine (and_t (eCall_sh [.tup [.int e.2.1, .int e.2.2]] (rcons_of rfl rnil_of) (r := [.un]) ?_)).trans ?_
    · show F_fits_ratio [.sh (.tup [.int e.2.1, .int e.2.2])] = _
      rw [ratio_F, decide_eq_true f.dp, decide_eq_true (by rw [f.cp]; rfl : ((Int.gcd e.2.1 e.2.2 : Nat) : Int) = 1)]; rfl
    · refine (bin_of (b := .int 0) (c := .bl true) (bin_of (bin_of rfl lit_of rfl) lit_of (c := .int e.2.1) rfl) lit_of ?_)
      show some (D.bl (decide (0 ≤ e.2.1))) = _
      rw [decide_eq_true f.np]
  rw [show (es.map evD).all (fun _ => true) = true by simp] at k
  exact k
/-! ### rounds_in -/
theorem needE {fr v : D} (h : F_fits_events [.sh fr, .sh v] = some (.sh (.bl true) [.un, .un])) : F_need_events [.sh fr, .sh v] = some (.sh .non [.un, .un]) := by
  refine fn_nx (env' := [.sh fr, .sh v]) ?_
  exact (if_f (notB_of (asB_bl _ _ _ _ (eCall_sh [fr, v] (rcons_of rfl (rcons_of rfl rnil_of)) h)))).trans rfl
theorem needE_no {fr v : D} (h : F_fits_events [.sh fr, .sh v] = some (.sh (.bl false) [.un, .un])) : F_need_events [.sh fr, .sh v] = some (.ex "InvalidEvents" [] [.un, .un]) := by
  refine fn_ex (env' := [.sh fr, .sh v]) ?_
  exact (if_t (notB_of (asB_bl _ _ _ _ (eCall_sh [fr, v] (rcons_of rfl (rcons_of rfl rnil_of)) h)))).trans rfl
theorem needF {fr : D} {nc : Nat} (h : Fr fr nc) : F_need_frame [.sh fr] = some (.sh .non [.un]) := by
  refine fn_nx (env' := [.sh fr]) ?_
  exact (if_f (notB_of (asB_bl _ _ _ _ (eCall_sh [fr] (rcons_of rfl rnil_of) h.fit)))).trans rfl
theorem roundsin_F {fr : D} {nc : Nat} (h : Fr fr nc) (es : List Ev) (hl : es.length ≤ 40) (hf : ∀ e ∈ es, FitE nc e) : F_rounds_in [.sh fr, .sh (evs es)] = some (.sh (.tup ((rds nc es (es.length + 1) 0).map D.int)) [.un, .un]) := by
  refine fn_rt (env' := [.sh fr, .sh (evs es)]) ?_
  unfold b_rounds_in
  refine (seq_nx (expr_of (eCall_sh [fr] (rcons_of rfl rnil_of) (needF h)))).trans ?_
  refine (seq_nx (expr_of (eCall_sh [fr, evs es] (rcons_of rfl (rcons_of rfl rnil_of)) (needE (fitsE_ok h es hl hf))))).trans ?_
  exact ret_of (blt_of (acons_of (eCall_sh [fr, evs es] (rcons_of rfl (rcons_of rfl rnil_of)) (roundsof_F h es (by omega))) anil_of) rfl)
/-- what does not fit is refused -/
theorem eCall_ex {F : List Sl → Option FR} {args : EV (List AR)} {env env1 : List Sl} {c : PySem.Str} {fs : List (PySem.Str × D)} {r : List Sl} (as : List D) (e : args env = some (.ok (as.map AR.s) env1)) (hF : F (as.map Sl.sh) = some (.ex c fs r)) : eCall F args env = some (.ex c fs env1) := by
  have q : callF F (as.map AR.s) env1 = some (.ex c fs env1) := by rw [callF_sh, hF]; rfl
  unfold eCall
  rw [bnd_ok e]
  show bnd (callF F (as.map AR.s)) _ env1 = _
  unfold bnd
  rw [q]
theorem expr_ex {f : EV D} {env env1 : List Sl} {c : PySem.Str} {fs : List (PySem.Str × D)} (e : f env = some (.ex c fs env1)) : sExpr f env = some (.ex c fs env1) := by unfold sExpr bnd; rw [e]
theorem refused_F {fr v : D} {nc : Nat} (h : Fr fr nc) (hv : F_fits_events [.sh fr, .sh v] = some (.sh (.bl false) [.un, .un])) : F__law_refused [.sh fr, .sh v] = some (.sh (.bl true) [.un, .un]) := by
  have r : F_rounds_in [.sh fr, .sh v] = some (.ex "InvalidEvents" [] [.un, .un]) := by
    refine fn_ex (env' := [.sh fr, .sh v]) ?_
    unfold b_rounds_in
    refine (seq_nx (expr_of (eCall_sh [fr] (rcons_of rfl rnil_of) (needF h)))).trans ?_
    exact seq_ex (expr_ex (eCall_ex [fr, v] (rcons_of rfl (rcons_of rfl rnil_of)) (needE_no hv)))
  have b : sExpr (eCall F_rounds_in (rCons (eVar 0) (rCons (eVar 1) rNil))) [.sh fr, .sh v, .un] = some (.ex "InvalidEvents" [] [.sh fr, .sh v, .un]) := expr_ex (eCall_ex [fr, v] (rcons_of rfl (rcons_of rfl rnil_of)) r)
  refine fn_rt (env' := [.sh fr, .sh v, .un]) ?_
  unfold b__law_refused
  refine seq_rt ?_
  unfold sTry
  show (match sExpr (eCall F_rounds_in (rCons (eVar 0) (rCons (eVar 1) rNil))) [.sh fr, .sh v, .un] with
    | some (.ex c [] env') => _
    | some (.ex _ _ _) => _
    | r => r) = _
  rw [b]
  rfl
end K53

namespace K53
open G3
/-! ### the law's own rounds -/
def lst1 (nc : Nat) (es : List Ev) (s : List Int × Nat) (p : Nat) : List Int × Nat := if s.2 ≤ p ∧ roundB nc (rowE es p (nc + 1)) = true then (s.1 ++ [(p : Int)], p + (nc + 1)) else s
theorem rds_fuel (nc : Nat) (es : List Ev) : ∀ (n m p : Nat), es.length < p + n → es.length < p + m → rds nc es n p = rds nc es m p
  | 0, 0, _, _, _ => rfl
  | 0, m + 1, p, h1, h2 => by
    unfold rds
    rw [if_neg (by omega)]
  | n + 1, 0, p, h1, h2 => by
    unfold rds
    rw [if_neg (by omega)]
  | n + 1, m + 1, p, h1, h2 => by
    unfold rds
    by_cases hc : p + (nc + 1) ≤ es.length
    · rw [if_pos hc, if_pos hc, rds_fuel nc es n m (p + (nc + 1)) (by omega) (by omega), rds_fuel nc es n m (p + 1) (by omega) (by omega)]
    · rw [if_neg hc, if_neg hc]
theorem fold_rds (nc : Nat) (es : List Ev) : ∀ (n p : Nat) (fo : List Int) (free : Nat), (n = 0 → es.length < p + (nc + 1)) → (n ≠ 0 → p + n + nc = es.length) →
    ((List.range' p n).foldl (lst1 nc es) (fo, free)).1 = fo ++ rds nc es (es.length + 1) (max p free)
  | 0, p, fo, free, h0, _ => by
    have := h0 rfl
    unfold rds
    rw [if_neg (by omega), List.append_nil]; rfl
  | n + 1, p, fo, free, _, h1 => by
    have h1 := h1 (by omega)
    rw [List.range'_succ, List.foldl_cons]
    have ih := fun fo free => fold_rds nc es n (p + 1) fo free (fun z => by omega) (fun z => by omega)
    by_cases hf : free ≤ p
    · have e1 : max p free = p := by omega
      rw [e1]
      have hc : p + (nc + 1) ≤ es.length := by omega
      have un : rds nc es (es.length + 1) p = if roundB nc (rowE es p (nc + 1)) = true then (p : Int) :: rds nc es (es.length + 1) (p + (nc + 1)) else rds nc es (es.length + 1) (p + 1) := by
        have e2 := rds_fuel nc es es.length (es.length + 1) (p + (nc + 1)) (by omega) (by omega)
        have e3 := rds_fuel nc es es.length (es.length + 1) (p + 1) (by omega) (by omega)
        rw [← e2, ← e3]
        conv => lhs; unfold rds
        rw [if_pos hc]
      rw [un]
      by_cases hr : roundB nc (rowE es p (nc + 1)) = true
      · have s1 : lst1 nc es (fo, free) p = (fo ++ [(p : Int)], p + (nc + 1)) := if_pos ⟨hf, hr⟩
        rw [s1, ih, if_pos hr, List.append_assoc]
        have : max (p + 1) (p + (nc + 1)) = p + (nc + 1) := by omega
        rw [this]; rfl
      · have s1 : lst1 nc es (fo, free) p = (fo, free) := if_neg fun z => hr z.2
        rw [s1, ih, if_neg hr]
        have : max (p + 1) free = p + 1 := by omega
        rw [this]
    · have s1 : lst1 nc es (fo, free) p = (fo, free) := if_neg fun z => hf z.1
      rw [s1, ih]
      have : max (p + 1) free = max p free := by omega
      rw [this]
/-- a slot that may be written -/
def free1 (x : Sl) : Prop := ∀ ds, x ≠ .ow true ds
theorem st_of {env : List Sl} {i : Nat} {x sl : Sl} (h : env[i]? = some x) (hx : free1 x) : stSl i sl env = some (env.set i sl) := by
  unfold stSl
  rw [h]
  cases x with
  | ow k ds => cases k with
    | true => exact absurd rfl (hx ds)
    | false => rfl
  | _ => rfl
theorem free_un : free1 .un := fun _ z => nomatch z
theorem free_sh (d : D) : free1 (.sh d) := fun _ z => nomatch z
def envL (fr : D) (es : List Ev) (nc : Nat) (s : List Int × Nat) (x y z : Sl) : List Sl := [.sh fr, .sh (evs es), x, .sh (.int ((nc : Int) + 1)), .sh (.lst (s.1.map D.int)), .sh (.int s.2), y, z, .un, .un]
abbrev bodyL : SV := sSeq (sSet 6 (eSl (eVar 1) (pSome (eVar 2)) (pSome (eBin oAdd (eVar 2) (eVar 3)))))
  (sSeq (sSet 7 (eFrz (oBlt bSorted2 (aCons (eFrz (oComp [8, 9] (iSeq (eVar 6)) (tgTup 2 (tgCons (tgName 8) (tgCons (tgName 9) tgNil))) (ret true) (eVar 8))) aNil))))
  (sIf (bAnd (asB (eBin oGe (eVar 2) (eVar 5))) (bAnd (asB (eBin oEq (eVar 7) (eFrz (oRng2 (eNeg (eLit (.int 1))) (eBin oSub (eVar 3) (eLit (.int 1))))))) (asB (eBin oEq (eFrz (oComp [8, 9] (iSeq (eVar 6)) (tgTup 2 (tgCons (tgName 8) (tgCons (tgName 9) tgNil))) (asB (eBin oNe (eVar 9) (eBin atD (eBin atD (eVar 6) (eLit (.int 0))) (eLit (.int 1))))) (eLit (.int 1)))) (eFrz (oLst aNil))))))
  (sParR [4, 5] (qS (eBin oAdd (eVar 4) (eFrz (oLst (aCons (eVar 2) aNil)))) (qS (eBin oAdd (eVar 2) (eVar 3)) qNil)))
  sNil))
theorem body_L {fr : D} {nc : Nat} (hnc : nc ≤ 4) (es : List Ev) (hz : es.length < 900) (p : Nat) (hp : p + (nc + 1) ≤ es.length) (s : List Int × Nat) (hs : s.1.length < 2000) (y z : Sl) (hy : free1 y) (hzz : free1 z) :
    ∃ y' z', free1 y' ∧ free1 z' ∧ bodyL (envL fr es nc s (.sh (.int p)) y z) = some (.ok .nx (envL fr es nc (lst1 nc es s p) (.sh (.int p)) y' z')) := by
  have hl : (rowE es p (nc + 1)).length = nc + 1 := by unfold rowE; rw [List.length_take, List.length_drop]; omega
  obtain ⟨e, r, er, hr⟩ : ∃ e r, rowE es p (nc + 1) = e :: r ∧ r.length < 1000 := by
    cases hr : rowE es p (nc + 1) with
    | nil => rw [hr] at hl; simp at hl
    | cons e r => rw [hr] at hl; exact ⟨e, r, rfl, by simp at hl; omega⟩
  have hlz : (e :: r).length ≤ PySem.sizeLine := by show r.length + 1 ≤ 2 ^ 24; omega
  -- row
  have sl : eSl (eVar 1) (pSome (eVar 2)) (pSome (eBin oAdd (eVar 2) (eVar 3))) (envL fr es nc s (.sh (.int p)) y z) = some (.ok (evs (e :: r)) (envL fr es nc s (.sh (.int p)) y z)) := by
    refine (sl_tup (ds := es.map evD) (lo := some (p : Int)) (hi := some ((p : Int) + ((nc : Int) + 1))) rfl (pSome_of rfl) (pSome_of (bin_of rfl rfl (add_int _ _)))).trans ?_
    have e1 : cutD (es.map evD) (some (p : Int)) (some ((p : Int) + ((nc : Int) + 1))) = (e :: r).map evD := by
      rw [show ((nc : Int) + 1) = ((nc + 1 : Nat) : Int) by omega, cutD_mid _ (by rw [List.length_map]; exact hp), ← er]
      unfold rowE
      rw [List.map_take, List.map_drop]
    rw [e1]; rfl
  have b1 : sSet 6 (eSl (eVar 1) (pSome (eVar 2)) (pSome (eBin oAdd (eVar 2) (eVar 3)))) (envL fr es nc s (.sh (.int p)) y z) = some (.ok .nx (envL fr es nc s (.sh (.int p)) (.sh (evs (e :: r))) z)) :=
    set_of sl ((st_of (x := y) rfl hy).trans rfl)
  -- cases
  have ft : (e :: r).filter (fun _ => true) = e :: r := List.filter_eq_self.mpr fun _ _ => rfl
  have c2 : oComp [8, 9] (iSeq (eVar 6)) (tgTup 2 (tgCons (tgName 8) (tgCons (tgName 9) tgNil))) (ret true) (eVar 8) (envL fr es nc s (.sh (.int p)) (.sh (evs (e :: r))) z)
      = some (.ok (((e :: r).filter fun _ => true).map fun x => .int x.1) (envL fr es nc s (.sh (.int p)) (.sh (evs (e :: r))) z)) :=
    comp2 (fun x : Ev => .int x.1) (fun x : Ev => .tup [.int x.2.1, .int x.2.2]) (fun _ => true) _ (seqT_of rfl) rfl rfl (by simp [envL]) (by simp [envL]) (by decide) hlz fun x hx => ⟨rfl, fun _ => rfl⟩
  rw [ft] at c2
  have b2 : sSet 7 (eFrz (oBlt bSorted2 (aCons (eFrz (oComp [8, 9] (iSeq (eVar 6)) (tgTup 2 (tgCons (tgName 8) (tgCons (tgName 9) tgNil))) (ret true) (eVar 8))) aNil))) (envL fr es nc s (.sh (.int p)) (.sh (evs (e :: r))) z)
      = some (.ok .nx (envL fr es nc s (.sh (.int p)) (.sh (evs (e :: r))) (.sh (.lst ((sortI ((e :: r).map (·.1))).map D.int))))) := by
    refine set_of (frz_of (oblt_of (acons_of (frz_of c2) anil_of) (c := (sortI ((e :: r).map (·.1))).map D.int) ?_)) ((st_of (x := z) rfl hzz).trans rfl)
    have e1 : (e :: r).map (fun x => D.int x.1) = ((e :: r).map (·.1)).map D.int := by rw [List.map_map]; rfl
    show (intsD ((e :: r).map fun x => D.int x.1)).map _ = _
    rw [e1, intsD_map]; rfl
  -- the test
  let E := envL fr es nc s (.sh (.int p)) (.sh (evs (e :: r))) (.sh (.lst ((sortI ((e :: r).map (·.1))).map D.int)))
  have t1 : asB (eBin oGe (eVar 2) (eVar 5)) E = some (.ok (decide (s.2 ≤ p)) E) := by
    refine asB_bl _ _ _ _ (bin_of rfl rfl ?_)
    show some (D.bl (decide ((s.2 : Int) ≤ (p : Int)))) = _
    congr 2
    exact decide_eq_decide.mpr (by omega)
  have t2 : asB (eBin oEq (eVar 7) (eFrz (oRng2 (eNeg (eLit (.int 1))) (eBin oSub (eVar 3) (eLit (.int 1)))))) E = some (.ok (decide (sortI ((e :: r).map (·.1)) = rgI (-1) (nc + 1))) E) := by
    refine asB_bl _ _ _ _ (bin_of rfl (frz_of (as := (rgI (-1) (nc + 1)).map D.int) ?_) (oEq_ints _ _))
    have s1 : eNeg (eLit (.int 1)) E = some (.ok (.int (-1)) E) := rfl
    have s2 : eBin oSub (eVar 3) (eLit (.int 1)) E = some (.ok (.int ((nc : Int) + 1 - 1)) E) := rfl
    unfold oRng2
    rw [bnd_ok s1, bnd_ok s2]
    show (if rg24 (-1) ((nc : Int) + 1 - 1) = true then ret (rgD (-1) ((nc : Int) + 1 - 1 - -1).toNat) else stuck) E = _
    have e2 : ((nc : Int) + 1 - 1 - -1).toNat = nc + 1 := by omega
    rw [if_pos (rg24_of (by omega) (by omega) (by omega) (by omega)), e2, rgD_eq]
    rfl
  have c3 : oComp [8, 9] (iSeq (eVar 6)) (tgTup 2 (tgCons (tgName 8) (tgCons (tgName 9) tgNil))) (asB (eBin oNe (eVar 9) (eBin atD (eBin atD (eVar 6) (eLit (.int 0))) (eLit (.int 1))))) (eLit (.int 1)) E
      = some (.ok (((e :: r).filter fun x => !decide (x.2 = e.2)).map fun x => .int 1) E) := by
    refine comp2 (fun x : Ev => .int x.1) (fun x : Ev => .tup [.int x.2.1, .int x.2.2]) (fun x => !decide (x.2 = e.2)) _ (seqT_of rfl) rfl rfl (by simp [E, envL]) (by simp [E, envL]) (by decide) hlz fun x hx => ⟨?_, fun _ => rfl⟩
    have e1 : decide (x.2 = e.2) = decide (x.2.1 = e.2.1 ∧ x.2.2 = e.2.2) := by
      by_cases q : x.2 = e.2
      · rw [q]; simp
      · rw [decide_eq_false q, decide_eq_false]
        exact fun z => q (Prod.ext z.1 z.2)
    refine asB_bl _ _ _ _ (bin_of rfl (bin_of (bin_of (a := evs (e :: r)) (b := .int 0) (c := evD e) rfl rfl ?_) rfl (c := .tup [.int e.2.1, .int e.2.2]) rfl) ?_)
    · simp [fnF, sSeq, sIf, sRet, sRetO, sNil, sSet, sSetO, sAsg, sExpr, sRaise, sApp, sSetIx, sFor, eAnd, eOr, eNot, eIf, eNeg, negD, asB, bAnd, bOr, bNot, eIsi, isD, tyD, eChain, eBin, eTup, oLst, eFrz, aNil, aCons, eLit, eVar, eIxV, rdV, slD, eLenV, pNone, pSome, eSl, slcD, eBlt, oBlt, eCall, oCall, callF1, callF2, callF3, resF, rNil, rCons, rIo, chkO, put, stSl, tgName, tgNil, tgCons, tgTup, iSeq, iRng1, iRng2, oRng1, oRng2, qNil, qS, qO, sParR, sParL, stAllR, stAll, oAdd, oSub, oLe, oLt, oGe, oGt, bLen, bAbs, bInt, bTuple, bList, bnd, ret, lift, stuck, outsOf, keepIo, atD, L2.atI, L2.ixN, PySem.sizeLine, oEq_int, oNe_int, oEq_pair, oNe_pair, k_ii, k_ib, k_bi, k_bb, k_ni, k_nt, k_tt, k_lt, k_ss, evs, evD]
    · rw [e1]; exact oNe_pair _ _ _ _
  have t3 : asB (eBin oEq (eFrz (oComp [8, 9] (iSeq (eVar 6)) (tgTup 2 (tgCons (tgName 8) (tgCons (tgName 9) tgNil))) (asB (eBin oNe (eVar 9) (eBin atD (eBin atD (eVar 6) (eLit (.int 0))) (eLit (.int 1))))) (eLit (.int 1)))) (eFrz (oLst aNil))) E = some (.ok (sameB (e :: r)) E) := by
    refine asB_bl _ _ _ _ (bin_of (frz_of c3) (frz_of (as := []) rfl) ?_)
    have e1 : ((e :: r).filter fun x => !decide (x.2 = e.2)).map (fun x => D.int 1) = (((e :: r).filter fun x => !decide (x.2 = e.2)).map fun _ => (1 : Int)).map D.int := by rw [List.map_map]; rfl
    rw [e1]
    refine (oEq_ints _ []).trans ?_
    congr 2
    rw [Bool.eq_iff_iff, decide_eq_true_eq, List.map_eq_nil_iff, List.filter_eq_nil_iff]
    show _ ↔ ((e :: r).all fun x => decide (x.2 = e.2)) = true
    rw [List.all_eq_true]
    refine forall_congr' fun x => forall_congr' fun hx => ?_
    simp
  have tt : bAnd (asB (eBin oGe (eVar 2) (eVar 5))) (bAnd (asB (eBin oEq (eVar 7) (eFrz (oRng2 (eNeg (eLit (.int 1))) (eBin oSub (eVar 3) (eLit (.int 1))))))) (asB (eBin oEq (eFrz (oComp [8, 9] (iSeq (eVar 6)) (tgTup 2 (tgCons (tgName 8) (tgCons (tgName 9) tgNil))) (asB (eBin oNe (eVar 9) (eBin atD (eBin atD (eVar 6) (eLit (.int 0))) (eLit (.int 1))))) (eLit (.int 1)))) (eFrz (oLst aNil))))) E
      = some (.ok (decide (s.2 ≤ p) && roundB nc (e :: r)) E) := by
    unfold roundB
    cases h1 : decide (s.2 ≤ p) with
    | false => rw [h1] at t1; exact andB_f t1
    | true =>
      rw [h1] at t1
      refine (andB_t t1).trans ?_
      cases h2 : decide (sortI ((e :: r).map (·.1)) = rgI (-1) (nc + 1)) with
      | false =>
        rw [h2] at t2
        refine (andB_f t2).trans ?_
        rw [Bool.and_false]; rfl
      | true =>
        rw [h2] at t2
        refine (andB_t t2).trans (t3.trans ?_)
        rw [Bool.and_true]; rfl
  refine ⟨_, _, free_sh (evs (e :: r)), free_sh (.lst ((sortI ((e :: r).map (·.1))).map D.int)), ?_⟩
  refine (seq_nx b1).trans ((seq_nx b2).trans ?_)
  by_cases hc : s.2 ≤ p ∧ roundB nc (rowE es p (nc + 1)) = true
  · have s1 : lst1 nc es s p = (s.1 ++ [(p : Int)], p + (nc + 1)) := if_pos hc
    rw [er] at hc
    rw [decide_eq_true hc.1, hc.2] at tt
    refine (if_t tt).trans ?_
    have hz2 : (s.1.map D.int).length + 1 ≤ PySem.sizeLine := by rw [List.length_map]; show _ ≤ 2 ^ 24; omega
    have a1 : eBin oAdd (eVar 4) (eFrz (oLst (aCons (eVar 2) aNil))) E = some (.ok (.lst (s.1.map D.int ++ [.int p])) E) := by
      refine bin_of rfl (frz_of (lst_of (acons_of rfl anil_of) (by show 1 ≤ 2 ^ 24; omega))) ?_
      show (if (s.1.map D.int).length + 1 ≤ PySem.sizeLine then some _ else none) = _
      rw [if_pos hz2]
    have q : (qS (eBin oAdd (eVar 4) (eFrz (oLst (aCons (eVar 2) aNil)))) (qS (eBin oAdd (eVar 2) (eVar 3)) qNil)) E = some (.ok [.sh (.lst (s.1.map D.int ++ [.int p])), .sh (.int ((p : Int) + ((nc : Int) + 1)))] E) := by
      unfold qS
      rw [bnd_ok a1]
      rfl
    unfold sParR
    rw [bnd_ok q, s1]
    have e5 : ((p : Int) + ((nc : Int) + 1)) = ((p + (nc + 1) : Nat) : Int) := by omega
    rw [e5]
    have e6 : s.1.map D.int ++ [.int (p : Int)] = (s.1 ++ [(p : Int)]).map D.int := by rw [List.map_append]; rfl
    rw [e6]
    rfl
  · have s1 : lst1 nc es s p = s := if_neg hc
    rw [er] at hc
    have cf : (decide (s.2 ≤ p) && roundB nc (e :: r)) = false := by
      cases q : (decide (s.2 ≤ p) && roundB nc (e :: r)) with
      | false => rfl
      | true =>
        have q := Bool.and_eq_true_iff.mp q
        exact absurd ⟨of_decide_eq_true q.1, q.2⟩ hc
    rw [cf] at tt
    refine (if_f tt).trans ?_
    rw [s1]; rfl
end K53

namespace K53
open G3
theorem forL_nx {T : D → List Sl → Option (List Sl)} {b : SV} {d : D} {r : List D} {env env1 env2 : List Sl} (h1 : T d env = some env1) (h2 : b env1 = some (.ok .nx env2)) : forL T b (d :: r) env = forL T b r env2 := by
  have hp : put (T d) env = some (.ok () env1) := by unfold put; rw [h1]
  show bnd (put (T d)) _ env = _
  rw [bnd_ok hp, bnd_ok h2]
theorem lst1_len (nc : Nat) (es : List Ev) (s : List Int × Nat) (p : Nat) : (lst1 nc es s p).1.length ≤ s.1.length + 1 := by
  unfold lst1
  split
  · simp
  · omega
theorem for_L {fr : D} {nc : Nat} (hnc : nc ≤ 4) (es : List Ev) (hz : es.length < 900) : ∀ (L : List Nat) (s : List Int × Nat) (x y z : Sl), (∀ p ∈ L, p + (nc + 1) ≤ es.length) → s.1.length + L.length < 2000 → free1 x → free1 y → free1 z →
    ∃ x' y' z', forL (tgName 2) bodyL (L.map fun p => .int (p : Nat)) (envL fr es nc s x y z) = some (.ok .nx (envL fr es nc (L.foldl (lst1 nc es) s) x' y' z'))
  | [], s, x, y, z, _, _, _, _, _ => ⟨x, y, z, rfl⟩
  | p :: L, s, x, y, z, hL, hs, hx, hy, hzz => by
    rw [List.length_cons] at hs
    obtain ⟨y', z', f1, f2, hb⟩ := body_L (fr := fr) hnc es hz p (hL p List.mem_cons_self) s (by omega) y z hy hzz
    have hl := lst1_len nc es s p
    obtain ⟨x2, y2, z2, ih⟩ := for_L hnc es hz L (lst1 nc es s p) (.sh (.int p)) y' z' (fun q hq => hL q (List.mem_cons_of_mem _ hq)) (by omega) (free_sh _) f1 f2
    refine ⟨x2, y2, z2, ?_⟩
    rw [List.map_cons, forL_nx (env1 := envL fr es nc s (.sh (.int p)) y z) ((st_of (x := x) rfl hx).trans rfl) hb]
    exact ih
theorem lawrounds_F {fr : D} {nc : Nat} (h : Fr fr nc) (es : List Ev) (hz : es.length < 900) : F__law_rounds [.sh fr, .sh (evs es)] = some (.sh (.lst ((rds nc es (es.length + 1) 0).map D.int)) [.un, .un]) := by
  have hnc := h.few
  obtain ⟨x, y, z, hf⟩ := for_L (fr := fr) hnc es hz (List.range' 0 (es.length - nc)) ([], 0) .un .un .un (fun p hp => by have := List.mem_range'.mp hp; omega) (by simp; omega) free_un free_un free_un
  have hr := fold_rds nc es (es.length - nc) 0 [] 0 (fun z => by omega) (fun z => by omega)
  obtain ⟨a, b, c, cs, rfl, rfl⟩ := h.sh
  have s0 : sParR [3, 4, 5] (qS (eBin oAdd (eBlt bLen (aCons (eBin atD (eVar 0) (eLit (.int 3))) aNil)) (eLit (.int 1))) (qS (eFrz (oLst aNil)) (qS (eLit (.int 0)) qNil))) [.sh (.tup [a, b, c, .tup cs]), .sh (evs es), .un, .un, .un, .un, .un, .un, .un, .un] = some (.ok .nx (envL (.tup [a, b, c, .tup cs]) es cs.length ([], 0) .un .un .un)) := rfl
  have rg : iRng1 (eBin oAdd (eBin oSub (eBlt bLen (aCons (eVar 1) aNil)) (eVar 3)) (eLit (.int 1))) (envL (.tup [a, b, c, .tup cs]) es cs.length ([], 0) .un .un .un) = some (.ok ((List.range' 0 (es.length - cs.length)).map fun p => .int (p : Nat)) (envL (.tup [a, b, c, .tup cs]) es cs.length ([], 0) .un .un .un)) := by
    have e0 : eBin oAdd (eBin oSub (eBlt bLen (aCons (eVar 1) aNil)) (eVar 3)) (eLit (.int 1)) (envL (.tup [a, b, c, .tup cs]) es cs.length ([], 0) .un .un .un) = some (.ok (.int ((es.length : Int) - ((cs.length : Int) + 1) + 1)) (envL (.tup [a, b, c, .tup cs]) es cs.length ([], 0) .un .un .un)) := by
      refine bin_of (bin_of (blt_of (acons_of rfl anil_of) (c := .int es.length) ?_) rfl (c := .int ((es.length : Int) - ((cs.length : Int) + 1))) rfl) lit_of rfl
      show some (D.int ((es.map evD).length : Nat)) = _
      rw [List.length_map]
    unfold iRng1
    rw [bnd_ok e0]
    show (if rgOk 0 ((es.length : Int) - ((cs.length : Int) + 1) + 1) = true then ret (rgD 0 ((es.length : Int) - ((cs.length : Int) + 1) + 1).toNat) else stuck) _ = _
    have e1 : ((es.length : Int) - ((cs.length : Int) + 1) + 1).toNat = es.length - cs.length := by omega
    rw [if_pos (rgOk_of (by omega) (by omega) (by omega) (by omega)), e1]
    unfold rgD
    rw [List.range_eq_range']
    show some (R.ok _ _) = _
    congr 2
    refine List.map_congr_left fun i _ => ?_
    rw [Int.zero_add]
  refine fn_rt (env' := envL (.tup [a, b, c, .tup cs]) es cs.length ((List.range' 0 (es.length - cs.length)).foldl (lst1 cs.length es) ([], 0)) x y z) ?_
  unfold b__law_rounds
  refine (seq_nx s0).trans ?_
  have ff : sFor (tgName 2) (iRng1 (eBin oAdd (eBin oSub (eBlt bLen (aCons (eVar 1) aNil)) (eVar 3)) (eLit (.int 1)))) bodyL (envL (.tup [a, b, c, .tup cs]) es cs.length ([], 0) .un .un .un) = some (.ok .nx (envL (.tup [a, b, c, .tup cs]) es cs.length ((List.range' 0 (es.length - cs.length)).foldl (lst1 cs.length es) ([], 0)) x y z)) := by
    unfold sFor
    rw [bnd_ok rg]
    exact hf
  refine (seq_nx ff).trans (ret_of ?_)
  have e9 : (max 0 0 : Nat) = 0 := rfl
  rw [e9, List.nil_append] at hr
  show some (R.ok (D.lst (((List.range' 0 (es.length - cs.length)).foldl (lst1 cs.length es) ([], 0)).1.map D.int)) _) = _
  rw [hr]
end K53

namespace K53
open G3
/-! ### frames that fit -/
def SortD (d : D) : Prop := ∃ k lo hi : Int, d = .tup [.int k, .int lo, .int hi] ∧ (1 ≤ k ∧ k ≤ 9) ∧ (1 ≤ lo ∧ lo ≤ 999) ∧ (1 ≤ hi ∧ hi ≤ 999)
def heldD : List D := [.str "", .str "x", .str "y", .str "xy"]
def jD (x y : Int) (s : D) : D := .tup [.int x, .int y, s]
def JointD (d : D) : Prop := ∃ (x y : Int) (s : D), d = jD x y s ∧ (0 ≤ x ∧ x ≤ 9) ∧ (0 ≤ y ∧ y ≤ 9) ∧ s ∈ heldD
def bD (p q s c : Int) : D := .tup [.int p, .int q, .int s, .int c]
def BarD (ns nj : Nat) (d : D) : Prop := ∃ p q s c : Int, d = bD p q s c ∧ (0 ≤ p ∧ p < nj) ∧ (0 ≤ q ∧ q < nj) ∧ p ≠ q ∧ (0 ≤ s ∧ s < ns) ∧ (-99 ≤ c ∧ c ≤ 99)
def PairD (d : D) : Prop := ∃ x y : Int, d = .tup [.int x, .int y] ∧ (-99 ≤ x ∧ x ≤ 99) ∧ (-99 ≤ y ∧ y ≤ 99)
def LoadD (nj : Nat) (d : D) : Prop := ∃ ps : List D, d = .tup ps ∧ ps.length = nj ∧ ∀ p ∈ ps, PairD p
theorem sort_F {d : D} (h : SortD d) : F_fits_sort [.sh d] = some (.sh (.bl true) [.un]) := by
  obtain ⟨k, lo, hi, rfl, ⟨h1, h2⟩, ⟨h3, h4⟩, ⟨h5, h6⟩⟩ := h
  simp [fnF, sSeq, sIf, sRet, sRetO, sNil, sSet, sSetO, sAsg, sExpr, sRaise, sApp, sSetIx, sFor, eAnd, eOr, eNot, eIf, eNeg, negD, asB, bAnd, bOr, bNot, eIsi, isD, tyD, eChain, eBin, eTup, oLst, eFrz, aNil, aCons, eLit, eVar, eIxV, rdV, slD, eLenV, pNone, pSome, eSl, slcD, eBlt, oBlt, eCall, oCall, callF1, callF2, callF3, resF, rNil, rCons, rIo, chkO, put, stSl, tgName, tgNil, tgCons, tgTup, iSeq, iRng1, iRng2, oRng1, oRng2, qNil, qS, qO, sParR, sParL, stAllR, stAll, oAdd, oSub, oLe, oLt, oGe, oGt, bLen, bAbs, bInt, bTuple, bList, bnd, ret, lift, stuck, outsOf, keepIo, atD, L2.atI, L2.ixN, PySem.sizeLine, oEq_int, oNe_int, oEq_pair, oNe_pair, k_ii, k_ib, k_bi, k_bb, k_ni, k_nt, k_tt, k_lt, k_ss, F_fits_sort, b_fits_sort, tupOf, c_STIFF, c_LIMIT, whole_of h1 h2, whole_of h3 h4, whole_of h5 h6]
theorem held_F : ∀ s ∈ heldD, F_is_tuple_of [.sh s] = F_is_tuple_of [.sh s] ∧ (isD "str" s = some (.bl true)) ∧ oIn s c_HELD = some (.bl true) := by
  intro s hs
  have h : s = .str "" ∨ s = .str "x" ∨ s = .str "y" ∨ s = .str "xy" := by simpa [heldD] using hs
  have k : ∀ x : PySem.Str, isD "str" (.str x) = some (.bl true) := fun x => by unfold isD; show (L2.kitB "str" "str").map D.bl = _; rw [k_ss]; rfl
  rcases h with rfl | rfl | rfl | rfl
  all_goals
    refine ⟨rfl, k _, ?_⟩
    simp only [oIn, c_HELD, flatD, List.all_cons, List.all_nil, Bool.and_true, and_self, if_true]
    congr 2
theorem joint_F {d : D} (h : JointD d) : F_fits_joint [.sh d] = some (.sh (.bl true) [.un]) := by
  obtain ⟨x, y, s, rfl, ⟨h1, h2⟩, ⟨h3, h4⟩, hs⟩ := h
  obtain ⟨_, k1, k2⟩ := held_F s hs
  let E : List Sl := [.sh (jD x y s)]
  have i0 : eBin atD (eVar 0) (eLit (.int 0)) E = some (.ok (.int x) E) := rfl
  have i1 : eBin atD (eVar 0) (eLit (.int 1)) E = some (.ok (.int y) E) := rfl
  have i2 : eBin atD (eVar 0) (eLit (.int 2)) E = some (.ok s E) := rfl
  have t0 : asB (eCall F_is_tuple_of (rCons (eVar 0) (rCons (eLit (.int 3)) (rCons (eLit (.int 3)) rNil)))) E = some (.ok true E) :=
    asB_bl _ _ _ _ (eCall_sh [jD x y s, .int 3, .int 3] (rcons_of rfl (rcons_of lit_of (rcons_of lit_of rnil_of))) (tupOf [.int x, .int y, s] 3 3))
  have t1 : asB (eCall F_is_whole (rCons (eBin atD (eVar 0) (eLit (.int 0))) (rCons (eLit (.int 0)) (rCons (eLit c_PLACE) rNil)))) E = some (.ok true E) :=
    asB_bl _ _ _ _ (eCall_sh [.int x, .int 0, .int 9] (rcons_of i0 (rcons_of lit_of (rcons_of lit_of rnil_of))) (whole_of h1 h2))
  have t2 : asB (eCall F_is_whole (rCons (eBin atD (eVar 0) (eLit (.int 1))) (rCons (eLit (.int 0)) (rCons (eLit c_PLACE) rNil)))) E = some (.ok true E) :=
    asB_bl _ _ _ _ (eCall_sh [.int y, .int 0, .int 9] (rcons_of i1 (rcons_of lit_of (rcons_of lit_of rnil_of))) (whole_of h3 h4))
  refine fn_rt (env' := E) ?_
  unfold b_fits_joint
  refine (seq_nx ((if_f ((orB_f (notB_of t0)).trans ((orB_f (notB_of t1)).trans (notB_of t2)))).trans rfl)).trans (ret_of ?_)
  have is : eIsi "str" (eBin atD (eVar 0) (eLit (.int 2))) E = some (.ok (.bl true) E) := by
    unfold eIsi; rw [bnd_ok i2, k1]; rfl
  exact (and_t is).trans (bin_of i2 lit_of k2)
theorem bar_F {ns nj : Nat} {d : D} (h : BarD ns nj d) : F_fits_bar [.sh (.int ns), .sh (.int nj), .sh d] = some (.sh (.bl true) [.un, .un, .un]) := by
  obtain ⟨p, q, s, c, rfl, ⟨h1, h2⟩, ⟨h3, h4⟩, h5, ⟨h6, h7⟩, ⟨h8, h9⟩⟩ := h
  unfold bD
  simp [fnF, sSeq, sIf, sRet, sRetO, sNil, sSet, sSetO, sAsg, sExpr, sRaise, sApp, sSetIx, sFor, eAnd, eOr, eNot, eIf, eNeg, negD, asB, bAnd, bOr, bNot, eIsi, isD, tyD, eChain, eBin, eTup, oLst, eFrz, aNil, aCons, eLit, eVar, eIxV, rdV, slD, eLenV, pNone, pSome, eSl, slcD, eBlt, oBlt, eCall, oCall, callF1, callF2, callF3, resF, rNil, rCons, rIo, chkO, put, stSl, tgName, tgNil, tgCons, tgTup, iSeq, iRng1, iRng2, oRng1, oRng2, qNil, qS, qO, sParR, sParL, stAllR, stAll, oAdd, oSub, oLe, oLt, oGe, oGt, bLen, bAbs, bInt, bTuple, bList, bnd, ret, lift, stuck, outsOf, keepIo, atD, L2.atI, L2.ixN, PySem.sizeLine, oEq_int, oNe_int, oEq_pair, oNe_pair, k_ii, k_ib, k_bi, k_bb, k_ni, k_nt, k_tt, k_lt, k_ss, F_fits_bar, b_fits_bar, tupOf, c_LOAD, whole_of h1 (by omega : p ≤ (nj : Int) - 1), whole_of h3 (by omega : q ≤ (nj : Int) - 1), whole_of h6 (by omega : s ≤ (ns : Int) - 1), whole_of h8 h9, h5]
theorem load_F {nj : Nat} {d : D} (h : LoadD nj d) (hz : nj ≤ 100) : F_fits_load [.sh (.int nj), .sh d] = some (.sh (.bl true) [.un, .un]) := by
  obtain ⟨ps, rfl, hl, hp⟩ := h
  let E : List Sl := [.sh (.int nj), .sh (.tup ps), .un, .un]
  have hz2 : ps.length ≤ PySem.sizeLine := by show _ ≤ 2 ^ 24; omega
  have t0 : asB (eCall F_is_tuple_of (rCons (eVar 1) (rCons (eVar 0) (rCons (eVar 0) rNil)))) E = some (.ok true E) := by
    refine asB_bl _ _ _ _ ((eCall_sh [.tup ps, .int nj, .int nj] (rcons_of rfl (rcons_of rfl (rcons_of rfl rnil_of))) (tupOf ps nj nj)).trans ?_)
    rw [hl, decide_eq_true (Int.le_refl _)]; rfl
  have t1 := all1 (v := 2) (src := iSeq (eVar 1)) (env := E) (f := eAnd (eCall F_is_tuple_of (rCons (eVar 2) (rCons (eLit (.int 2)) (rCons (eLit (.int 2)) rNil)))) (eBlt bAll (aCons (eFrz (oComp [3] (iSeq (eVar 2)) (tgName 3) (ret true) (eCall F_is_whole (rCons (eVar 3) (rCons (eNeg (eLit c_LOAD)) (rCons (eLit c_LOAD) rNil)))))) aNil)))
    (fun _ => true) (seqT_of rfl) rfl (by simp [E]) hz2 fun d hd => by
      obtain ⟨x, y, rfl, ⟨a1, a2⟩, ⟨b1, b2⟩⟩ := hp d hd
      refine (and_t (eCall_sh [.tup [.int x, .int y], .int 2, .int 2] (rcons_of rfl (rcons_of lit_of (rcons_of lit_of rnil_of))) (tupOf [.int x, .int y] 2 2))).trans ?_
      refine (all1 (v := 3) (ds := [.int x, .int y]) (fun _ => true) (seqT_of rfl) rfl (by simp [E]) (by show 2 ≤ 2 ^ 24; omega) fun d hd => ?_).trans rfl
      have hd : d = .int x ∨ d = .int y := by simpa using hd
      rcases hd with rfl | rfl
      · exact eCall_sh [.int x, .int (-99), .int 99] (rcons_of rfl (rcons_of rfl (rcons_of lit_of rnil_of))) (whole_of a1 a2)
      · exact eCall_sh [.int y, .int (-99), .int 99] (rcons_of rfl (rcons_of rfl (rcons_of lit_of rnil_of))) (whole_of b1 b2)
  rw [show ps.all (fun _ => true) = true by simp] at t1
  refine fn_rt (env' := E) ?_
  unfold b_fits_load
  exact (seq_nx ((if_f (notB_of t0)).trans rfl)).trans (ret_of t1)
theorem keysT_map {ks : List (List Int)} : keysT (ks.map fun k => .tup (k.map D.int)) = some ks := by
  induction ks with
  | nil => rfl
  | cons k ks ih =>
    show (intsD (k.map D.int)).bind _ = _
    rw [intsD_map]
    show (keysT (ks.map fun k => .tup (k.map D.int))).map _ = _
    rw [ih]; rfl
theorem unlike_F {ks : List (List Int)} (hn : ks.Nodup) (hl : ks.length < 64) : F_are_unlike [.sh (.lst (ks.map fun k => .tup (k.map D.int)))] = some (.sh (.bl true) [.un]) := by
  let E : List Sl := [.sh (.lst (ks.map fun k => .tup (k.map D.int)))]
  refine fn_rt (env' := E) ?_
  unfold b_are_unlike
  refine ret_of ?_
  have a : eLenSet (eVar 0) E = some (.ok (.int (nub ks).length) E) := by
    unfold eLenSet
    have v : eVar 0 E = some (.ok (.lst (ks.map fun k => .tup (k.map D.int))) E) := rfl
    rw [bnd_ok v]
    have : lenSetD (.lst (ks.map fun k => .tup (k.map D.int))) = some (.int (nub ks).length) := by
      show (if (ks.map fun k => D.tup (k.map D.int)).length < 64 then _ else none) = _
      rw [if_pos (by rw [List.length_map]; exact hl), keysT_map]; rfl
    rw [this]; rfl
  have b : eBlt bLen (aCons (eVar 0) aNil) E = some (.ok (.int ks.length) E) := by
    refine blt_of (acons_of rfl anil_of) ?_
    show some (D.int ((ks.map fun k => D.tup (k.map D.int)).length : Nat)) = _
    rw [List.length_map]
  refine bin_of a b ((oEq_int _ _).trans ?_)
  rw [(nub_len_iff ks).mpr hn, decide_eq_true rfl]
end K53

namespace K53
open G3
abbrev J3 : Type := Int × Int × D
abbrev B4 : Type := Int × Int × Int × Int
def jE (j : J3) : D := jD j.1 j.2.1 j.2.2
def bE (b : B4) : D := bD b.1 b.2.1 b.2.2.1 b.2.2.2
structure FrameOk (ss : List D) (jl : List J3) (bl : List B4) (cs : List D) : Prop where
  hS : ∀ d ∈ ss, SortD d
  s1 : 1 ≤ ss.length
  s2 : ss.length ≤ 6
  hJ : ∀ j ∈ jl, JointD (jE j)
  j1 : 2 ≤ jl.length
  j2 : jl.length ≤ 8
  jn : (jl.map fun j => [j.1, j.2.1]).Nodup
  hB : ∀ b ∈ bl, BarD ss.length jl.length (bE b)
  b1 : 1 ≤ bl.length
  b2 : bl.length ≤ 12
  bn : (bl.map fun b => sortI [b.1, b.2.1]).Nodup
  hC : ∀ c ∈ cs, LoadD jl.length c
  c2 : cs.length ≤ 4
def frD (ss : List D) (jl : List J3) (bl : List B4) (cs : List D) : D := .tup [.tup ss, .tup (jl.map jE), .tup (bl.map bE), .tup cs]
theorem tupIn {ds : List D} {a b : Int} (h1 : a ≤ ds.length) (h2 : (ds.length : Int) ≤ b) : F_is_tuple_of [.sh (.tup ds), .sh (.int a), .sh (.int b)] = some (.sh (.bl true) [.un, .un, .un]) := by
  rw [tupOf, decide_eq_true h1, decide_eq_true h2]; rfl
theorem all_true {ds : List D} : ds.all (fun _ => true) = true := by simp
theorem len_of {f : EV D} {env env1 : List Sl} {ds : List D} (h : f env = some (.ok (.tup ds) env1)) : eBlt bLen (aCons f aNil) env = some (.ok (.int ds.length) env1) := blt_of (acons_of h anil_of) rfl
theorem frame_F {ss : List D} {jl : List J3} {bl : List B4} {cs : List D} (h : FrameOk ss jl bl cs) : F_fits_frame [.sh (frD ss jl bl cs)] = some (.sh (.bl true) [.un]) := by
  have l1 := h.s1
  have l2 := h.s2
  have l3 := h.j1
  have l4 := h.j2
  have l5 := h.b1
  have l6 := h.b2
  have l7 := h.c2
  have ljl : (jl.map jE).length = jl.length := List.length_map _
  have lbl : (bl.map bE).length = bl.length := List.length_map _
  let E0 : List Sl := [.sh (frD ss jl bl cs), .un, .un, .un, .un, .un]
  let E : List Sl := [.sh (frD ss jl bl cs), .sh (.tup ss), .sh (.tup (jl.map jE)), .sh (.tup (bl.map bE)), .sh (.tup cs), .un]
  have z : ∀ n : Nat, n ≤ 100 → n ≤ PySem.sizeLine := fun n hn => by show n ≤ 2 ^ 24; omega
  have lenJ : ∀ x : Sl, eBlt bLen (aCons (eVar 2) aNil) (E.set 5 x) = some (.ok (.int jl.length) (E.set 5 x)) := fun x => by
    rw [← ljl]
    exact len_of rfl
  -- the parts
  have a1 : asB (eCall F_is_tuple_of (rCons (eVar 0) (rCons (eLit (.int 4)) (rCons (eLit (.int 4)) rNil)))) E0 = some (.ok true E0) :=
    asB_bl _ _ _ _ (eCall_sh [frD ss jl bl cs, .int 4, .int 4] (rcons_of rfl (rcons_of lit_of (rcons_of lit_of rnil_of))) (tupIn (ds := [.tup ss, .tup (jl.map jE), .tup (bl.map bE), .tup cs]) (Int.le_refl 4) (Int.le_refl 4)))
  have a2 : asB (eCall F_is_tuple_of (rCons (eBin atD (eVar 0) (eLit (.int 0))) (rCons (eLit (.int 1)) (rCons (eLit c_SORTS) rNil)))) E0 = some (.ok true E0) :=
    asB_bl _ _ _ _ (eCall_sh [.tup ss, .int 1, .int 6] (rcons_of (bin_of rfl lit_of rfl) (rcons_of lit_of (rcons_of lit_of rnil_of))) (tupIn (by omega) (by omega)))
  have a3 : asB (eCall F_is_tuple_of (rCons (eBin atD (eVar 0) (eLit (.int 1))) (rCons (eLit (.int 2)) (rCons (eLit c_JOINTS) rNil)))) E0 = some (.ok true E0) :=
    asB_bl _ _ _ _ (eCall_sh [.tup (jl.map jE), .int 2, .int 8] (rcons_of (bin_of rfl lit_of rfl) (rcons_of lit_of (rcons_of lit_of rnil_of))) (tupIn (by omega) (by omega)))
  have u1 : sAsg (tgTup 4 (tgCons (tgName 1) (tgCons (tgName 2) (tgCons (tgName 3) (tgCons (tgName 4) tgNil))))) (eVar 0) E0 = some (.ok .nx E) := asg_of rfl rfl
  have a4 : asB (eCall F_is_tuple_of (rCons (eVar 3) (rCons (eLit (.int 1)) (rCons (eLit c_BARS) rNil)))) E = some (.ok true E) :=
    asB_bl _ _ _ _ (eCall_sh [.tup (bl.map bE), .int 1, .int 12] (rcons_of rfl (rcons_of lit_of (rcons_of lit_of rnil_of))) (tupIn (by omega) (by omega)))
  have a5 : asB (eCall F_is_tuple_of (rCons (eVar 4) (rCons (eLit (.int 0)) (rCons (eLit c_CASES) rNil)))) E = some (.ok true E) :=
    asB_bl _ _ _ _ (eCall_sh [.tup cs, .int 0, .int 4] (rcons_of rfl (rcons_of lit_of (rcons_of lit_of rnil_of))) (tupIn (by omega) (by omega)))
  have a6 := asB_bl _ _ _ _ (all1 (v := 5) (src := iSeq (eVar 1)) (f := eCall F_fits_sort (rCons (eVar 5) rNil)) (env := E) (fun _ => true) (seqT_of rfl) rfl (by simp [E]) (z _ (by omega)) fun d hd => eCall_sh [d] (rcons_of rfl rnil_of) (sort_F (h.hS d hd)))
  have a7 := asB_bl _ _ _ _ (all1 (v := 5) (src := iSeq (eVar 2)) (f := eCall F_fits_joint (rCons (eVar 5) rNil)) (env := E) (fun _ => true) (seqT_of rfl) rfl (by simp [E]) (z _ (by omega)) fun d hd => by
    obtain ⟨j, hj, rfl⟩ := List.mem_map.mp hd
    exact eCall_sh [jE j] (rcons_of rfl rnil_of) (joint_F (h.hJ j hj)))
  have a8 := asB_bl _ _ _ _ (all1 (v := 5) (src := iSeq (eVar 3)) (f := eCall F_fits_bar (rCons (eBlt bLen (aCons (eVar 1) aNil)) (rCons (eBlt bLen (aCons (eVar 2) aNil)) (rCons (eVar 5) rNil)))) (env := E) (fun _ => true) (seqT_of rfl) rfl (by simp [E]) (z _ (by omega)) fun d hd => by
    obtain ⟨b, hb, rfl⟩ := List.mem_map.mp hd
    exact eCall_sh [.int ss.length, .int jl.length, bE b] (rcons_of (len_of rfl) (rcons_of (lenJ _) (rcons_of rfl rnil_of))) (bar_F (h.hB b hb)))
  have a9 : eFrz (oComp [5] (iSeq (eVar 2)) (tgName 5) (ret true) (eSl (eVar 5) pNone (pSome (eLit (.int 2))))) E = some (.ok (.lst ((jl.map fun j => [j.1, j.2.1]).map fun k => .tup (k.map D.int))) E) := by
    refine frz_of ((comp1_map (fun d => match d with | .tup (x :: y :: _) => .tup [x, y] | d => d) (seqT_of rfl) rfl (by simp [E]) (z _ (by omega)) fun d hd => ?_).trans ?_)
    · obtain ⟨j, hj, rfl⟩ := List.mem_map.mp hd
      exact sl_tup (ds := [.int j.1, .int j.2.1, j.2.2]) (lo := none) (hi := some 2) rfl rfl rfl
    · rw [List.map_map, List.map_map]; rfl
  have a10 : eFrz (oComp [5] (iSeq (eVar 3)) (tgName 5) (ret true) (eBlt bTuple (aCons (eFrz (oBlt bSorted2 (aCons (eSl (eVar 5) pNone (pSome (eLit (.int 2)))) aNil))) aNil))) E = some (.ok (.lst ((bl.map fun b => sortI [b.1, b.2.1]).map fun k => .tup (k.map D.int))) E) := by
    refine frz_of ((comp1_map (fun d => match d with | .tup (.int x :: .int y :: _) => .tup ((sortI [x, y]).map D.int) | d => d) (seqT_of rfl) rfl (by simp [E]) (z _ (by omega)) fun d hd => ?_).trans ?_)
    · obtain ⟨b, hb, rfl⟩ := List.mem_map.mp hd
      exact blt_of (acons_of (frz_of (oblt_of (acons_of (sl_tup (ds := [.int b.1, .int b.2.1, .int b.2.2.1, .int b.2.2.2]) (lo := none) (hi := some 2) rfl rfl rfl) anil_of) rfl)) anil_of) rfl
    · rw [List.map_map, List.map_map]; rfl
  have a11 : asB (eCall F_are_unlike (rCons (eFrz (oComp [5] (iSeq (eVar 2)) (tgName 5) (ret true) (eSl (eVar 5) pNone (pSome (eLit (.int 2)))))) rNil)) E = some (.ok true E) :=
    asB_bl _ _ _ _ (eCall_sh [_] (rcons_of a9 rnil_of) (unlike_F h.jn (by rw [List.length_map]; omega)))
  have a12 : asB (eCall F_are_unlike (rCons (eFrz (oComp [5] (iSeq (eVar 3)) (tgName 5) (ret true) (eBlt bTuple (aCons (eFrz (oBlt bSorted2 (aCons (eSl (eVar 5) pNone (pSome (eLit (.int 2)))) aNil))) aNil)))) rNil)) E = some (.ok true E) :=
    asB_bl _ _ _ _ (eCall_sh [_] (rcons_of a10 rnil_of) (unlike_F h.bn (by rw [List.length_map]; omega)))
  have a13 := all1 (v := 5) (src := iSeq (eVar 4)) (f := eCall F_fits_load (rCons (eBlt bLen (aCons (eVar 2) aNil)) (rCons (eVar 5) rNil))) (env := E) (fun _ => true) (seqT_of rfl) rfl (by simp [E]) (z _ (by omega)) fun d hd => by
    exact eCall_sh [.int jl.length, d] (rcons_of (lenJ _) (rcons_of rfl rnil_of)) (load_F (h.hC d hd) (by omega))
  rw [all_true] at a6 a7 a8 a13
  refine fn_rt (env' := E) ?_
  unfold b_fits_frame
  refine (seq_nx ((if_f ((orB_f (notB_of a1)).trans ((orB_f (notB_of a2)).trans (notB_of a3)))).trans rfl)).trans ?_
  refine (seq_nx u1).trans ?_
  refine (seq_nx ((if_f ((orB_f (notB_of a4)).trans (notB_of a5))).trans rfl)).trans ?_
  refine (seq_nx ((if_f ((orB_f (notB_of a6)).trans (notB_of a7))).trans rfl)).trans ?_
  refine (seq_nx ((if_f (notB_of a8)).trans rfl)).trans ?_
  refine (seq_nx ((if_f ((orB_f (notB_of a11)).trans (notB_of a12))).trans rfl)).trans ?_
  exact ret_of a13
end K53

namespace K53
open G3
abbrev cupS (k : Bool) (a b : Int) : Sl := .ow k [.int a, .int b]
theorem roll_X {env : List Sl} {i : Nat} {k : Bool} {a b m : Int} {f : EV D} (h : env[i]? = some (cupS k a b)) (hm : 0 < m) (hm2 : m < 2 ^ 60) (e : f env = some (.ok (.int m) env)) :
    ∃ v a' b', 0 ≤ v ∧ v < m ∧ eCall F__law_roll (rIo i (rCons f rNil)) env = some (.ok (.int v) (env.set i (cupS k a' b'))) := by
  obtain ⟨v, a', b', h0, h1, h2⟩ := roll_E a b m hm hm2
  exact ⟨v, a', b', h0, h1, eCall_io [.int m] (rio_of h (rcons_of e rnil_of)) h h2⟩
theorem some_X {env env1 : List Sl} {i : Nat} {k : Bool} {a b a0 b0 : Int} {ds : List D} {f : EV D} (h0 : env[i]? = some (cupS k a0 b0)) (h : env1[i]? = some (cupS k a b)) (hd : ds ≠ []) (hl : ds.length < 2 ^ 60) (e : f env = some (.ok (.lst ds) env1)) :
    ∃ d a' b', d ∈ ds ∧ eCall F__law_some (rIo i (rCons f rNil)) env = some (.ok d (env1.set i (cupS k a' b'))) := by
  obtain ⟨d, a', b', h1, h2⟩ := some_E a b ds hd hl
  exact ⟨d, a', b', h1, eCall_io [.lst ds] (rio_of h0 (rcons_of e rnil_of)) h h2⟩
/-! ### stars -/
def placesP : List (Int × Int) := [(0, 0), (8, 1), (4, 0), (1, 8), (7, 9)]
def placesD : List D := placesP.map fun p => .tup [.int p.1, .int p.2]
def heldJ (v m : Nat) : List J3 := ((placesP.drop v).take m).map fun p => (p.1, p.2, .str "xy")
def allJ (v m : Nat) : List J3 := heldJ v m ++ [(4, 4, .str "")]
theorem all_J {v m : Nat} (hv : v < 3) (hm : m = 2 ∨ m = 3) : (∀ j ∈ allJ v m, JointD (jE j)) ∧ (allJ v m).length = m + 1 ∧ ((allJ v m).map fun j => [j.1, j.2.1]).Nodup := by
  have j : ∀ (x y : Int) (s : D), (0 ≤ x ∧ x ≤ 9) → (0 ≤ y ∧ y ≤ 9) → s ∈ heldD → JointD (jE (x, y, s)) := fun x y s h1 h2 h3 => ⟨x, y, s, rfl, h1, h2, h3⟩
  have x1 : (D.str "xy") ∈ heldD := by simp [heldD]
  have x2 : (D.str "") ∈ heldD := by simp [heldD]
  have hv : v = 0 ∨ v = 1 ∨ v = 2 := by omega
  rcases hv with rfl | rfl | rfl <;> rcases hm with rfl | rfl <;>
  · refine ⟨fun q hq => ?_, rfl, by decide⟩
    simp only [allJ, heldJ, placesP, List.drop, List.take, List.map, List.cons_append, List.nil_append, List.mem_cons, List.not_mem_nil, or_false] at hq
    rcases hq with rfl | hq
    · exact j _ _ _ (by decide) (by decide) (by assumption)
    rcases hq with rfl | hq
    · exact j _ _ _ (by decide) (by decide) (by assumption)
    first
    | (rcases hq with rfl | rfl
       · exact j _ _ _ (by decide) (by decide) (by assumption)
       · exact j _ _ _ (by decide) (by decide) (by assumption))
    | (subst hq; exact j _ _ _ (by decide) (by decide) (by assumption))
def envS (a b : Int) (he so ba ca : Sl) (lo : Sl) (v m : Nat) : List Sl := [cupS true a b, .sh (.lst placesD), he, so, ba, lo, ca, .sh (.int v), .sh (.int m), .un, .un, .un, .un, .un]
theorem held_S {a b : Int} {v m : Nat} (hv : v < 3) (hm : m = 2 ∨ m = 3) : eBlt bTuple (aCons (eFrz (oComp [10] (iSeq (eSl (eVar 1) (pSome (eVar 7)) (pSome (eBin oAdd (eVar 7) (eVar 8))))) (tgName 10) (ret true) (eBin oAdd (eVar 10) (eTup (aCons (eLit (.str "xy")) aNil))))) aNil) (envS a b .un .un .un .un .un v m)
    = some (.ok (.tup ((heldJ v m).map jE)) (envS a b .un .un .un .un .un v m)) := by
  have hl : v + m ≤ placesD.length := by show v + m ≤ 5; omega
  have cut : iSeq (eSl (eVar 1) (pSome (eVar 7)) (pSome (eBin oAdd (eVar 7) (eVar 8)))) (envS a b .un .un .un .un .un v m) = some (.ok (((placesP.drop v).take m).map fun p => .tup [.int p.1, .int p.2]) (envS a b .un .un .un .un .un v m)) := by
    refine seq_of (ds := ((placesP.drop v).take m).map fun p => .tup [.int p.1, .int p.2]) ?_
    unfold eSl
    have x1 : eVar 1 (envS a b .un .un .un .un .un v m) = some (.ok (.lst placesD) (envS a b .un .un .un .un .un v m)) := rfl
    have x2 : pSome (eVar 7) (envS a b .un .un .un .un .un v m) = some (.ok (some (v : Int)) (envS a b .un .un .un .un .un v m)) := pSome_of rfl
    have x3 : pSome (eBin oAdd (eVar 7) (eVar 8)) (envS a b .un .un .un .un .un v m) = some (.ok (some ((v : Int) + (m : Int))) (envS a b .un .un .un .un .un v m)) := pSome_of (bin_of rfl rfl (add_int _ _))
    rw [bnd_ok x1, bnd_ok x2, bnd_ok x3]
    show some (R.ok (D.lst (cutD placesD (some (v : Int)) (some ((v : Int) + (m : Int))))) _) = _
    rw [cutD_mid _ hl]
    unfold placesD
    rw [← List.map_drop, ← List.map_take]
  refine blt_of (acons_of (frz_of ((comp1_map (fun d => match d with | .tup [x, y] => .tup [x, y, .str "xy"] | d => d) cut rfl (by simp [envS]) ?_ fun d hd => ?_).trans ?_)) anil_of) rfl
  · rw [List.length_map, List.length_take]; show _ ≤ 2 ^ 24; omega
  · obtain ⟨p, _, rfl⟩ := List.mem_map.mp hd
    exact bin_of (c := .tup [.int p.1, .int p.2, .str "xy"]) rfl (tup_of (acons_of lit_of anil_of) (by show 1 ≤ 2 ^ 24; omega)) rfl
  · unfold heldJ
    rw [List.map_map, List.map_map]; rfl
theorem add_X {env env1 : List Sl} {f : EV D} {i c : Int} (e : f env = some (.ok (.int i) env1)) : eBin oAdd (eLit (.int c)) f env = some (.ok (.int (c + i)) env1) := bin_of lit_of e (add_int _ _)
theorem rng1_of {f : EV D} {env env1 : List Sl} {n : Nat} (e : f env = some (.ok (.int n) env1)) (h : n ≤ 100000) : iRng1 f env = some (.ok ((List.range n).map fun i => .int (i : Nat)) env1) := by
  unfold iRng1
  rw [bnd_ok e]
  show (if rgOk 0 (n : Int) = true then ret (rgD 0 (n : Int).toNat) else stuck) env1 = _
  rw [if_pos (rgOk_of (by omega) (by omega) (by omega) (by omega))]
  unfold rgD
  show some (R.ok _ _) = _
  congr 2
  rw [Int.toNat_natCast]
  refine List.map_congr_left fun i _ => ?_
  rw [Int.zero_add]
theorem sorts_S {a b : Int} {he : Sl} {v m : Nat} : ∃ ss a' b', eBlt bTuple (aCons (eFrz (oComp [11] (iRng1 (eBin oAdd (eLit (.int 1)) (eCall F__law_roll (rIo 0 (rCons (eLit (.int 2)) rNil))))) (tgName 11) (ret true) (eTup (aCons (eBin oAdd (eLit (.int 1)) (eCall F__law_roll (rIo 0 (rCons (eLit (.int 4)) rNil)))) (aCons (eBin oAdd (eLit (.int 1)) (eCall F__law_roll (rIo 0 (rCons (eLit (.int 12)) rNil)))) (aCons (eBin oAdd (eLit (.int 1)) (eCall F__law_roll (rIo 0 (rCons (eLit (.int 12)) rNil)))) aNil)))))) aNil) (envS a b he .un .un .un .un v m)
    = some (.ok (.tup ss) (envS a' b' he .un .un .un .un v m)) ∧ (∀ d ∈ ss, SortD d) ∧ 1 ≤ ss.length ∧ ss.length ≤ 2 := by
  obtain ⟨n, a1, b1, n0, n1, hn⟩ := roll_X (i := 0) (k := true) (a := a) (b := b) (m := 2) (f := eLit (.int 2)) (env := envS a b he .un .un .un .un v m) rfl (by omega) (by omega) lit_of
  obtain ⟨nn, rfl⟩ := Int.eq_ofNat_of_zero_le n0
  have src := rng1_of (n := 1 + nn) (f := eBin oAdd (eLit (.int 1)) (eCall F__law_roll (rIo 0 (rCons (eLit (.int 2)) rNil)))) (env := envS a b he .un .un .un .un v m) (env1 := envS a1 b1 he .un .un .un .un v m) (by rw [add_X hn]; congr 3) (by omega)
  obtain ⟨ys, s', k1, _, k3⟩ := comp1_st (v := 11) (σ := Int × Int) (fun s => envS s.1 s.2 he .un .un .un .un v m) (fun _ _ => True) (fun _ y => SortD y) (s0 := (a1, b1)) (f := eTup (aCons (eBin oAdd (eLit (.int 1)) (eCall F__law_roll (rIo 0 (rCons (eLit (.int 4)) rNil)))) (aCons (eBin oAdd (eLit (.int 1)) (eCall F__law_roll (rIo 0 (rCons (eLit (.int 12)) rNil)))) (aCons (eBin oAdd (eLit (.int 1)) (eCall F__law_roll (rIo 0 (rCons (eLit (.int 12)) rNil)))) aNil))))
    (fun _ => rfl) src True.intro (by rw [List.length_map, List.length_range]; show _ ≤ 2 ^ 24; omega) fun n s d hd _ => by
      obtain ⟨x1, a2, b2, p1, p2, r1⟩ := roll_X (i := 0) (k := true) (a := s.1) (b := s.2) (m := 4) (f := eLit (.int 4)) (env := (envS s.1 s.2 he .un .un .un .un v m).set 11 (.sh d)) rfl (by omega) (by omega) lit_of
      obtain ⟨x2, a3, b3, p3, p4, r2⟩ := roll_X (i := 0) (k := true) (a := a2) (b := b2) (m := 12) (f := eLit (.int 12)) (env := (envS a2 b2 he .un .un .un .un v m).set 11 (.sh d)) rfl (by omega) (by omega) lit_of
      obtain ⟨x3, a4, b4, p5, p6, r3⟩ := roll_X (i := 0) (k := true) (a := a3) (b := b3) (m := 12) (f := eLit (.int 12)) (env := (envS a3 b3 he .un .un .un .un v m).set 11 (.sh d)) rfl (by omega) (by omega) lit_of
      refine ⟨.tup [.int (1 + x1), .int (1 + x2), .int (1 + x3)], (a4, b4), ?_, True.intro, ⟨_, _, _, rfl, by omega, by omega, by omega⟩⟩
      exact tup_of (acons_of (add_X r1) (acons_of (add_X r2) (acons_of (add_X r3) anil_of))) (by show 3 ≤ 2 ^ 24; omega)
  have hl := k3.length
  rw [List.length_map, List.length_range] at hl
  exact ⟨ys, s'.1, s'.2, blt_of (acons_of (frz_of k1) anil_of) rfl, fun d hd => let ⟨_, _, q⟩ := k3.all d hd; q, by omega, by omega⟩
end K53
namespace K53
open G3
/-- what a bar's turn gives -/
def BarQ (m ns : Nat) (d y : D) : Prop := ∃ (at' : Nat) (p q s c : Int), d = .int at' ∧ y = bD p q s c ∧ ((p = at' ∧ q = m) ∨ (p = m ∧ q = at')) ∧ (0 ≤ s ∧ s < ns) ∧ (-99 ≤ c ∧ c ≤ 99)
theorem sort_two {x y : Int} (h : x ≤ y) : sortI [x, y] = [x, y] ∧ sortI [y, x] = [x, y] := by
  have hp : List.Pairwise (· ≤ ·) [x, y] := by simp [h]
  exact ⟨(sortI_eq (List.Perm.refl _) hp).symm, (sortI_eq (List.Perm.swap y x []) hp).symm⟩
theorem bars_of {m ns : Nat} : ∀ {L : List Nat} {ys : List D}, Paired2 (BarQ m ns) (L.map fun i => .int (i : Nat)) ys → (∀ i ∈ L, i < m) →
    ∃ bl : List B4, ys = bl.map bE ∧ (bl.map fun b => sortI [b.1, b.2.1]) = L.map (fun i => [((i : Nat) : Int), (m : Int)]) ∧ ∀ b ∈ bl, BarD ns (m + 1) (bE b)
  | [], _, .nil, _ => ⟨[], rfl, rfl, fun b hb => nomatch hb⟩
  | i :: L, _, .cons h t, hL => by
    obtain ⟨bl, e1, e2, e3⟩ := bars_of t fun j hj => hL j (List.mem_cons_of_mem _ hj)
    have hi := hL i List.mem_cons_self
    obtain ⟨at', p, q, s, c, d1, rfl, hpq, hs, hc⟩ := h
    have ei : (i : Int) = (at' : Int) := by injection d1
    have ei : i = at' := by omega
    subst ei
    refine ⟨(p, q, s, c) :: bl, by rw [List.map_cons, e1]; rfl, ?_, fun b hb => ?_⟩
    · rw [List.map_cons, List.map_cons, e2]
      congr 1
      have st := sort_two (x := (i : Int)) (y := (m : Int)) (by omega)
      rcases hpq with ⟨rfl, rfl⟩ | ⟨rfl, rfl⟩
      · exact st.1
      · exact st.2
    · rcases List.mem_cons.mp hb with rfl | hb
      · refine ⟨p, q, s, c, rfl, ?_, ?_, ?_, hs, hc⟩ <;> rcases hpq with ⟨rfl, rfl⟩ | ⟨rfl, rfl⟩ <;> omega
      · exact e3 b hb
theorem pairs_nodup (m : Int) : ∀ {L : List Nat}, L.Nodup → (L.map (fun i => [((i : Nat) : Int), m])).Nodup
  | [], _ => List.nodup_nil
  | i :: L, h => by
    have h := List.nodup_cons.mp h
    rw [List.map_cons]
    refine List.nodup_cons.mpr ⟨fun z => ?_, pairs_nodup m h.2⟩
    obtain ⟨j, hj, e⟩ := List.mem_map.mp z
    injection e with e1 _
    have : j = i := by omega
    exact h.1 (this ▸ hj)
theorem step_of {f h : EV D} {env env1 env2 : List Sl} {a b c : D} (e1 : f env = some (.ok a env1)) (e2 : h env1 = some (.ok b env2)) (e3 : stepD a b = some c) : eStep f h env = some (.ok c env2) := by
  unfold eStep; rw [bnd_ok e1, bnd_ok e2, e3]; rfl
theorem bars_S {a b : Int} {he : Sl} {ss : List D} {v m : Nat} (hs1 : 1 ≤ ss.length) (hs2 : ss.length ≤ 2) (hm : m = 2 ∨ m = 3) : ∃ (bl : List B4) (a' b' : Int), eBlt bTuple (aCons (eFrz (oComp [12] (iRng1 (eVar 8)) (tgName 12) (ret true) (eBin oAdd (eStep (eTup (aCons (eVar 12) (aCons (eVar 8) aNil))) (eCall F__law_some (rIo 0 (rCons (eFrz (oLst (aCons (eLit (.int 1)) (aCons (eNeg (eLit (.int 1))) aNil)))) rNil)))) (eTup (aCons (eCall F__law_roll (rIo 0 (rCons (eBlt bLen (aCons (eVar 3) aNil)) rNil))) (aCons (eCall F__law_some (rIo 0 (rCons (eFrz (oLst (aCons (eLit (.int 0)) (aCons (eLit (.int 0)) (aCons (eLit (.int 1)) (aCons (eNeg (eLit (.int 2))) (aCons (eLit (.int 3)) aNil))))))) rNil))) aNil)))))) aNil) (envS a b he (.sh (.tup ss)) .un .un .un v m)
    = some (.ok (.tup (bl.map bE)) (envS a' b' he (.sh (.tup ss)) .un .un .un v m)) ∧ bl.length = m ∧ (bl.map fun b => sortI [b.1, b.2.1]).Nodup ∧ ∀ b ∈ bl, BarD ss.length (m + 1) (bE b) := by
  have hm3 : m ≤ 3 := by omega
  obtain ⟨ys, s', k1, _, k3⟩ := comp1_st (v := 12) (σ := Int × Int) (fun s => envS s.1 s.2 he (.sh (.tup ss)) .un .un .un v m) (fun _ _ => True) (BarQ m ss.length) (s0 := (a, b)) (src := iRng1 (eVar 8)) (env := envS a b he (.sh (.tup ss)) .un .un .un v m)
    (f := eBin oAdd (eStep (eTup (aCons (eVar 12) (aCons (eVar 8) aNil))) (eCall F__law_some (rIo 0 (rCons (eFrz (oLst (aCons (eLit (.int 1)) (aCons (eNeg (eLit (.int 1))) aNil)))) rNil)))) (eTup (aCons (eCall F__law_roll (rIo 0 (rCons (eBlt bLen (aCons (eVar 3) aNil)) rNil))) (aCons (eCall F__law_some (rIo 0 (rCons (eFrz (oLst (aCons (eLit (.int 0)) (aCons (eLit (.int 0)) (aCons (eLit (.int 1)) (aCons (eNeg (eLit (.int 2))) (aCons (eLit (.int 3)) aNil))))))) rNil))) aNil))))
    (fun _ => rfl) (rng1_of (n := m) rfl (by omega)) True.intro (by rw [List.length_map, List.length_range]; show _ ≤ 2 ^ 24; omega) fun n s d hd _ => by
      obtain ⟨at', hat, rfl⟩ := List.mem_map.mp hd
      obtain ⟨sg, a2, b2, g1, r1⟩ := some_X (i := 0) (k := true) (a := s.1) (b := s.2) (a0 := s.1) (b0 := s.2) (ds := [.int 1, .int (-1)]) (f := eFrz (oLst (aCons (eLit (.int 1)) (aCons (eNeg (eLit (.int 1))) aNil)))) (env := (envS s.1 s.2 he (.sh (.tup ss)) .un .un .un v m).set 12 (.sh (.int at'))) (env1 := (envS s.1 s.2 he (.sh (.tup ss)) .un .un .un v m).set 12 (.sh (.int at'))) rfl rfl (by simp) (by show 2 < 2 ^ 60; omega) rfl
      obtain ⟨x2, a3, b3, p3, p4, r2⟩ := roll_X (i := 0) (k := true) (a := a2) (b := b2) (m := ss.length) (f := eBlt bLen (aCons (eVar 3) aNil)) (env := (envS a2 b2 he (.sh (.tup ss)) .un .un .un v m).set 12 (.sh (.int at'))) rfl (by omega) (by omega) (len_of rfl)
      obtain ⟨cd, a4, b4, g3, r3⟩ := some_X (i := 0) (k := true) (a := a3) (b := b3) (a0 := a3) (b0 := b3) (ds := [.int 0, .int 0, .int 1, .int (-2), .int 3]) (f := eFrz (oLst (aCons (eLit (.int 0)) (aCons (eLit (.int 0)) (aCons (eLit (.int 1)) (aCons (eNeg (eLit (.int 2))) (aCons (eLit (.int 3)) aNil))))))) (env := (envS a3 b3 he (.sh (.tup ss)) .un .un .un v m).set 12 (.sh (.int at'))) (env1 := (envS a3 b3 he (.sh (.tup ss)) .un .un .un v m).set 12 (.sh (.int at'))) rfl rfl (by simp) (by show 5 < 2 ^ 60; omega) rfl
      obtain ⟨c, rfl, hc⟩ : ∃ c : Int, cd = .int c ∧ (-99 ≤ c ∧ c ≤ 99) := by
        have g3 : cd = .int 0 ∨ cd = .int 0 ∨ cd = .int 1 ∨ cd = .int (-2) ∨ cd = .int 3 := by simpa using g3
        rcases g3 with rfl | rfl | rfl | rfl | rfl <;> exact ⟨_, rfl, by omega⟩
      have g1 : sg = .int 1 ∨ sg = .int (-1) := by simpa using g1
      have tp : eTup (aCons (eCall F__law_roll (rIo 0 (rCons (eBlt bLen (aCons (eVar 3) aNil)) rNil))) (aCons (eCall F__law_some (rIo 0 (rCons (eFrz (oLst (aCons (eLit (.int 0)) (aCons (eLit (.int 0)) (aCons (eLit (.int 1)) (aCons (eNeg (eLit (.int 2))) (aCons (eLit (.int 3)) aNil))))))) rNil))) aNil)) ((envS a2 b2 he (.sh (.tup ss)) .un .un .un v m).set 12 (.sh (.int at')))
          = some (.ok (.tup [.int x2, .int c]) ((envS a4 b4 he (.sh (.tup ss)) .un .un .un v m).set 12 (.sh (.int at')))) := tup_of (acons_of r2 (acons_of r3 anil_of)) (by show 2 ≤ 2 ^ 24; omega)
      have pr : eTup (aCons (eVar 12) (aCons (eVar 8) aNil)) ((envS s.1 s.2 he (.sh (.tup ss)) .un .un .un v m).set 12 (.sh (.int at'))) = some (.ok (.tup [.int at', .int m]) ((envS s.1 s.2 he (.sh (.tup ss)) .un .un .un v m).set 12 (.sh (.int at')))) := tup_of rfl (by show 2 ≤ 2 ^ 24; omega)
      rcases g1 with rfl | rfl
      · refine ⟨bD at' m x2 c, (a4, b4), bin_of (step_of pr r1 rfl) tp rfl, True.intro, at', at', m, x2, c, rfl, rfl, .inl ⟨rfl, rfl⟩, ⟨p3, p4⟩, hc⟩
      · refine ⟨bD m at' x2 c, (a4, b4), bin_of (step_of pr r1 rfl) tp rfl, True.intro, at', m, at', x2, c, rfl, rfl, .inr ⟨rfl, rfl⟩, ⟨p3, p4⟩, hc⟩
  have hl := k3.length
  rw [List.length_map, List.length_range] at hl
  obtain ⟨bl, e1, e2, e3⟩ := bars_of k3 fun i hi => List.mem_range.mp hi
  refine ⟨bl, s'.1, s'.2, ?_, ?_, ?_, e3⟩
  · rw [← e1]
    exact blt_of (acons_of (frz_of k1) anil_of) rfl
  · rw [← hl, e1, List.length_map]
  · rw [e2]
    exact pairs_nodup m List.nodup_range
end K53

namespace K53
open G3
theorem sub_X {env env1 : List Sl} {f : EV D} {i c : Int} (e : f env = some (.ok (.int i) env1)) : eBin oSub f (eLit (.int c)) env = some (.ok (.int (i - c)) env1) := bin_of e lit_of rfl
def LoP (d : D) : Prop := ∃ x y : Int, d = .tup [.int x, .int y] ∧ (-20 ≤ x ∧ x ≤ 20) ∧ (-20 ≤ y ∧ y ≤ 20)
theorem loads_S {a b : Int} {he so ba : Sl} {v m : Nat} : ∃ (ls : List D) (a' b' : Int), sSetO 5 (oComp [9] (iRng1 (eBin oAdd (eLit (.int 1)) (eCall F__law_roll (rIo 0 (rCons (eLit (.int 2)) rNil))))) (tgName 9) (ret true) (eTup (aCons (eBin oSub (eCall F__law_roll (rIo 0 (rCons (eLit (.int 41)) rNil))) (eLit (.int 20))) (aCons (eBin oSub (eCall F__law_roll (rIo 0 (rCons (eLit (.int 41)) rNil))) (eLit (.int 20))) aNil)))) (envS a b he so ba .un .un v m)
    = some (.ok .nx (envS a' b' he so ba .un (.ow false ls) v m)) ∧ (∀ d ∈ ls, LoP d) ∧ 1 ≤ ls.length ∧ ls.length ≤ 2 := by
  obtain ⟨n, a1, b1, n0, n1, hn⟩ := roll_X (i := 0) (k := true) (a := a) (b := b) (m := 2) (f := eLit (.int 2)) (env := envS a b he so ba .un .un v m) rfl (by omega) (by omega) lit_of
  obtain ⟨nn, rfl⟩ := Int.eq_ofNat_of_zero_le n0
  have src := rng1_of (n := 1 + nn) (f := eBin oAdd (eLit (.int 1)) (eCall F__law_roll (rIo 0 (rCons (eLit (.int 2)) rNil)))) (env := envS a b he so ba .un .un v m) (env1 := envS a1 b1 he so ba .un .un v m) (by rw [add_X hn]; congr 3) (by omega)
  obtain ⟨ys, s', k1, _, k3⟩ := comp1_st (v := 9) (σ := Int × Int) (fun s => envS s.1 s.2 he so ba .un .un v m) (fun _ _ => True) (fun _ y => LoP y) (s0 := (a1, b1)) (f := eTup (aCons (eBin oSub (eCall F__law_roll (rIo 0 (rCons (eLit (.int 41)) rNil))) (eLit (.int 20))) (aCons (eBin oSub (eCall F__law_roll (rIo 0 (rCons (eLit (.int 41)) rNil))) (eLit (.int 20))) aNil)))
    (fun _ => rfl) src True.intro (by rw [List.length_map, List.length_range]; show _ ≤ 2 ^ 24; omega) fun n s d hd _ => by
      obtain ⟨x1, a2, b2, p1, p2, r1⟩ := roll_X (i := 0) (k := true) (a := s.1) (b := s.2) (m := 41) (f := eLit (.int 41)) (env := (envS s.1 s.2 he so ba .un .un v m).set 9 (.sh d)) rfl (by omega) (by omega) lit_of
      obtain ⟨x2, a3, b3, p3, p4, r2⟩ := roll_X (i := 0) (k := true) (a := a2) (b := b2) (m := 41) (f := eLit (.int 41)) (env := (envS a2 b2 he so ba .un .un v m).set 9 (.sh d)) rfl (by omega) (by omega) lit_of
      refine ⟨.tup [.int (x1 - 20), .int (x2 - 20)], (a3, b3), ?_, True.intro, ⟨_, _, rfl, by omega, by omega⟩⟩
      exact tup_of (acons_of (sub_X r1) (acons_of (sub_X r2) anil_of)) (by show 2 ≤ 2 ^ 24; omega)
  have hl := k3.length
  rw [List.length_map, List.length_range] at hl
  exact ⟨ys, s'.1, s'.2, setO_of k1 rfl, fun d hd => let ⟨_, _, q⟩ := k3.all d hd; q, by omega, by omega⟩
theorem cases_S {a b : Int} {he so ba : Sl} {v m : Nat} {ls : List D} (hm : m = 2 ∨ m = 3) (hls : ∀ d ∈ ls, LoP d) (l2 : ls.length ≤ 2) : ∃ cs : List D, eBlt bTuple (aCons (eFrz (oComp [13] (iSeq (eVar 5)) (tgName 13) (ret true) (eBin oAdd (eBin oMul (eTup (aCons (eTup (aCons (eLit (.int 0)) (aCons (eLit (.int 0)) aNil))) aNil)) (eVar 8)) (eTup (aCons (eIf (asB (eBin oNe (eVar 13) (eTup (aCons (eLit (.int 0)) (aCons (eLit (.int 0)) aNil))))) (eVar 13) (eTup (aCons (eLit (.int 0)) (aCons (eNeg (eLit (.int 9))) aNil)))) aNil))))) aNil) (envS a b he so ba .un (.ow false ls) v m)
    = some (.ok (.tup cs) (envS a b he so ba .un (.sh (.lst ls)) v m)) ∧ cs.length = ls.length ∧ ∀ c ∈ cs, LoadD (m + 1) c := by
  have src : iSeq (eVar 5) (envS a b he so ba .un (.ow false ls) v m) = some (.ok ls (envS a b he so ba .un (.sh (.lst ls)) v m)) := seq_of rfl
  obtain ⟨ys, s', k1, _, k3⟩ := comp1_st (v := 13) (σ := Unit) (fun _ => envS a b he so ba .un (.sh (.lst ls)) v m) (fun _ _ => True) (fun _ y => LoadD (m + 1) y) (s0 := ()) (f := eBin oAdd (eBin oMul (eTup (aCons (eTup (aCons (eLit (.int 0)) (aCons (eLit (.int 0)) aNil))) aNil)) (eVar 8)) (eTup (aCons (eIf (asB (eBin oNe (eVar 13) (eTup (aCons (eLit (.int 0)) (aCons (eLit (.int 0)) aNil))))) (eVar 13) (eTup (aCons (eLit (.int 0)) (aCons (eNeg (eLit (.int 9))) aNil)))) aNil)))
    (fun _ => rfl) src True.intro (by show _ ≤ 2 ^ 24; omega) fun n s d hd _ => by
      obtain ⟨x, y, rfl, hx, hy⟩ := hls d hd
      let E := (envS a b he so ba .un (.sh (.lst ls)) v m).set 13 (.sh (.tup [.int x, .int y]))
      have z0 : eTup (aCons (eLit (.int 0)) (aCons (eLit (.int 0)) aNil)) E = some (.ok (.tup [.int 0, .int 0]) E) := tup_of rfl (by show 2 ≤ 2 ^ 24; omega)
      have t0 : asB (eBin oNe (eVar 13) (eTup (aCons (eLit (.int 0)) (aCons (eLit (.int 0)) aNil)))) E = some (.ok (!decide (x = 0 ∧ y = 0)) E) := asB_bl _ _ _ _ (bin_of rfl z0 (oNe_pair _ _ _ _))
      have zs : eTup (aCons (eTup (aCons (eLit (.int 0)) (aCons (eLit (.int 0)) aNil))) aNil) E = some (.ok (.tup [.tup [.int 0, .int 0]]) E) := tup_of (acons_of z0 anil_of) (by show 1 ≤ 2 ^ 24; omega)
      have mu : eBin oMul (eTup (aCons (eTup (aCons (eLit (.int 0)) (aCons (eLit (.int 0)) aNil))) aNil)) (eVar 8) E = some (.ok (.tup (List.replicate m (.tup [.int 0, .int 0]))) E) := by
        refine bin_of zs rfl (b := .int m) ?_
        rcases hm with rfl | rfl <;> rfl
      have pz : PairD (.tup [.int 0, .int 0]) := ⟨0, 0, rfl, by omega, by omega⟩
      have fin : ∀ w : D, PairD w → LoadD (m + 1) (.tup (List.replicate m (.tup [.int 0, .int 0]) ++ [w])) := fun w hw => ⟨_, rfl, by simp, fun p hp => by
        rcases List.mem_append.mp hp with hp | hp
        · rw [List.eq_of_mem_replicate hp]; exact pz
        · rw [List.mem_singleton.mp hp]; exact hw⟩
      have ad : ∀ w : D, oAdd (.tup (List.replicate m (.tup [.int 0, .int 0]))) (.tup [w]) = some (.tup (List.replicate m (.tup [.int 0, .int 0]) ++ [w])) := fun w => by
        show (if (List.replicate m (D.tup [.int 0, .int 0])).length + 1 ≤ PySem.sizeLine then some _ else none) = _
        rw [if_pos (by rw [List.length_replicate]; show _ ≤ 2 ^ 24; omega)]
      by_cases hz : x = 0 ∧ y = 0
      · rw [decide_eq_true hz] at t0
        have i0 : eIf (asB (eBin oNe (eVar 13) (eTup (aCons (eLit (.int 0)) (aCons (eLit (.int 0)) aNil))))) (eVar 13) (eTup (aCons (eLit (.int 0)) (aCons (eNeg (eLit (.int 9))) aNil))) E = some (.ok (.tup [.int 0, .int (-9)]) E) := by
          unfold eIf
          rw [bnd_ok t0]
          exact tup_of rfl (by show 2 ≤ 2 ^ 24; omega)
        exact ⟨_, (), bin_of mu (tup_of (acons_of i0 anil_of) (by show 1 ≤ 2 ^ 24; omega)) (ad _), True.intro, fin _ ⟨0, -9, rfl, by omega, by omega⟩⟩
      · rw [decide_eq_false hz] at t0
        have i0 : eIf (asB (eBin oNe (eVar 13) (eTup (aCons (eLit (.int 0)) (aCons (eLit (.int 0)) aNil))))) (eVar 13) (eTup (aCons (eLit (.int 0)) (aCons (eNeg (eLit (.int 9))) aNil))) E = some (.ok (.tup [.int x, .int y]) E) := by
          unfold eIf
          rw [bnd_ok t0]
          rfl
        exact ⟨_, (), bin_of mu (tup_of (acons_of i0 anil_of) (by show 1 ≤ 2 ^ 24; omega)) (ad _), True.intro, fin _ ⟨x, y, rfl, by omega, by omega⟩⟩
  exact ⟨ys, blt_of (acons_of (frz_of k1) anil_of) rfl, k3.length, fun c hc => let ⟨_, _, q⟩ := k3.all c hc; q⟩
theorem star_E (a b : Int) : ∃ (fr : D) (nc : Nat) (a' b' : Int), F__law_star [cupS true a b] = some (.sh fr [cupS true a' b']) ∧ Fr fr nc ∧ 1 ≤ nc ∧ nc ≤ 2 := by
  let E1 : List Sl := [cupS true a b, .sh (.lst placesD), .un, .un, .un, .un, .un, .un, .un, .un, .un, .un, .un, .un]
  have p1 : sSet 1 (eFrz (oLst (aCons (eTup (aCons (eLit (.int 0)) (aCons (eLit (.int 0)) aNil))) (aCons (eTup (aCons (eLit (.int 8)) (aCons (eLit (.int 1)) aNil))) (aCons (eTup (aCons (eLit (.int 4)) (aCons (eLit (.int 0)) aNil))) (aCons (eTup (aCons (eLit (.int 1)) (aCons (eLit (.int 8)) aNil))) (aCons (eTup (aCons (eLit (.int 7)) (aCons (eLit (.int 9)) aNil))) aNil)))))))
      [cupS true a b, .un, .un, .un, .un, .un, .un, .un, .un, .un, .un, .un, .un, .un] = some (.ok .nx E1) := by
    have tp : ∀ x y : Int, ∀ env : List Sl, eTup (aCons (eLit (.int x)) (aCons (eLit (.int y)) aNil)) env = some (.ok (.tup [.int x, .int y]) env) := fun x y env => tup_of rfl (by show 2 ≤ 2 ^ 24; omega)
    exact set_of (frz_of (lst_of (acons_of (tp _ _ _) (acons_of (tp _ _ _) (acons_of (tp _ _ _) (acons_of (tp _ _ _) (acons_of (tp _ _ _) anil_of))))) (by show 5 ≤ 2 ^ 24; omega))) rfl
  obtain ⟨v, a1, b1, v0, v1, r1⟩ := roll_X (i := 0) (k := true) (a := a) (b := b) (m := 3) (f := eLit (.int 3)) (env := E1) rfl (by omega) (by omega) lit_of
  obtain ⟨vn, rfl⟩ := Int.eq_ofNat_of_zero_le v0
  obtain ⟨md, a2, b2, g2, r2⟩ := some_X (i := 0) (k := true) (a := a1) (b := b1) (a0 := a1) (b0 := b1) (ds := [.int 2, .int 3, .int 3, .int 3]) (f := eFrz (oLst (aCons (eLit (.int 2)) (aCons (eLit (.int 3)) (aCons (eLit (.int 3)) (aCons (eLit (.int 3)) aNil)))))) (env := E1.set 0 (cupS true a1 b1)) (env1 := E1.set 0 (cupS true a1 b1)) rfl rfl (by simp) (by show 4 < 2 ^ 60; omega) rfl
  obtain ⟨m, hm, rfl⟩ : ∃ m : Nat, (m = 2 ∨ m = 3) ∧ md = .int m := by
    have g2 : md = .int 2 ∨ md = .int 3 ∨ md = .int 3 ∨ md = .int 3 := by simpa using g2
    rcases g2 with rfl | rfl | rfl | rfl
    · exact ⟨2, .inl rfl, rfl⟩
    all_goals exact ⟨3, .inr rfl, rfl⟩
  have hv : vn < 3 := by omega
  have p2 : sParL [7, 8] (qS (eCall F__law_roll (rIo 0 (rCons (eLit (.int 3)) rNil))) (qS (eCall F__law_some (rIo 0 (rCons (eFrz (oLst (aCons (eLit (.int 2)) (aCons (eLit (.int 3)) (aCons (eLit (.int 3)) (aCons (eLit (.int 3)) aNil)))))) rNil))) qNil)) E1 = some (.ok .nx (envS a2 b2 .un .un .un .un .un vn m)) := by
    have q : (qS (eCall F__law_roll (rIo 0 (rCons (eLit (.int 3)) rNil))) (qS (eCall F__law_some (rIo 0 (rCons (eFrz (oLst (aCons (eLit (.int 2)) (aCons (eLit (.int 3)) (aCons (eLit (.int 3)) (aCons (eLit (.int 3)) aNil)))))) rNil))) qNil)) E1 = some (.ok [.sh (.int vn), .sh (.int m)] (E1.set 0 (cupS true a2 b2))) := by
      unfold qS
      rw [bnd_ok r1, bnd_ok (show bnd (eCall F__law_some (rIo 0 (rCons (eFrz (oLst (aCons (eLit (.int 2)) (aCons (eLit (.int 3)) (aCons (eLit (.int 3)) (aCons (eLit (.int 3)) aNil)))))) rNil))) (fun d => bnd qNil fun ds => ret (Sl.sh d :: ds)) (E1.set 0 (cupS true a1 b1)) = some (.ok [.sh (.int m)] (E1.set 0 (cupS true a2 b2))) from by rw [bnd_ok r2]; rfl)]
      rfl
    unfold sParL
    rw [bnd_ok q]
    rfl
  have h3 := held_S (a := a2) (b := b2) hv hm
  obtain ⟨J1, J2, J3⟩ := all_J hv hm
  obtain ⟨ss, a3, b3, h4, hS, s1, s2⟩ := sorts_S (a := a2) (b := b2) (he := .sh (.tup ((heldJ vn m).map jE))) (v := vn) (m := m)
  obtain ⟨bl, a4, b4, h5, l5, n5, hB⟩ := bars_S (a := a3) (b := b3) (he := .sh (.tup ((heldJ vn m).map jE))) (v := vn) s1 s2 hm
  obtain ⟨ls, a6, b6, h6, hL, l1, l2⟩ := loads_S (a := a4) (b := b4) (he := .sh (.tup ((heldJ vn m).map jE))) (so := .sh (.tup ss)) (ba := .sh (.tup (bl.map bE))) (v := vn) (m := m)
  obtain ⟨cs, h7, l7, hC⟩ := cases_S (a := a6) (b := b6) (he := .sh (.tup ((heldJ vn m).map jE))) (so := .sh (.tup ss)) (ba := .sh (.tup (bl.map bE))) (v := vn) hm hL l2
  have ok : FrameOk ss (allJ vn m) bl cs := ⟨hS, s1, by omega, J1, by omega, by omega, J3, fun b hb => by rw [J2]; exact hB b hb, by omega, by omega, n5, fun c hc => by rw [J2]; exact hC c hc, by omega⟩
  refine ⟨frD ss (allJ vn m) bl cs, cs.length, a6, b6, ?_, ⟨⟨_, _, _, cs, rfl, rfl⟩, by omega, frame_F ok⟩, by omega, by omega⟩
  refine fn_rt (env' := envS a6 b6 (.sh (.tup ((heldJ vn m).map jE))) (.sh (.tup ss)) (.sh (.tup (bl.map bE))) (.sh (.tup cs)) (.sh (.lst ls)) vn m) ?_
  unfold b__law_star
  refine (seq_nx p1).trans ((seq_nx p2).trans ?_)
  refine (seq_nx (env1 := envS a2 b2 (.sh (.tup ((heldJ vn m).map jE))) .un .un .un .un vn m) (set_of h3 rfl)).trans ?_
  refine (seq_nx (env1 := envS a3 b3 (.sh (.tup ((heldJ vn m).map jE))) (.sh (.tup ss)) .un .un .un vn m) (set_of h4 rfl)).trans ?_
  refine (seq_nx (env1 := envS a4 b4 (.sh (.tup ((heldJ vn m).map jE))) (.sh (.tup ss)) (.sh (.tup (bl.map bE))) .un .un vn m) (set_of h5 rfl)).trans ?_
  refine (seq_nx h6).trans ?_
  refine (seq_nx (env1 := envS a6 b6 (.sh (.tup ((heldJ vn m).map jE))) (.sh (.tup ss)) (.sh (.tup (bl.map bE))) (.sh (.tup cs)) (.sh (.lst ls)) vn m) (set_of h7 rfl)).trans ?_
  refine ret_of (tup_of (as := [.tup ss, .tup ((allJ vn m).map jE), .tup (bl.map bE), .tup cs]) (acons_of rfl (acons_of (bin_of rfl (tup_of (as := [jE (4, 4, .str "")]) (acons_of (tup_of (as := [.int 4, .int 4, .str ""]) rfl (by show 3 ≤ 2 ^ 24; omega)) anil_of) (by show 1 ≤ 2 ^ 24; omega)) ?_) (acons_of rfl (acons_of rfl anil_of)))) (by show 4 ≤ 2 ^ 24; omega))
  show (if ((heldJ vn m).map jE).length + 1 ≤ PySem.sizeLine then some (D.tup ((heldJ vn m).map jE ++ [jE (4, 4, .str "")])) else none) = _
  have lh : (heldJ vn m).length + 1 = m + 1 := by
    have := J2
    unfold allJ at this
    rw [List.length_append] at this
    exact this
  rw [if_pos (by rw [List.length_map]; show _ ≤ 2 ^ 24; omega)]
  unfold allJ
  rw [List.map_append]; rfl
end K53

namespace K53
open G3
theorem er_map {α β : Type} (f : α → β) : ∀ (l : List α) (i : Nat), (l.map f).eraseIdx i = (l.eraseIdx i).map f
  | [], _ => rfl
  | x :: l, 0 => rfl
  | x :: l, i + 1 => by
    show f x :: (l.map f).eraseIdx i = f x :: (l.eraseIdx i).map f
    rw [er_map f l i]
theorem pop_of {i : Nat} {f : EV D} {env env1 : List Sl} {k : Bool} {ds ds1 : List D} {v : Int} {d : D} (h0 : env[i]? = some (.ow k ds)) (h1 : f env = some (.ok (.int v) env1)) (h2 : env1[i]? = some (.ow k ds1)) (v0 : 0 ≤ v) (v1 : v < ds1.length) (v2 : v < 2 ^ 60) (hd : ds1[v.toNat]? = some d) :
    ePop i f env = some (.ok d (env1.set i (.ow k (ds1.eraseIdx v.toNat)))) := by
  have c : chkO i env = some (.ok () env) := by unfold chkO; rw [h0]
  have p : popD (.int v) ds1 = some (d, ds1.eraseIdx v.toNat) := by
    show (if -(2 ^ 63) ≤ v ∧ v < 2 ^ 63 then _ else none) = _
    rw [if_pos (by omega), PySem.seqIndex_of v0 v1]
    show ds1[v.toNat]?.map _ = _
    rw [hd]; rfl
  unfold ePop
  rw [bnd_ok c, bnd_ok h1]
  unfold popV
  rw [h2]
  show (popD (.int v) ds1).map _ = _
  rw [p]; rfl
theorem lenV_of {i : Nat} {env : List Sl} {k : Bool} {ds : List D} (h : env[i]? = some (.ow k ds)) : eLenV i env = some (.ok (.int ds.length) env) := by
  have r : rdV i env = some (.ok (.lst ds) env) := by
    unfold rdV
    rw [h]; rfl
  unfold eLenV
  rw [bnd_ok r]; rfl
def CaP (nc : Nat) (d : D) : Prop := ∃ c : Int, d = .int c ∧ -1 ≤ c ∧ c ≤ (nc : Int) - 1
def FacP (d : D) : Prop := ∃ n e : Int, d = .tup [.int n, .int e] ∧ 1 ≤ e ∧ Int.gcd n e = 1 ∧ 0 ≤ n
def envA (a b : Int) (fr : D) (most : Nat) (es : List Ev) (nc : Nat) (x5 x6 x7 : Sl) : List Sl := [cupS true a b, .sh fr, .sh (.int most), .sh (.lst (es.map evD)), .sh (.int nc), x5, x6, x7, .un, .un]
noncomputable abbrev facX : EV D := eCall F__law_some (rIo 0 (rCons (eFrz (oLst (aCons (eTup (aCons (eLit (.int 1)) (aCons (eLit (.int 1)) aNil))) (aCons (eTup (aCons (eLit (.int 1)) (aCons (eLit (.int 2)) aNil))) (aCons (eTup (aCons (eLit (.int 0)) (aCons (eLit (.int 1)) aNil))) (aCons (eTup (aCons (eLit (.int 3)) (aCons (eLit (.int 1)) aNil))) (aCons (eCall F__law_made (rCons (eCall F__law_roll (rIo 0 (rCons (eLit (.int 30)) rNil))) (rCons (eBin oAdd (eLit (.int 1)) (eCall F__law_roll (rIo 0 (rCons (eLit (.int 6)) rNil)))) rNil))) aNil))))))) rNil))
theorem fac_A {a b : Int} {fr : D} {most nc : Nat} {es : List Ev} {x5 x6 x7 : Sl} : ∃ (f : D) (a' b' : Int), facX (envA a b fr most es nc x5 x6 x7) = some (.ok f (envA a' b' fr most es nc x5 x6 x7)) ∧ FacP f := by
  obtain ⟨n, a1, b1, n0, n1, r1⟩ := roll_X (i := 0) (k := true) (a := a) (b := b) (m := 30) (f := eLit (.int 30)) (env := envA a b fr most es nc x5 x6 x7) rfl (by omega) (by omega) lit_of
  obtain ⟨e, a2, b2, e0, e1, r2⟩ := roll_X (i := 0) (k := true) (a := a1) (b := b1) (m := 6) (f := eLit (.int 6)) (env := envA a1 b1 fr most es nc x5 x6 x7) rfl (by omega) (by omega) lit_of
  have mk := made_F n (1 + e) (by omega) (by omega)
  have tp : ∀ x y : Int, ∀ env : List Sl, eTup (aCons (eLit (.int x)) (aCons (eLit (.int y)) aNil)) env = some (.ok (.tup [.int x, .int y]) env) := fun x y env => tup_of rfl (by show 2 ≤ 2 ^ 24; omega)
  have lst : eFrz (oLst (aCons (eTup (aCons (eLit (.int 1)) (aCons (eLit (.int 1)) aNil))) (aCons (eTup (aCons (eLit (.int 1)) (aCons (eLit (.int 2)) aNil))) (aCons (eTup (aCons (eLit (.int 0)) (aCons (eLit (.int 1)) aNil))) (aCons (eTup (aCons (eLit (.int 3)) (aCons (eLit (.int 1)) aNil))) (aCons (eCall F__law_made (rCons (eCall F__law_roll (rIo 0 (rCons (eLit (.int 30)) rNil))) (rCons (eBin oAdd (eLit (.int 1)) (eCall F__law_roll (rIo 0 (rCons (eLit (.int 6)) rNil)))) rNil))) aNil)))))) (envA a b fr most es nc x5 x6 x7)
      = some (.ok (.lst [.tup [.int 1, .int 1], .tup [.int 1, .int 2], .tup [.int 0, .int 1], .tup [.int 3, .int 1], .tup [.int (n / Int.gcd n (1 + e)), .int ((1 + e) / Int.gcd n (1 + e))]]) (envA a2 b2 fr most es nc x5 x6 x7)) :=
    frz_of (lst_of (acons_of (tp _ _ _) (acons_of (tp _ _ _) (acons_of (tp _ _ _) (acons_of (tp _ _ _) (acons_of (eCall_sh [.int n, .int (1 + e)] (rcons_of r1 (rcons_of (add_X r2) rnil_of)) mk) anil_of))))) (by show 5 ≤ 2 ^ 24; omega))
  obtain ⟨d, a3, b3, g, r3⟩ := some_X (i := 0) (k := true) (a := a2) (b := b2) (a0 := a) (b0 := b) (env := envA a b fr most es nc x5 x6 x7) rfl rfl (by simp) (by show 5 < 2 ^ 60; omega) lst
  refine ⟨d, a3, b3, r3, ?_⟩
  have g : d = .tup [.int 1, .int 1] ∨ d = .tup [.int 1, .int 2] ∨ d = .tup [.int 0, .int 1] ∨ d = .tup [.int 3, .int 1] ∨ d = .tup [.int (n / Int.gcd n (1 + e)), .int ((1 + e) / Int.gcd n (1 + e))] := by simpa using g
  rcases g with rfl | rfl | rfl | rfl | rfl
  · exact ⟨_, _, rfl, by omega, by decide, by omega⟩
  · exact ⟨_, _, rfl, by omega, by decide, by omega⟩
  · exact ⟨_, _, rfl, by omega, by decide, by omega⟩
  · exact ⟨_, _, rfl, by omega, by decide, by omega⟩
  · have g0 : 0 < Int.gcd n (1 + e) := Int.gcd_pos_of_ne_zero_right n (by omega)
    have gp : (0 : Int) < (Int.gcd n (1 + e) : Nat) := by omega
    refine ⟨_, _, rfl, ?_, ?_, Int.ediv_nonneg n0 (by omega)⟩
    · refine Int.le_ediv_of_mul_le gp ?_
      rw [Int.one_mul]
      exact Int.le_of_dvd (by omega) (Int.gcd_dvd_right ..)
    · exact Int.gcd_ediv_gcd_ediv_gcd_of_ne_zero_right (by omega)
noncomputable abbrev popX : EV D := ePop 6 (eCall F__law_roll (rIo 0 (rCons (eLenV 6) rNil)))
theorem order_A {a b : Int} {fr : D} {most nc : Nat} {es : List Ev} {x5 x7 : Sl} {os : List Int} (ho : ∀ c ∈ os, -1 ≤ c ∧ c ≤ (nc : Int) - 1) (hl : os.length = nc + 1) (hnc : nc ≤ 4) : ∃ (ys : List D) (a' b' : Int), oComp [8] (iRng1 (eBin oAdd (eVar 4) (eLit (.int 1)))) (tgName 8) (ret true) popX (envA a b fr most es nc x5 (.ow false (os.map D.int)) x7)
    = some (.ok ys (envA a' b' fr most es nc x5 (.ow false []) x7)) ∧ ys.length = nc + 1 ∧ ∀ y ∈ ys, CaP nc y := by
  obtain ⟨ys, s', k1, k2, k3⟩ := comp1_st (v := 8) (σ := Int × Int × List Int) (fun s => envA s.1 s.2.1 fr most es nc x5 (.ow false (s.2.2.map D.int)) x7) (fun n s => s.2.2.length = n ∧ n ≤ nc + 1 ∧ ∀ c ∈ s.2.2, -1 ≤ c ∧ c ≤ (nc : Int) - 1) (fun _ y => CaP nc y) (s0 := (a, b, os)) (f := popX) (env := envA a b fr most es nc x5 (.ow false (os.map D.int)) x7) (src := iRng1 (eBin oAdd (eVar 4) (eLit (.int 1)))) (ds := (List.range (nc + 1)).map fun i => .int (i : Nat))
    (fun _ => rfl) (rng1_of (n := nc + 1) (bin_of rfl lit_of (add_int _ _)) (by omega)) ⟨by rw [List.length_map, List.length_range]; exact hl, by rw [List.length_map, List.length_range]; omega, ho⟩ (by rw [List.length_map, List.length_range]; show _ ≤ 2 ^ 24; omega) fun n s d hd ⟨h1, hn, h2⟩ => by
      obtain ⟨a0, b0, os0⟩ := s
      have h1 : os0.length = n + 1 := h1
      obtain ⟨v, a2, b2, v0, v1, r⟩ := roll_X (i := 0) (k := true) (a := a0) (b := b0) (m := (os0.map D.int).length) (f := eLenV 6) (env := (envA a0 b0 fr most es nc x5 (.ow false (os0.map D.int)) x7).set 8 (.sh d)) rfl (by rw [List.length_map]; omega) (by rw [List.length_map]; omega) (lenV_of (k := false) rfl)
      have vl : v.toNat < os0.length := by rw [List.length_map] at v1; omega
      have hd : (os0.map D.int)[v.toNat]? = some (.int os0[v.toNat]) := by rw [List.getElem?_map, List.getElem?_eq_getElem vl]; rfl
      have pp := pop_of (i := 6) (k := false) (f := eCall F__law_roll (rIo 0 (rCons (eLenV 6) rNil))) (env := (envA a0 b0 fr most es nc x5 (.ow false (os0.map D.int)) x7).set 8 (.sh d)) (ds := os0.map D.int) (ds1 := os0.map D.int) rfl r rfl v0 v1 (by rw [List.length_map] at v1; omega) hd
      refine ⟨_, (a2, b2, os0.eraseIdx v.toNat), pp.trans ?_, ⟨?_, by omega, fun c hc => h2 c (List.mem_of_mem_eraseIdx hc)⟩, ⟨_, rfl, h2 _ (List.getElem_mem vl)⟩⟩
      · rw [er_map]; rfl
      · show (os0.eraseIdx v.toNat).length = n
        rw [List.length_eraseIdx_of_lt vl]; omega
  have hy := k3.length
  rw [List.length_map, List.length_range] at hy
  obtain ⟨a', b', os'⟩ := s'
  have e0 : os' = [] := List.eq_nil_of_length_eq_zero k2.1
  subst e0
  exact ⟨ys, a', b', k1, hy, fun y hy => let ⟨_, _, q⟩ := k3.all y hy; q⟩
end K53
namespace K53
open G3
theorem ca_take {nc n : Nat} {ys : List D} (h : ∀ y ∈ ys, CaP nc y) : ∀ y ∈ ys.take n, CaP nc y := fun y hy => h y (List.mem_of_mem_take hy)
theorem paired_map {g : D → D} : ∀ {as bs : List D}, Paired2 (fun d y => y = g d) as bs → bs = as.map g
  | _, _, .nil => rfl
  | _, _, .cons h t => by rw [List.map_cons, h, paired_map t]
/-- pairs of cases with one factor -/
theorem pairs_A {nc : Nat} {f : D} (hf : FacP f) : ∀ {cs : List D}, (∀ c ∈ cs, CaP nc c) → ∃ es : List Ev, cs.map (fun c => D.tup [c, f]) = es.map evD ∧ (∀ e ∈ es, FitE nc e) ∧ es.length = cs.length
  | [], _ => ⟨[], rfl, (fun e he => nomatch he), rfl⟩
  | c :: cs, h => by
    obtain ⟨es, e1, e2, e3⟩ := pairs_A hf fun x hx => h x (List.mem_cons_of_mem _ hx)
    obtain ⟨k, rfl, k1, k2⟩ := h c List.mem_cons_self
    obtain ⟨n, e, rfl, q1, q2, q3⟩ := hf
    refine ⟨(k, n, e) :: es, by rw [List.map_cons, List.map_cons, e1]; rfl, fun x hx => ?_, by rw [List.length_cons, List.length_cons, e3]⟩
    rcases List.mem_cons.mp hx with rfl | hx
    · exact ⟨k1, k2, q1, q2, q3⟩
    · exact e2 x hx
noncomputable abbrev chX : EV D := eCall F__law_some (rIo 0 (rCons (eFrz (oLst (aCons (eVar 7) (aCons (eVar 7) (aCons (eSl (eVar 7) pNone (pSome (eLit (.int 1)))) (aCons (eBin oAdd (eVar 7) (eSl (eVar 7) pNone (pSome (eLit (.int 1))))) aNil)))))) rNil))
theorem slL_of {f : EV D} {l u : EV (Option Int)} {env env1 env2 env3 : List Sl} {ds : List D} {lo hi : Option Int} (h : f env = some (.ok (.lst ds) env1)) (h1 : l env1 = some (.ok lo env2)) (h2 : u env2 = some (.ok hi env3)) : eSl f l u env = some (.ok (.lst (cutD ds lo hi)) env3) := by
  unfold eSl; rw [bnd_ok h, bnd_ok h1, bnd_ok h2]; rfl
theorem cut1 {α : Type} (x : α) (xs : List α) : cutD (x :: xs) none (some 1) = [x] := by
  have := cutD_mid (x :: xs) (a := 0) (m := 1) (by simp)
  unfold cutD at this ⊢
  have e1 : HT.sIx (x :: xs).length (x :: xs).length (some 1) = 1 := by
    have := HT.sIx_nat (x :: xs).length (x :: xs).length 1
    rw [show (some (1 : Int)) = some ((1 : Nat) : Int) from rfl, this, List.length_cons]; omega
  rw [e1, HT.sIx_none]
  rfl
theorem ch_A {a b : Int} {fr : D} {most nc : Nat} {es : List Ev} {x5 x6 : Sl} {ys : List D} (hy : ∀ y ∈ ys, CaP nc y) (hl : ys.length = nc + 1) (hnc : nc ≤ 4) : ∃ (cs : List D) (a' b' : Int), iSeq chX (envA a b fr most es nc x5 x6 (.ow false ys))
    = some (.ok cs (envA a' b' fr most es nc x5 x6 (.sh (.lst ys)))) ∧ (∀ c ∈ cs, CaP nc c) ∧ 1 ≤ cs.length ∧ cs.length ≤ 6 := by
  obtain ⟨y, r, rfl⟩ : ∃ y r, ys = y :: r := by
    cases ys with
    | nil => simp at hl
    | cons y r => exact ⟨y, r, rfl⟩
  have hr : r.length = nc := by simpa using hl
  let E := envA a b fr most es nc x5 x6 (.sh (.lst (y :: r)))
  have v0 : eVar 7 (envA a b fr most es nc x5 x6 (.ow false (y :: r))) = some (.ok (.lst (y :: r)) E) := rfl
  have v1 : eVar 7 E = some (.ok (.lst (y :: r)) E) := rfl
  have s1 : eSl (eVar 7) pNone (pSome (eLit (.int 1))) E = some (.ok (.lst [y]) E) := by
    have := slL_of (lo := none) (hi := some 1) v1 (l := pNone) rfl (u := pSome (eLit (.int 1))) rfl
    rw [cut1] at this
    exact this
  have ad : eBin oAdd (eVar 7) (eSl (eVar 7) pNone (pSome (eLit (.int 1)))) E = some (.ok (.lst ((y :: r) ++ [y])) E) := by
    refine bin_of v1 s1 ?_
    show (if (y :: r).length + 1 ≤ PySem.sizeLine then some _ else none) = _
    rw [if_pos (by rw [List.length_cons]; show _ ≤ 2 ^ 24; omega)]
  have lst : eFrz (oLst (aCons (eVar 7) (aCons (eVar 7) (aCons (eSl (eVar 7) pNone (pSome (eLit (.int 1)))) (aCons (eBin oAdd (eVar 7) (eSl (eVar 7) pNone (pSome (eLit (.int 1))))) aNil))))) (envA a b fr most es nc x5 x6 (.ow false (y :: r)))
      = some (.ok (.lst [.lst (y :: r), .lst (y :: r), .lst [y], .lst ((y :: r) ++ [y])]) E) :=
    frz_of (lst_of (acons_of v0 (acons_of v1 (acons_of s1 (acons_of ad anil_of)))) (by show 4 ≤ 2 ^ 24; omega))
  obtain ⟨d, a3, b3, g, r3⟩ := some_X (i := 0) (k := true) (a := a) (b := b) (a0 := a) (b0 := b) (env := envA a b fr most es nc x5 x6 (.ow false (y :: r))) rfl rfl (by simp) (by show 4 < 2 ^ 60; omega) lst
  have g : d = .lst (y :: r) ∨ d = .lst (y :: r) ∨ d = .lst [y] ∨ d = .lst ((y :: r) ++ [y]) := by simpa using g
  have hy0 := hy y List.mem_cons_self
  rcases g with rfl | rfl | rfl | rfl
  · exact ⟨_, a3, b3, seq_of r3, hy, by simp, by simp; omega⟩
  · exact ⟨_, a3, b3, seq_of r3, hy, by simp, by simp; omega⟩
  · exact ⟨_, a3, b3, seq_of r3, fun c hc => by rw [List.mem_singleton.mp hc]; exact hy0, by simp, by simp⟩
  · refine ⟨_, a3, b3, seq_of r3, fun c hc => ?_, by simp, by simp; omega⟩
    rcases List.mem_append.mp hc with hc | hc
    · exact hy c hc
    · rw [List.mem_singleton.mp hc]; exact hy0
noncomputable abbrev bodyA : SV := sSeq (sSet 5 facX) (sSeq (sSetO 6 (oRng2 (eNeg (eLit (.int 1))) (eVar 4))) (sSeq (sSetO 7 (oComp [8] (iRng1 (eBin oAdd (eVar 4) (eLit (.int 1)))) (tgName 8) (ret true) popX)) (sSet 3 (eBin oAdd (eVar 3) (eFrz (oComp [9] (iSeq chX) (tgName 9) (ret true) (eTup (aCons (eVar 9) (aCons (eVar 5) aNil)))))))))
theorem body_A {a b : Int} {fr : D} {most nc : Nat} {es : List Ev} {x5 x6 x7 : Sl} (h5 : free1 x5) (h6 : free1 x6) (h7 : free1 x7) (hnc : nc ≤ 4) (hz : es.length ≤ 100) (hf : ∀ e ∈ es, FitE nc e) :
    ∃ (a' b' : Int) (es' : List Ev) (y5 y6 y7 : Sl), bodyA (envA a b fr most es nc x5 x6 x7) = some (.ok .nx (envA a' b' fr most es' nc y5 y6 y7)) ∧ free1 y5 ∧ free1 y6 ∧ free1 y7 ∧ (∀ e ∈ es', FitE nc e) ∧ es.length + 1 ≤ es'.length ∧ es'.length ≤ es.length + 6 := by
  obtain ⟨f, a1, b1, r1, hfac⟩ := fac_A (a := a) (b := b) (fr := fr) (most := most) (nc := nc) (es := es) (x5 := x5) (x6 := x6) (x7 := x7)
  have st1 : sSet 5 facX (envA a b fr most es nc x5 x6 x7) = some (.ok .nx (envA a1 b1 fr most es nc (.sh f) x6 x7)) := set_of r1 ((st_of (x := x5) rfl h5).trans rfl)
  have rg : oRng2 (eNeg (eLit (.int 1))) (eVar 4) (envA a1 b1 fr most es nc (.sh f) x6 x7) = some (.ok ((rgI (-1) (nc + 1)).map D.int) (envA a1 b1 fr most es nc (.sh f) x6 x7)) := by
    have s1 : eNeg (eLit (.int 1)) (envA a1 b1 fr most es nc (.sh f) x6 x7) = some (.ok (.int (-1)) (envA a1 b1 fr most es nc (.sh f) x6 x7)) := rfl
    have s2 : eVar 4 (envA a1 b1 fr most es nc (.sh f) x6 x7) = some (.ok (.int nc) (envA a1 b1 fr most es nc (.sh f) x6 x7)) := rfl
    unfold oRng2
    rw [bnd_ok s1, bnd_ok s2]
    show (if rg24 (-1) (nc : Int) = true then ret (rgD (-1) ((nc : Int) - -1).toNat) else stuck) _ = _
    have e2 : ((nc : Int) - -1).toNat = nc + 1 := by omega
    rw [if_pos (rg24_of (by omega) (by omega) (by omega) (by omega)), e2, rgD_eq]
    rfl
  have st2 : sSetO 6 (oRng2 (eNeg (eLit (.int 1))) (eVar 4)) (envA a1 b1 fr most es nc (.sh f) x6 x7) = some (.ok .nx (envA a1 b1 fr most es nc (.sh f) (.ow false ((rgI (-1) (nc + 1)).map D.int)) x7)) := setO_of rg ((st_of (x := x6) rfl h6).trans rfl)
  obtain ⟨ys, a2, b2, r2, hl, hy⟩ := order_A (a := a1) (b := b1) (fr := fr) (most := most) (nc := nc) (es := es) (x5 := .sh f) (x7 := x7) (os := rgI (-1) (nc + 1)) (fun c hc => by
    obtain ⟨i, hi, rfl⟩ := List.mem_map.mp hc
    have := List.mem_range.mp hi
    omega) (by unfold rgI; rw [List.length_map, List.length_range]) hnc
  have st3 : sSetO 7 (oComp [8] (iRng1 (eBin oAdd (eVar 4) (eLit (.int 1)))) (tgName 8) (ret true) popX) (envA a1 b1 fr most es nc (.sh f) (.ow false ((rgI (-1) (nc + 1)).map D.int)) x7) = some (.ok .nx (envA a2 b2 fr most es nc (.sh f) (.ow false []) (.ow false ys))) := setO_of r2 ((st_of (x := x7) rfl h7).trans rfl)
  obtain ⟨cs, a3, b3, r3, hc, c1, c2⟩ := ch_A (a := a2) (b := b2) (fr := fr) (most := most) (nc := nc) (es := es) (x5 := .sh f) (x6 := .ow false []) hy hl hnc
  obtain ⟨zs, s', k1, _, k3⟩ := comp1_st (v := 9) (σ := Unit) (fun _ => envA a3 b3 fr most es nc (.sh f) (.ow false []) (.sh (.lst ys))) (fun _ _ => True) (fun d y => y = .tup [d, f]) (s0 := ()) (f := eTup (aCons (eVar 9) (aCons (eVar 5) aNil))) (fun _ => rfl) r3 True.intro (by show _ ≤ 2 ^ 24; omega) fun n s d hd _ => ⟨.tup [d, f], (), tup_of rfl (by show 2 ≤ 2 ^ 24; omega), True.intro, rfl⟩
  have ez : zs = cs.map fun c => .tup [c, f] := paired_map k3
  obtain ⟨es2, e1, e2, e3⟩ := pairs_A hfac hc
  rw [e1] at ez
  subst ez
  refine ⟨a3, b3, es ++ es2, .sh f, .ow false [], .sh (.lst ys), ?_, free_sh _, (fun ds z => nomatch z), free_sh _, fun e he => ?_, by rw [List.length_append]; omega, by rw [List.length_append]; omega⟩
  · refine (seq_nx st1).trans ((seq_nx st2).trans ((seq_nx st3).trans ?_))
    have v3 : eVar 3 (envA a2 b2 fr most es nc (.sh f) (.ow false []) (.ow false ys)) = some (.ok (.lst (es.map evD)) (envA a2 b2 fr most es nc (.sh f) (.ow false []) (.ow false ys))) := rfl
    refine set_of (bin_of v3 (frz_of k1) (c := .lst ((es ++ es2).map evD)) ?_) rfl
    show (if (es.map evD).length + (es2.map evD).length ≤ PySem.sizeLine then some (D.lst (es.map evD ++ es2.map evD)) else none) = _
    rw [if_pos (by rw [List.length_map, List.length_map]; show _ ≤ 2 ^ 24; omega), List.map_append]
  · rcases List.mem_append.mp he with he | he
    · exact hf e he
    · exact e2 e he
end K53

namespace K53
open G3
noncomputable abbrev condA : EV Bool := asB (eBin oLt (eBlt bLen (aCons (eVar 3) aNil)) (eVar 2))
theorem cond_A {a b : Int} {fr : D} {most nc : Nat} {es : List Ev} {x5 x6 x7 : Sl} : condA (envA a b fr most es nc x5 x6 x7) = some (.ok (decide (es.length < most)) (envA a b fr most es nc x5 x6 x7)) := by
  refine asB_bl _ _ _ _ (bin_of (blt_of (acons_of rfl anil_of) (c := .int es.length) ?_) rfl ?_)
  · show some (D.int ((es.map evD).length : Nat)) = _
    rw [List.length_map]
  · show some (D.bl (decide ((es.length : Int) < (most : Int)))) = _
    congr 2
    exact decide_eq_decide.mpr (by omega)
theorem loop_A {fr : D} {most nc : Nat} (hnc : nc ≤ 4) (hm : most ≤ 40) : ∀ (n : Nat) (a b : Int) (es : List Ev) (x5 x6 x7 : Sl), most ≤ es.length + n → es.length ≤ most + 6 → (∀ e ∈ es, FitE nc e) → free1 x5 → free1 x6 → free1 x7 →
    ∃ (a' b' : Int) (es' : List Ev) (y5 y6 y7 : Sl), whF condA bodyA (n + 1) (envA a b fr most es nc x5 x6 x7) = some (.ok .nx (envA a' b' fr most es' nc y5 y6 y7)) ∧ (∀ e ∈ es', FitE nc e)
  | 0, a, b, es, x5, x6, x7, h1, h2, hf, h5, h6, h7 => by
    unfold whF
    rw [bnd_ok cond_A, decide_eq_false (by omega), if_neg Bool.false_ne_true]
    exact ⟨a, b, es, x5, x6, x7, rfl, hf⟩
  | n + 1, a, b, es, x5, x6, x7, h1, h2, hf, h5, h6, h7 => by
    unfold whF
    rw [bnd_ok cond_A]
    by_cases hc : es.length < most
    · obtain ⟨a1, b1, es1, y5, y6, y7, r, f5, f6, f7, hf1, l1, l2⟩ := body_A (a := a) (b := b) (fr := fr) (most := most) (nc := nc) (es := es) h5 h6 h7 hnc (by omega) hf
      obtain ⟨a2, b2, es2, z5, z6, z7, k, hf2⟩ := loop_A hnc hm n a1 b1 es1 y5 y6 y7 (by omega) (by omega) hf1 f5 f6 f7
      refine ⟨a2, b2, es2, z5, z6, z7, ?_, hf2⟩
      rw [decide_eq_true hc, if_pos rfl, bnd_ok r]
      exact k
    · rw [decide_eq_false hc, if_neg Bool.false_ne_true]
      exact ⟨a, b, es, x5, x6, x7, rfl, hf⟩
theorem cut_take {α : Type} (xs : List α) (m : Nat) : cutD xs none (some (m : Int)) = xs.take m := by
  unfold cutD
  rw [HT.sIx_none, HT.sIx_nat, List.drop_zero, Nat.sub_zero]
  by_cases h : m ≤ xs.length
  · rw [Nat.min_eq_left h]
  · rw [Nat.min_eq_right (by omega), List.take_of_length_le (Nat.le_refl _), List.take_of_length_le (by omega)]
theorem any_E {fr : D} {nc : Nat} (h : Fr fr nc) (a b : Int) (most : Nat) (hm : most ≤ 40) : ∃ (es : List Ev) (a' b' : Int), F__law_any_events [cupS true a b, .sh fr, .sh (.int most)] = some (.sh (evs es) [cupS true a' b', .un, .un]) ∧ es.length ≤ most ∧ ∀ e ∈ es, FitE nc e := by
  obtain ⟨a', b', es', y5, y6, y7, k, hf⟩ := loop_A (fr := fr) (most := most) h.few hm most a b [] .un .un .un (by simp) (by simp) (fun e he => nomatch he) free_un free_un free_un
  have k := sWhile_of k
  obtain ⟨p, q, r, cs, rfl, rfl⟩ := h.sh
  refine ⟨es'.take most, a', b', fn_rt (env' := envA a' b' (.tup [p, q, r, .tup cs]) most es' cs.length y5 y6 y7) ?_, by rw [List.length_take]; omega, fun e he => hf e (List.mem_of_mem_take he)⟩
  unfold b__law_any_events
  refine (seq_nx (env1 := envA a b (.tup [p, q, r, .tup cs]) most [] cs.length .un .un .un) rfl).trans ((seq_nx k).trans ?_)
  refine ret_of (blt_of (acons_of (slL_of (ds := es'.map evD) (lo := none) (hi := some (most : Int)) rfl rfl (pSome_of rfl)) anil_of) ?_)
  rw [cut_take]
  show some (D.tup ((es'.map evD).take most)) = some (D.tup ((es'.take most).map evD))
  rw [List.map_take]
/-! ### the rounds' numbers are small -/
theorem rds_small (nc : Nat) (es : List Ev) (hz : es.length ≤ 99) : ∀ n p, (∀ x ∈ rds nc es n p, 0 ≤ x ∧ x < 100) ∧ (rds nc es n p).length ≤ n
  | 0, p => ⟨(fun x hx => nomatch hx), Nat.le_refl _⟩
  | n + 1, p => by
    unfold rds
    split
    · split
      · obtain ⟨h1, h2⟩ := rds_small nc es hz n (p + (nc + 1))
        refine ⟨fun x hx => ?_, by rw [List.length_cons]; omega⟩
        rcases List.mem_cons.mp hx with rfl | hx
        · omega
        · exact h1 x hx
      · obtain ⟨h1, h2⟩ := rds_small nc es hz n (p + 1)
        exact ⟨h1, by omega⟩
    · exact ⟨(fun x hx => nomatch hx), Nat.zero_le _⟩
theorem rds_repr (nc : Nat) (es : List Ev) (hz : es.length ≤ 99) : ∃ s : PySem.Str, bRepr [.tup ((rds nc es (es.length + 1) 0).map D.int)] = some (.str s) ∧ PySem.PyData.strOk s = true := by
  obtain ⟨h1, h2⟩ := rds_small nc es hz (es.length + 1) 0
  exact repr_ints h1 (by omega)
/-! ### the law -/
def envW (ns : List Int) (a b : Int) (fr : D) (x3 w x5 : Sl) : List Sl := [.sh (.scr ns), cupS false a b, .sh fr, x3, w, x5, .un]
noncomputable abbrev turnX : SV := sSeq (sSet 5 (eCall F__law_any_events (rIo 1 (rCons (eVar 2) (rCons (eCall F__law_roll (rIo 1 (rCons (eLit (.int 15)) rNil))) rNil)))))
  (sIf (asB (eBin oNe (eBlt bRepr (aCons (eCall F_rounds_in (rCons (eVar 2) (rCons (eVar 5) rNil))) aNil)) (eBlt bRepr (aCons (eBlt bTuple (aCons (eCall F__law_rounds (rCons (eVar 2) (rCons (eVar 5) rNil))) aNil)) aNil))))
  (sRet (eLit (.bl false)))
  sNil)
theorem turn_W {ns : List Int} {a b : Int} {fr : D} {nc : Nat} {x3 w x5 : Sl} (h : Fr fr nc) (h5 : free1 x5) : ∃ (a' b' : Int) (es : List Ev), turnX (envW ns a b fr x3 w x5) = some (.ok .nx (envW ns a' b' fr x3 w (.sh (evs es)))) := by
  obtain ⟨v, a1, b1, v0, v1, r1⟩ := roll_X (i := 1) (k := false) (a := a) (b := b) (m := 15) (f := eLit (.int 15)) (env := envW ns a b fr x3 w x5) rfl (by omega) (by omega) lit_of
  obtain ⟨vn, rfl⟩ := Int.eq_ofNat_of_zero_le v0
  obtain ⟨es, a2, b2, hE, hl, hf⟩ := any_E h a1 b1 vn (by omega)
  have e1 : eCall F__law_any_events (rIo 1 (rCons (eVar 2) (rCons (eCall F__law_roll (rIo 1 (rCons (eLit (.int 15)) rNil))) rNil))) (envW ns a b fr x3 w x5) = some (.ok (evs es) (envW ns a2 b2 fr x3 w x5)) :=
    eCall_io (i := 1) (k := false) [fr, .int vn] (rio_of (k := false) rfl (rcons_of rfl (rcons_of r1 rnil_of))) rfl hE
  have s1 := set_of (i := 5) e1 ((st_of (x := x5) rfl h5).trans rfl)
  obtain ⟨s, hs1, hs2⟩ := rds_repr nc es (by omega)
  have t : asB (eBin oNe (eBlt bRepr (aCons (eCall F_rounds_in (rCons (eVar 2) (rCons (eVar 5) rNil))) aNil)) (eBlt bRepr (aCons (eBlt bTuple (aCons (eCall F__law_rounds (rCons (eVar 2) (rCons (eVar 5) rNil))) aNil)) aNil))) (envW ns a2 b2 fr x3 w (.sh (evs es))) = some (.ok false (envW ns a2 b2 fr x3 w (.sh (evs es)))) :=
    asB_bl _ _ _ _ (bin_of (blt_of (acons_of (eCall_sh [fr, evs es] (rcons_of rfl (rcons_of rfl rnil_of)) (roundsin_F h es (by omega) hf)) anil_of) hs1)
      (blt_of (acons_of (blt_of (acons_of (eCall_sh [fr, evs es] (rcons_of rfl (rcons_of rfl rnil_of)) (lawrounds_F h es (by omega))) anil_of) rfl) anil_of) hs1) (oNe_same hs2))
  exact ⟨a2, b2, es, (seq_nx s1).trans ((if_f t).trans rfl)⟩
theorem turns_W {ns : List Int} {fr : D} {nc : Nat} {w : Sl} (h : Fr fr nc) : ∀ (L : List D) (a b : Int) (x3 x5 : Sl), free1 x3 → free1 x5 → ∃ (a' b' : Int) (y3 y5 : Sl), forL (tgName 3) turnX L (envW ns a b fr x3 w x5) = some (.ok .nx (envW ns a' b' fr y3 w y5)) ∧ free1 y3 ∧ free1 y5
  | [], a, b, x3, x5, h3, h5 => ⟨a, b, x3, x5, rfl, h3, h5⟩
  | d :: L, a, b, x3, x5, h3, h5 => by
    obtain ⟨a1, b1, es, r⟩ := turn_W (ns := ns) (a := a) (b := b) (x3 := .sh d) (w := w) h h5
    obtain ⟨a2, b2, y3, y5, k, g3, g5⟩ := turns_W h L a1 b1 (.sh d) (.sh (evs es)) (free_sh _) (free_sh _)
    refine ⟨a2, b2, y3, y5, ?_, g3, g5⟩
    rw [forL_nx (env1 := envW ns a b fr (.sh d) w x5) ((st_of (x := x3) rfl h3).trans rfl) r]
    exact k
theorem cup_E (ns : List Int) (hl : ns.length ≤ 63) : ∃ a b : Int, F__law_cup [.sh (.scr ns)] = some (.own [.int a, .int b] [.un]) := by
  obtain ⟨c, hc⟩ : ∃ c : Int, L2.atI (ns.map D.int ++ [.int 0]) 0 = some (.int c) := by
    cases ns with
    | nil => exact ⟨0, rfl⟩
    | cons n r =>
      refine ⟨n, ?_⟩
      unfold L2.atI L2.ixN
      rw [if_pos (by omega), if_pos (by rw [List.length_append, List.length_singleton]; omega)]
      rfl
  let cell : Int := if c < 0 then -c else c
  have s1 : sSet 1 (eBlt bAbs (aCons (eBin atD (eBin oAdd (eFrz (oBlt bList (aCons (eVar 0) aNil))) (eFrz (oLst (aCons (eLit (.int 0)) aNil)))) (eLit (.int 0))) aNil)) [.sh (.scr ns), .un] = some (.ok .nx [.sh (.scr ns), .sh (.int cell)]) := by
    refine set_of (blt_of (acons_of (bin_of (bin_of (frz_of (oblt_of (acons_of rfl anil_of) rfl)) (frz_of (lst_of (acons_of lit_of anil_of) (by show 1 ≤ 2 ^ 24; omega))) (c := .lst (ns.map D.int ++ [.int 0])) ?_) lit_of (show atD (.lst (ns.map D.int ++ [.int 0])) (.int 0) = some (.int c) from hc)) anil_of) rfl) rfl
    show (if (ns.map D.int).length + 1 ≤ PySem.sizeLine then some _ else none) = _
    rw [if_pos (by rw [List.length_map]; show _ ≤ 2 ^ 24; omega)]
  have pw : oPow (.int 10) (.int 18) = some (.int (10 ^ 18)) := rfl
  have t : asB (eBin oGe (eVar 1) (eBin oPow (eLit (.int 10)) (eLit (.int 18)))) [.sh (.scr ns), .sh (.int cell)] = some (.ok (decide ((10 : Int) ^ 18 ≤ cell)) [.sh (.scr ns), .sh (.int cell)]) :=
    asB_bl _ _ _ _ (bin_of rfl (bin_of lit_of lit_of pw) rfl)
  obtain ⟨x, hx⟩ : ∃ x : Int, eIf (asB (eBin oGe (eVar 1) (eBin oPow (eLit (.int 10)) (eLit (.int 18))))) (eBin oFdiv (eVar 1) (eLit (.int 97))) (eLit (.int 0)) [.sh (.scr ns), .sh (.int cell)] = some (.ok (.int x) [.sh (.scr ns), .sh (.int cell)]) := by
    unfold eIf
    rw [bnd_ok t]
    cases decide ((10 : Int) ^ 18 ≤ cell) with
    | true => exact ⟨cell / 97, by rw [if_pos rfl]; exact bin_of rfl lit_of (oFdiv_pos (by omega) (by decide))⟩
    | false => exact ⟨0, by rw [if_neg Bool.false_ne_true]; rfl⟩
  have hy : eBin oAdd (eBin oMod (eBlt bInt (aCons (eBin oAdd (eBin oMul (eVar 1) (eLit (.int 313))) (eLit (.int 3203))) aNil)) (eLit (.int 2077503089))) (eLit (.int 193)) [.sh (.scr ns), .sh (.int cell)] = some (.ok (.int ((cell * 313 + 3203) % 2077503089 + 193)) [.sh (.scr ns), .sh (.int cell)]) :=
    bin_of (bin_of (blt_of (acons_of (bin_of (bin_of rfl lit_of (oMul_small (by decide))) lit_of (add_int _ _)) anil_of) rfl) lit_of (oMod_pos (by omega))) lit_of (add_int _ _)
  refine ⟨x, (cell * 313 + 3203) % 2077503089 + 193, fn_own (env' := [.sh (.scr ns), .sh (.int cell)]) ((seq_nx s1).trans ?_)⟩
  unfold sRetO
  rw [bnd_ok (lst_of (acons_of hx (acons_of hy anil_of)) (by show 2 ≤ 2 ^ 24; omega))]
  rfl
end K53

namespace K53
open G3
/-! ### events that do not fit -/
theorem fits_no1 {fr v : D} (h : F_is_tuple_of [.sh v, .sh (.int 0), .sh (.int 40)] = some (.sh (.bl false) [.un, .un, .un])) : F_fits_events [.sh fr, .sh v] = some (.sh (.bl false) [.un, .un]) := by
  have t1 : asB (eCall F_is_tuple_of (rCons (eVar 1) (rCons (eLit (.int 0)) (rCons (eLit c_EVENTS) rNil)))) [.sh fr, .sh v, .un, .un] = some (.ok false [.sh fr, .sh v, .un, .un]) :=
    asB_bl _ _ _ _ (eCall_sh [v, .int 0, .int 40] (rcons_of rfl (rcons_of lit_of (rcons_of lit_of rnil_of))) h)
  refine fn_rt (env' := [.sh fr, .sh v, .un, .un]) ?_
  unfold b_fits_events
  exact (seq_rt (w := .sh (.bl false)) (env1 := [.sh fr, .sh v, .un, .un]) ((if_t (orB_t (notB_of t1))).trans rfl)).trans rfl
theorem fits_long {fr : D} {ds : List D} (h : 40 < ds.length) : F_fits_events [.sh fr, .sh (.tup ds)] = some (.sh (.bl false) [.un, .un]) := by
  refine fits_no1 ?_
  rw [tupOf, decide_eq_false (by omega : ¬ ((ds.length : Int) ≤ 40)), Bool.and_false]
theorem fits_one {fr x y : D} {nc : Nat} (h : Fr fr nc) (hq : ∀ w : D, fE [.sh fr, .sh w, .sh (.int nc), .sh (.tup [x, y])] = some (.ok (.bl false) [.sh fr, .sh w, .sh (.int nc), .sh (.tup [x, y])])) : F_fits_events [.sh fr, .sh (.tup [.tup [x, y]])] = some (.sh (.bl false) [.un, .un]) :=
  fitsE h [.tup [x, y]] (by simp) (fun _ => false) (fun d hd => ⟨x, y, List.mem_singleton.mp hd⟩) fun d hd => by rw [List.mem_singleton.mp hd]; exact hq _
theorem no_a {fr : D} {nc : Nat} (h : Fr fr nc) (h1 : 1 ≤ nc) : F_fits_events [.sh fr, .sh (.tup [.tup [.int 0, .tup [.int 1, .int 0]]])] = some (.sh (.bl false) [.un, .un]) := by
  refine fits_one h fun w => ?_
  refine (and_t (eCall_sh [.int 0, .int (-1), .int ((nc : Int) - 1)] (rcons_of rfl (rcons_of rfl (rcons_of rfl rnil_of))) (whole_of (by omega) (by omega)))).trans ?_
  refine and_f (eCall_sh [.tup [.int 1, .int 0]] (rcons_of rfl rnil_of) (r := [.un]) ?_)
  show F_fits_ratio [.sh (.tup [.int 1, .int 0])] = _
  rw [ratio_F]; rfl
theorem no_b {fr : D} {nc : Nat} (h : Fr fr nc) : F_fits_events [.sh fr, .sh (.tup [.tup [.bl true, .tup [.int 1, .int 1]]])] = some (.sh (.bl false) [.un, .un]) := by
  refine fits_one h fun w => ?_
  exact and_f (eCall_sh [.bl true, .int (-1), .int ((nc : Int) - 1)] (rcons_of rfl (rcons_of rfl (rcons_of rfl rnil_of))) (whole_bl true _ _))
theorem no_c {fr : D} {nc : Nat} (h : Fr fr nc) : F_fits_events [.sh fr, .sh (.tup [.tup [.int (-2), .tup [.int 1, .int 1]]])] = some (.sh (.bl false) [.un, .un]) := by
  refine fits_one h fun w => ?_
  refine and_f (eCall_sh (r := [.un, .un, .un]) [.int (-2), .int (-1), .int ((nc : Int) - 1)] (rcons_of rfl (rcons_of rfl (rcons_of rfl rnil_of))) ((whole_int _ _ _).trans ?_))
  rw [decide_eq_false (by omega : ¬ ((-1 : Int) ≤ -2)), Bool.false_and]
/-! ### the whole round -/
def wEs (nc : Nat) : List Ev := (rgI (-1) (nc + 1)).map fun c => (c, 1, 3)
theorem wEs_fit (nc : Nat) : ∀ e ∈ wEs nc, FitE nc e := fun e he => by
  obtain ⟨c, hc, rfl⟩ := List.mem_map.mp he
  obtain ⟨i, hi, rfl⟩ := List.mem_map.mp hc
  have := List.mem_range.mp hi
  exact ⟨by show -1 ≤ -1 + (i : Int); omega, by show -1 + (i : Int) ≤ (nc : Int) - 1; omega, by show (1 : Int) ≤ 3; omega, (by decide : Int.gcd 1 3 = 1), by show (0 : Int) ≤ 1; omega⟩
theorem sortI_id {ns : List Int} (h : ns.Pairwise (· ≤ ·)) : sortI ns = ns := (sortI_eq (List.Perm.refl _) h).symm
theorem round_1 : roundB 1 [(-1, 1, 3), (0, 1, 3)] = true := by
  unfold roundB
  rw [show ([(-1, 1, 3), (0, 1, 3)] : List Ev).map (·.1) = [-1, 0] from rfl, sortI_id (by simp)]
  decide
theorem round_2 : roundB 2 [(-1, 1, 3), (0, 1, 3), (1, 1, 3)] = true := by
  unfold roundB
  rw [show ([(-1, 1, 3), (0, 1, 3), (1, 1, 3)] : List Ev).map (·.1) = [-1, 0, 1] from rfl, sortI_id (by simp)]
  decide
def w2 (nc : Nat) : List Ev := wEs nc ++ wEs nc ++ (wEs nc).take 1
theorem rds_1 : rds 1 (w2 1) ((w2 1).length + 1) 0 = [0, 2] := by
  have e : w2 1 = [(-1, 1, 3), (0, 1, 3), (-1, 1, 3), (0, 1, 3), (-1, 1, 3)] := rfl
  rw [e]
  simp [rds, rowE, round_1]
theorem rds_2 : rds 2 (w2 2) ((w2 2).length + 1) 0 = [0, 3] := by
  have e : w2 2 = [(-1, 1, 3), (0, 1, 3), (1, 1, 3), (-1, 1, 3), (0, 1, 3), (1, 1, 3), (-1, 1, 3)] := rfl
  rw [e]
  simp [rds, rowE, round_2]
theorem rds_w2 {nc : Nat} (h : nc = 1 ∨ nc = 2) : rds nc (w2 nc) ((w2 nc).length + 1) 0 = [0, (nc : Int) + 1] := by
  rcases h with rfl | rfl
  · exact rds_1
  · exact rds_2
theorem rds_w1 {nc : Nat} (h : nc = 1 ∨ nc = 2) : rds nc ((wEs nc).drop 1) (((wEs nc).drop 1).length + 1) 0 = [] := by
  rcases h with rfl | rfl
  · have e : (wEs 1).drop 1 = [(0, 1, 3)] := rfl
    rw [e]; simp [rds]
  · have e : (wEs 2).drop 1 = [(0, 1, 3), (1, 1, 3)] := rfl
    rw [e]; simp [rds]
theorem mulT {nc : Nat} (h : nc = 1 ∨ nc = 2) (k : Nat) (h1 : 2 ≤ k) (h2 : k ≤ 1000) : oMul (evs (wEs nc)) (.int k) = some (.tup (List.replicate k ((wEs nc).map evD)).flatten) := by
  show oMul (.tup ((wEs nc).map evD)) (.int k) = _
  simp only [oMul]
  rw [if_pos, Int.toNat_natCast]
  refine ⟨?_, by omega, by omega, ?_⟩
  · rcases h with rfl | rfl <;> exact fun z => nomatch z
  · rcases h with rfl | rfl
    · show 2 ≤ 1000; omega
    · show 3 ≤ 1000; omega
end K53

namespace K53
open G3
theorem rng2_of {f h : EV D} {env env1 env2 : List Sl} {i j : Int} (e1 : f env = some (.ok (.int i) env1)) (e2 : h env1 = some (.ok (.int j) env2)) (h1 : -1000000 ≤ i) (h2 : i ≤ 1000000) (h3 : -1000000 ≤ j) (h4 : j ≤ 1000000) : iRng2 f h env = some (.ok ((rgI i (j - i).toNat).map D.int) env2) := by
  unfold iRng2
  rw [bnd_ok e1, bnd_ok e2]
  show (if rgOk i j = true then ret (rgD i (j - i).toNat) else stuck) env2 = _
  rw [if_pos (rgOk_of h1 h2 h3 h4), rgD_eq]; rfl
theorem cut_drop {α : Type} (xs : List α) : cutD xs (some 1) none = xs.drop 1 := by
  unfold cutD
  have e1 := HT.sIx_nat xs.length 0 1
  rw [show (some ((1 : Nat) : Int)) = some (1 : Int) from rfl] at e1
  rw [e1, HT.sIx_none]
  by_cases h : 1 ≤ xs.length
  · rw [Nat.min_eq_left h, List.take_of_length_le (by rw [List.length_drop]; exact Nat.le_refl _)]
  · have : xs = [] := List.eq_nil_of_length_eq_zero (by omega)
    subst this; rfl
theorem law_F (ns : List Int) (hl : ns.length ≤ 63) : F_law [.sh (.scr ns)] = some (.sh (.bl true) [.un]) := by
  obtain ⟨a0, b0, hcup⟩ := cup_E ns hl
  obtain ⟨fr, nc, a1, b1, hstar, h, n1, n2⟩ := star_E a0 b0
  have hn : nc = 1 ∨ nc = 2 := by omega
  obtain ⟨a2, b2, y3, y5, htur, f3, f5⟩ := turns_W (ns := ns) (w := .un) h [.int 0, .int 1, .int 2, .int 3] a1 b1 .un .un free_un free_un
  have s1 : sSetO 1 (oCall F__law_cup (rCons (eVar 0) rNil)) [.sh (.scr ns), .un, .un, .un, .un, .un, .un] = some (.ok .nx [.sh (.scr ns), cupS false a0 b0, .un, .un, .un, .un, .un]) := by
    refine setO_of (d := [.int a0, .int b0]) (env1 := [.sh (.scr ns), .un, .un, .un, .un, .un, .un]) ?_ rfl
    have e : rCons (eVar 0) rNil [.sh (.scr ns), .un, .un, .un, .un, .un, .un] = some (.ok [.s (.scr ns)] [.sh (.scr ns), .un, .un, .un, .un, .un, .un]) := rfl
    unfold oCall
    rw [bnd_ok e]
    have c : callF F__law_cup [.s (.scr ns)] [.sh (.scr ns), .un, .un, .un, .un, .un, .un] = some (.ok (.own [.int a0, .int b0]) [.sh (.scr ns), .un, .un, .un, .un, .un, .un]) := by
      rw [callF1, hcup]; rfl
    rw [bnd_ok c]; rfl
  have s2 : sSet 2 (eCall F__law_star (rIo 1 rNil)) [.sh (.scr ns), cupS false a0 b0, .un, .un, .un, .un, .un] = some (.ok .nx (envW ns a1 b1 fr .un .un .un)) :=
    set_of (eCall_io (i := 1) (k := false) [] (rio_of (k := false) rfl rnil_of) rfl hstar) rfl
  have s3 : sFor (tgName 3) (iRng1 (eLit (.int 4))) turnX (envW ns a1 b1 fr .un .un .un) = some (.ok .nx (envW ns a2 b2 fr y3 .un y5)) := by
    have rg : iRng1 (eLit (.int 4)) (envW ns a1 b1 fr .un .un .un) = some (.ok [.int 0, .int 1, .int 2, .int 3] (envW ns a1 b1 fr .un .un .un)) := rng1_of (n := 4) lit_of (by omega)
    unfold sFor
    rw [bnd_ok rg]
    exact htur
  have lenF : ∀ env : List Sl, env[2]? = some (.sh fr) → eBlt bLen (aCons (eBin atD (eVar 2) (eLit (.int 3))) aNil) env = some (.ok (.int nc) env) := fun env he => by
    obtain ⟨p, q, r, cs, rfl, rfl⟩ := h.sh
    have v : eVar 2 env = some (.ok (.tup [p, q, r, .tup cs]) env) := by unfold eVar; rw [he]
    exact len_of (bin_of v lit_of rfl)
  let W0 := envW ns a2 b2 fr y3 .un y5
  let W := envW ns a2 b2 fr y3 (.sh (evs (wEs nc))) y5
  have s4 : sSet 4 (eBlt bTuple (aCons (eFrz (oComp [6] (iRng2 (eNeg (eLit (.int 1))) (eBlt bLen (aCons (eBin atD (eVar 2) (eLit (.int 3))) aNil))) (tgName 6) (ret true) (eTup (aCons (eVar 6) (aCons (eTup (aCons (eLit (.int 1)) (aCons (eLit (.int 3)) aNil))) aNil))))) aNil)) W0 = some (.ok .nx W) := by
    have src : iRng2 (eNeg (eLit (.int 1))) (eBlt bLen (aCons (eBin atD (eVar 2) (eLit (.int 3))) aNil)) W0 = some (.ok ((rgI (-1) (nc + 1)).map D.int) W0) := by
      have := rng2_of (f := eNeg (eLit (.int 1))) (i := -1) (j := nc) (env := W0) (env1 := W0) rfl (lenF W0 rfl) (by omega) (by omega) (by omega) (by omega)
      rw [show ((nc : Int) - -1).toNat = nc + 1 by omega] at this
      exact this
    refine set_of (d := evs (wEs nc)) (blt_of (acons_of (frz_of ((comp1_map (fun d => .tup [d, .tup [.int 1, .int 3]]) src rfl (by simp [W0, envW]) ?_ fun d hd => ?_).trans rfl)) anil_of) ?_) rfl
    · rw [List.length_map]
      unfold rgI
      rw [List.length_map, List.length_range]; show _ ≤ 2 ^ 24; omega
    · exact tup_of (acons_of rfl (acons_of (tup_of (as := [.int 1, .int 3]) rfl (by show 2 ≤ 2 ^ 24; omega)) anil_of)) (by show 2 ≤ 2 ^ 24; omega)
    · show some (D.tup (((rgI (-1) (nc + 1)).map D.int).map fun d => D.tup [d, .tup [.int 1, .int 3]])) = some (D.tup ((wEs nc).map evD))
      unfold wEs
      rw [List.map_map, List.map_map]; rfl
  have lw : (wEs nc).length = nc + 1 := by unfold wEs rgI; rw [List.length_map, List.length_map, List.length_range]
  have v4 : eVar 4 W = some (.ok (evs (wEs nc)) W) := rfl
  -- whole * 2 + whole[:1]
  have ww : eBin oAdd (eBin oMul (eVar 4) (eLit (.int 2))) (eSl (eVar 4) pNone (pSome (eLit (.int 1)))) W = some (.ok (evs (w2 nc)) W) := by
    have m := mulT hn 2 (by omega) (by omega)
    have sl := sl_tup (f := eVar 4) (l := pNone) (u := pSome (eLit (.int 1))) (env := W) (ds := (wEs nc).map evD) (lo := none) (hi := some 1) v4 rfl rfl
    have e1 : cutD ((wEs nc).map evD) none (some 1) = ((wEs nc).map evD).take 1 := cut_take _ 1
    rw [e1] at sl
    refine bin_of (bin_of v4 lit_of m) sl ?_
    rcases hn with rfl | rfl <;> rfl
  have fw2 : ∀ e ∈ w2 nc, FitE nc e := fun e he => by
    unfold w2 at he
    rcases List.mem_append.mp he with he | he
    · rcases List.mem_append.mp he with he | he <;> exact wEs_fit nc e he
    · exact wEs_fit nc e (List.mem_of_mem_take he)
  have lw2 : (w2 nc).length ≤ 40 := by unfold w2; rw [List.length_append, List.length_append, List.length_take]; omega
  obtain ⟨s, hs1, hs2⟩ := rds_repr nc (w2 nc) (by omega)
  have hs3 : bRepr [.tup [.int 0, .int ((nc : Int) + 1)]] = some (.str s) := by
    rw [rds_w2 hn] at hs1
    exact hs1
  have lnW : eBlt bLen (aCons (eVar 4) aNil) W = some (.ok (.int ((nc : Int) + 1)) W) := by
    have := len_of (f := eVar 4) (env := W) (ds := (wEs nc).map evD) v4
    rw [List.length_map, lw] at this
    exact this
  have t1 : asB (eBin oNe (eBlt bRepr (aCons (eCall F_rounds_in (rCons (eVar 2) (rCons (eBin oAdd (eBin oMul (eVar 4) (eLit (.int 2))) (eSl (eVar 4) pNone (pSome (eLit (.int 1))))) rNil))) aNil)) (eBlt bRepr (aCons (eTup (aCons (eLit (.int 0)) (aCons (eBlt bLen (aCons (eVar 4) aNil)) aNil))) aNil))) W = some (.ok false W) :=
    asB_bl _ _ _ _ (bin_of (blt_of (acons_of (eCall_sh [fr, evs (w2 nc)] (rcons_of rfl (rcons_of ww rnil_of)) (roundsin_F h (w2 nc) lw2 fw2)) anil_of) hs1)
      (blt_of (acons_of (tup_of (acons_of lit_of (acons_of lnW anil_of)) (by show 2 ≤ 2 ^ 24; omega)) anil_of) hs3) (oNe_same hs2))
  have dr : eSl (eVar 4) (pSome (eLit (.int 1))) pNone W = some (.ok (evs ((wEs nc).drop 1)) W) := by
    have sl := sl_tup (f := eVar 4) (l := pSome (eLit (.int 1))) (u := pNone) (env := W) (ds := (wEs nc).map evD) (lo := some 1) (hi := none) v4 rfl rfl
    rw [cut_drop, ← List.map_drop] at sl
    exact sl
  have rin := roundsin_F h ((wEs nc).drop 1) (by rw [List.length_drop]; omega) fun e he => wEs_fit nc e (List.mem_of_mem_drop he)
  rw [rds_w1 hn] at rin
  have ne0 : oNe (.tup []) (.tup []) = some (.bl false) := by
    exact (oNe_of (a := .tup []) (b := .tup []) (okD_tints []) (okD_tints [])).trans rfl
  have t2 : asB (eBin oNe (eCall F_rounds_in (rCons (eVar 2) (rCons (eSl (eVar 4) (pSome (eLit (.int 1))) pNone) rNil))) (eTup aNil)) W = some (.ok false W) :=
    asB_bl _ _ _ _ (bin_of (eCall_sh [fr, evs ((wEs nc).drop 1)] (rcons_of rfl (rcons_of dr rnil_of)) rin) (tup_of anil_of (Nat.zero_le _)) ne0)
  -- what is refused
  have m21 := mulT hn 21 (by omega) (by omega)
  have tp : ∀ (xs : EV (List D)) (ds : List D), xs W = some (.ok ds W) → ds.length ≤ 100 → eTup xs W = some (.ok (.tup ds) W) := fun xs ds e k => tup_of e (by show _ ≤ 2 ^ 24; omega)
  have pr : ∀ x y : Int, eTup (aCons (eLit (.int x)) (aCons (eLit (.int y)) aNil)) W = some (.ok (.tup [.int x, .int y]) W) := fun x y => tp _ _ rfl (by simp)
  have mk : ∀ (f : EV D) (d : D) (x y : Int), f W = some (.ok d W) → eTup (aCons (eTup (aCons f (aCons (eTup (aCons (eLit (.int x)) (aCons (eLit (.int y)) aNil))) aNil))) aNil) W = some (.ok (.tup [.tup [d, .tup [.int x, .int y]]]) W) := fun f d x y e =>
    tp _ _ (acons_of (tp _ _ (acons_of e (acons_of (pr x y) anil_of)) (by simp)) anil_of) (by simp)
  have lst : eFrz (oLst (aCons (eLit .non) (aCons (eFrz (oBlt bList (aCons (eVar 4) aNil))) (aCons (eBin oMul (eVar 4) (eLit (.int 21))) (aCons (eTup (aCons (eTup (aCons (eLit (.int 0)) (aCons (eTup (aCons (eLit (.int 1)) (aCons (eLit (.int 0)) aNil))) aNil))) aNil)) (aCons (eTup (aCons (eTup (aCons (eLit (.bl true)) (aCons (eTup (aCons (eLit (.int 1)) (aCons (eLit (.int 1)) aNil))) aNil))) aNil)) (aCons (eTup (aCons (eTup (aCons (eNeg (eLit (.int 2))) (aCons (eTup (aCons (eLit (.int 1)) (aCons (eLit (.int 1)) aNil))) aNil))) aNil)) aNil))))))) W
      = some (.ok (.lst [.non, .lst ((wEs nc).map evD), .tup (List.replicate 21 ((wEs nc).map evD)).flatten, .tup [.tup [.int 0, .tup [.int 1, .int 0]]], .tup [.tup [.bl true, .tup [.int 1, .int 1]]], .tup [.tup [.int (-2), .tup [.int 1, .int 1]]]]) W) :=
    frz_of (lst_of (acons_of lit_of (acons_of (frz_of (oblt_of (acons_of v4 anil_of) rfl)) (acons_of (bin_of v4 lit_of m21) (acons_of (mk _ _ _ _ lit_of) (acons_of (mk _ _ _ _ lit_of) (acons_of (mk (eNeg (eLit (.int 2))) (.int (-2)) 1 1 rfl) anil_of)))))) (by show 6 ≤ 2 ^ 24; omega))
  obtain ⟨v, a3, b3, hv, r3⟩ := some_X (i := 1) (k := false) (a := a2) (b := b2) (a0 := a2) (b0 := b2) (env := W) (env1 := W) rfl rfl (by simp) (by show 6 < 2 ^ 60; omega) lst
  have bad : F_fits_events [.sh fr, .sh v] = some (.sh (.bl false) [.un, .un]) := by
    have hv : v = .non ∨ v = .lst ((wEs nc).map evD) ∨ v = .tup (List.replicate 21 ((wEs nc).map evD)).flatten ∨ v = .tup [.tup [.int 0, .tup [.int 1, .int 0]]] ∨ v = .tup [.tup [.bl true, .tup [.int 1, .int 1]]] ∨ v = .tup [.tup [.int (-2), .tup [.int 1, .int 1]]] := by simpa using hv
    rcases hv with rfl | rfl | rfl | rfl | rfl | rfl
    · exact fits_no1 (tupOf_non 0 40)
    · exact fits_no1 (tupOf_lst _ 0 40)
    · refine fits_long ?_
      rw [List.length_flatten, List.map_replicate, List.sum_replicate_nat, List.length_map, lw]; omega
    · exact no_a h n1
    · exact no_b h
    · exact no_c h
  have fin : eCall F__law_refused (rCons (eVar 2) (rCons (eCall F__law_some (rIo 1 (rCons (eFrz (oLst (aCons (eLit .non) (aCons (eFrz (oBlt bList (aCons (eVar 4) aNil))) (aCons (eBin oMul (eVar 4) (eLit (.int 21))) (aCons (eTup (aCons (eTup (aCons (eLit (.int 0)) (aCons (eTup (aCons (eLit (.int 1)) (aCons (eLit (.int 0)) aNil))) aNil))) aNil)) (aCons (eTup (aCons (eTup (aCons (eLit (.bl true)) (aCons (eTup (aCons (eLit (.int 1)) (aCons (eLit (.int 1)) aNil))) aNil))) aNil)) (aCons (eTup (aCons (eTup (aCons (eNeg (eLit (.int 2))) (aCons (eTup (aCons (eLit (.int 1)) (aCons (eLit (.int 1)) aNil))) aNil))) aNil)) aNil)))))))) rNil))) rNil)) W = some (.ok (.bl true) (W.set 1 (cupS false a3 b3))) :=
    eCall_sh [fr, v] (rcons_of rfl (rcons_of r3 rnil_of)) (refused_F h bad)
  refine fn_rt (env' := W.set 1 (cupS false a3 b3)) ?_
  unfold b_law
  refine (seq_nx s1).trans ((seq_nx s2).trans ((seq_nx s3).trans ((seq_nx s4).trans ?_)))
  refine (seq_nx ((if_f ((orB_f t1).trans t2)).trans rfl)).trans ?_
  exact ret_of fin
end K53

namespace K53
open PySem PySem.Spec PyProof.Rows L2 G3
def top (i : Nat) : Stmt := PySem.Challenge.pw_steadyspan_k53_rounds.main.body.getD i (.Pass ⟨0, 0, 0, 0⟩)
abbrev s_all_cases : Stmt := top 32
abbrev s_is_round : Stmt := top 33
abbrev s_rounds_of : Stmt := top 34
abbrev s_is_whole : Stmt := top 5
abbrev s_common_divisor : Stmt := top 8
abbrev s_is_tuple_of : Stmt := top 7
abbrev s_is_integer : Stmt := top 6
abbrev s_fits_ratio : Stmt := top 9
abbrev s_fits_events : Stmt := top 29
abbrev s_need_events : Stmt := top 31
abbrev s_fits_load : Stmt := top 23
abbrev s_are_unlike : Stmt := top 24
abbrev s_fits_bar : Stmt := top 22
abbrev s_fits_sort : Stmt := top 20
abbrev s_fits_joint : Stmt := top 21
abbrev s_fits_frame : Stmt := top 25
abbrev s_need_frame : Stmt := top 26
abbrev s_rounds_in : Stmt := top 35
abbrev s__law_refused : Stmt := top 57
abbrev s__law_roll : Stmt := top 38
abbrev s__law_some : Stmt := top 39
abbrev s__law_rounds : Stmt := top 56
abbrev s__law_made : Stmt := top 40
abbrev s__law_any_events : Stmt := top 55
abbrev s__law_star : Stmt := top 54
abbrev s__law_cup : Stmt := top 37
abbrev s_law : Stmt := top 58
structure Env (g : Gr) : Prop where
  fr_abs : Free g "abs"
  fr_all : Free g "all"
  fr_any : Free g "any"
  fr_bool : Free g "bool"
  fr_int : Free g "int"
  fr_isinstance : Free g "isinstance"
  fr_len : Free g "len"
  fr_list : Free g "list"
  fr_range : Free g "range"
  fr_repr : Free g "repr"
  fr_set : Free g "set"
  fr_sorted : Free g "sorted"
  fr_str : Free g "str"
  fr_tuple : Free g "tuple"
  c_BARS : Cst g "BARS" c_BARS
  c_CASES : Cst g "CASES" c_CASES
  c_EVENTS : Cst g "EVENTS" c_EVENTS
  c_HELD : Cst g "HELD" c_HELD
  c_JOINTS : Cst g "JOINTS" c_JOINTS
  c_LIMIT : Cst g "LIMIT" c_LIMIT
  c_LOAD : Cst g "LOAD" c_LOAD
  c_PLACE : Cst g "PLACE" c_PLACE
  c_SORTS : Cst g "SORTS" c_SORTS
  c_STIFF : Cst g "STIFF" c_STIFF
  x_InvalidEvents : ExcS g "InvalidEvents"
  x_InvalidFrame : ExcS g "InvalidFrame"
  ca_InvalidEvents : Catches g "InvalidEvents" mt_InvalidEvents
  ie_SpanError : ∀ c b, ie_SpanError c = some b → IsEx g c "SpanError" b
  fu_all_cases : Fu g "all_cases" s_all_cases
  fu_is_round : Fu g "is_round" s_is_round
  fu_rounds_of : Fu g "rounds_of" s_rounds_of
  fu_is_whole : Fu g "is_whole" s_is_whole
  fu_common_divisor : Fu g "common_divisor" s_common_divisor
  fu_is_tuple_of : Fu g "is_tuple_of" s_is_tuple_of
  fu_is_integer : Fu g "is_integer" s_is_integer
  fu_fits_ratio : Fu g "fits_ratio" s_fits_ratio
  fu_fits_events : Fu g "fits_events" s_fits_events
  fu_need_events : Fu g "need_events" s_need_events
  fu_fits_load : Fu g "fits_load" s_fits_load
  fu_are_unlike : Fu g "are_unlike" s_are_unlike
  fu_fits_bar : Fu g "fits_bar" s_fits_bar
  fu_fits_sort : Fu g "fits_sort" s_fits_sort
  fu_fits_joint : Fu g "fits_joint" s_fits_joint
  fu_fits_frame : Fu g "fits_frame" s_fits_frame
  fu_need_frame : Fu g "need_frame" s_need_frame
  fu_rounds_in : Fu g "rounds_in" s_rounds_in
  fu__law_refused : Fu g "_law_refused" s__law_refused
  fu__law_roll : Fu g "_law_roll" s__law_roll
  fu__law_some : Fu g "_law_some" s__law_some
  fu__law_rounds : Fu g "_law_rounds" s__law_rounds
  fu__law_made : Fu g "_law_made" s__law_made
  fu__law_any_events : Fu g "_law_any_events" s__law_any_events
  fu__law_star : Fu g "_law_star" s__law_star
  fu__law_cup : Fu g "_law_cup" s__law_cup
  fu_law : Fu g "law" s_law
theorem sc_all_cases : FnScope ["frame"] ["frame"] (defScope s_all_cases) := ⟨rfl, rfl, rfl, by decide +kernel, rfl, by decide +kernel, by decide +kernel⟩
theorem w_all_cases {g : Gr} (E : Env g) : SSs g (defG ["frame"] (defScope s_all_cases) 0) (defBody s_all_cases) b_all_cases :=
  (sss_one (ss_ret (se_frz (so_range2 rfl (by decide +kernel) E.fr_list (by decide +kernel) E.fr_range (se_neg se_int) (se_callB ok_len (by decide +kernel) E.fr_len rfl (sa_cons (se_ix (se_var (i := 0) (by decide +kernel)) se_int rfl) sa_nil rfl) rfl) rfl rfl))))
theorem t_all_cases {g : Gr} (E : Env g) : FnS g "all_cases" 1 1 F_all_cases :=
  (fnS_of E.fu_all_cases sc_all_cases (by decide) (w_all_cases E) fun _ _ _ _ _ _ us hl => match us, hl with | [_], _ => rfl)
theorem sc_is_round : FnScope ["frame", "events", "case", "factor"] ["frame", "events"] (defScope s_is_round) := ⟨rfl, rfl, rfl, by decide +kernel, rfl, by decide +kernel, by decide +kernel⟩
theorem w_is_round {g : Gr} (E : Env g) : SSs g (defG ["frame", "events", "case", "factor"] (defScope s_is_round) 1) (defBody s_is_round) b_is_round :=
  (sss_cons (ss_if (st_val (se_callB (ok_any rfl) (by decide +kernel) E.fr_any rfl (sa_cons (se_frz (so_comp (own := [("case", 2), ("factor", 3)]) rfl (by decide +kernel) (si_seq (se_var (i := 1) (by decide +kernel))) (by decide +kernel) (sg_tup (sgs_cons (sg_name (i := 2) (by decide +kernel) (by decide)) (sgs_cons (sg_name (i := 3) (by decide +kernel) (by decide)) sgs_nil rfl) rfl) rfl rfl) sts_nil (se_cmp (ok_ne rfl) (se_var (i := 3) (by decide +kernel)) (se_ix (se_ix (se_var (i := 1) (by decide +kernel)) se_int rfl) se_int rfl) rfl) rfl)) sa_nil rfl) rfl) rfl)
  (sss_one (ss_ret se_bl))
  sss_nil)
  (sss_one (ss_ret (se_cmp (ok_eq rfl) (se_frz (so_callB ok_sorted2 (by decide +kernel) E.fr_sorted rfl (sa_cons (se_frz (so_comp (own := [("case", 2), ("factor", 3)]) rfl (by decide +kernel) (si_seq (se_var (i := 1) (by decide +kernel))) (by decide +kernel) (sg_tup (sgs_cons (sg_name (i := 2) (by decide +kernel) (by decide)) (sgs_cons (sg_name (i := 3) (by decide +kernel) (by decide)) sgs_nil rfl) rfl) rfl rfl) sts_nil (se_var (i := 2) (by decide +kernel)) rfl)) sa_nil rfl) rfl)) (se_call (t_all_cases E) (by decide +kernel) (by decide) rfl (sar_cons (se_var (i := 0) (by decide +kernel)) sar_nil rfl) rfl rfl (la_cons la_nil)) rfl))))
theorem t_is_round {g : Gr} (E : Env g) : FnS g "is_round" 2 2 F_is_round :=
  (fnS_of E.fu_is_round sc_is_round (by decide) (w_is_round E) fun _ _ _ _ _ _ us hl => match us, hl with | [_, _], _ => rfl)
theorem sc_rounds_of : FnScope ["frame", "events", "found", "at", "many"] ["frame", "events"] (defScope s_rounds_of) := ⟨rfl, rfl, rfl, by decide +kernel, rfl, by decide +kernel, by decide +kernel⟩
theorem w_rounds_of {g : Gr} (E : Env g) : SSs g (defG ["frame", "events", "found", "at", "many"] (defScope s_rounds_of) 2) (defBody s_rounds_of) b_rounds_of :=
  (sss_cons (ss_parR (is := [2, 3, 4]) (ns := ["found", "at", "many"]) rfl (sao_o (so_lst sa_nil) (sao_s se_int (sao_s (se_bin ok_add (se_callB ok_len (by decide +kernel) E.fr_len rfl (sa_cons (se_ix (se_var (i := 0) (by decide +kernel)) se_int rfl) sa_nil rfl) rfl) se_int) sao_nil rfl) rfl) rfl) (fun env h => by cases env; cases h; rfl) rfl (par_R (by decide +kernel)) (by decide))
  (sss_cons (ss_while rfl (st_cmp ok_le (se_bin ok_add (se_var (i := 3) (by decide +kernel)) (se_var (i := 4) (by decide +kernel))) (se_callB ok_len (by decide +kernel) E.fr_len rfl (sa_cons (se_var (i := 1) (by decide +kernel)) sa_nil rfl) rfl) rfl)
  (sss_one (ss_if (st_val (se_call (t_is_round E) (by decide +kernel) (by decide) rfl (sar_cons (se_var (i := 0) (by decide +kernel)) (sar_cons (se_slice (se_var (i := 1) (by decide +kernel)) (sp_some (se_var (i := 3) (by decide +kernel))) (sp_some (se_bin ok_add (se_var (i := 3) (by decide +kernel)) (se_var (i := 4) (by decide +kernel))))) sar_nil rfl) rfl) rfl rfl (la_cons (la_cons la_nil))) rfl)
  (sss_cons (ss_append (i := 2) (by decide +kernel) (se_var (i := 3) (by decide +kernel)) rfl rfl)
  (sss_one (ss_set (i := 3) (by decide +kernel) (se_bin ok_add (se_var (i := 3) (by decide +kernel)) (se_var (i := 4) (by decide +kernel))) rfl)))
  (sss_one (ss_set (i := 3) (by decide +kernel) (se_bin ok_add (se_var (i := 3) (by decide +kernel)) se_int) rfl)))))
  (sss_one (ss_ret (se_var (i := 2) (by decide +kernel))))))
theorem t_rounds_of {g : Gr} (E : Env g) : FnS g "rounds_of" 2 3 F_rounds_of :=
  (fnS_of E.fu_rounds_of sc_rounds_of (by decide) (w_rounds_of E) fun _ _ _ _ _ _ us hl => match us, hl with | [_, _], _ => rfl)
theorem sc_is_whole : FnScope ["value", "low", "high"] ["value", "low", "high"] (defScope s_is_whole) := ⟨rfl, rfl, rfl, by decide +kernel, rfl, by decide +kernel, by decide +kernel⟩
theorem w_is_whole {g : Gr} (E : Env g) : SSs g (defG ["value", "low", "high"] (defScope s_is_whole) 0) (defBody s_is_whole) b_is_whole :=
  (sss_one (ss_ret (se_and (se_isi (T := "int") (by decide +kernel) E.fr_isinstance (by decide +kernel) E.fr_int rfl (se_var (i := 0) (by decide +kernel)) rfl) (se_and (se_not (se_isi (T := "bool") (by decide +kernel) E.fr_isinstance (by decide +kernel) E.fr_bool rfl (se_var (i := 0) (by decide +kernel)) rfl)) (se_one (se_chain ok_le ok_le (se_var (i := 1) (by decide +kernel)) (se_var (i := 0) (by decide +kernel)) (se_var (i := 2) (by decide +kernel)) rfl))))))
theorem t_is_whole {g : Gr} (E : Env g) : FnS g "is_whole" 3 1 F_is_whole :=
  (fnS_of E.fu_is_whole sc_is_whole (by decide) (w_is_whole E) fun _ _ _ _ _ _ us hl => match us, hl with | [_, _, _], _ => rfl)
theorem sc_common_divisor : FnScope ["one", "other"] ["one", "other"] (defScope s_common_divisor) := ⟨rfl, rfl, rfl, by decide +kernel, rfl, by decide +kernel, by decide +kernel⟩
theorem w_common_divisor {g : Gr} (E : Env g) : SSs g (defG ["one", "other"] (defScope s_common_divisor) 0) (defBody s_common_divisor) b_common_divisor :=
  (sss_cons (ss_parR (is := [0, 1]) (ns := ["one", "other"]) rfl (sao_s (se_callB ok_abs (by decide +kernel) E.fr_abs rfl (sa_cons (se_var (i := 0) (by decide +kernel)) sa_nil rfl) rfl) (sao_s (se_callB ok_abs (by decide +kernel) E.fr_abs rfl (sa_cons (se_var (i := 1) (by decide +kernel)) sa_nil rfl) rfl) sao_nil rfl) rfl) (fun env h => by cases env; cases h; rfl) rfl (par_R (by decide +kernel)) (by decide))
  (sss_cons (ss_while rfl (st_cmp (ok_ne rfl) (se_var (i := 1) (by decide +kernel)) se_int rfl)
  (sss_one (ss_parR (is := [0, 1]) (ns := ["one", "other"]) rfl (sao_s (se_var (i := 1) (by decide +kernel)) (sao_s (se_bin ok_mod (se_var (i := 0) (by decide +kernel)) (se_var (i := 1) (by decide +kernel))) sao_nil rfl) rfl) (fun env h => by cases env; cases h; rfl) rfl (par_R (by decide +kernel)) (by decide))))
  (sss_one (ss_ret (se_var (i := 0) (by decide +kernel))))))
theorem t_common_divisor {g : Gr} (E : Env g) : FnS g "common_divisor" 2 1 F_common_divisor :=
  (fnS_of E.fu_common_divisor sc_common_divisor (by decide) (w_common_divisor E) fun _ _ _ _ _ _ us hl => match us, hl with | [_, _], _ => rfl)
theorem sc_is_tuple_of : FnScope ["value", "low", "high"] ["value", "low", "high"] (defScope s_is_tuple_of) := ⟨rfl, rfl, rfl, by decide +kernel, rfl, by decide +kernel, by decide +kernel⟩
theorem w_is_tuple_of {g : Gr} (E : Env g) : SSs g (defG ["value", "low", "high"] (defScope s_is_tuple_of) 0) (defBody s_is_tuple_of) b_is_tuple_of :=
  (sss_one (ss_ret (se_and (se_isi (T := "tuple") (by decide +kernel) E.fr_isinstance (by decide +kernel) E.fr_tuple rfl (se_var (i := 0) (by decide +kernel)) rfl) (se_one (se_chain ok_le ok_le (se_var (i := 1) (by decide +kernel)) (se_callB ok_len (by decide +kernel) E.fr_len rfl (sa_cons (se_var (i := 0) (by decide +kernel)) sa_nil rfl) rfl) (se_var (i := 2) (by decide +kernel)) rfl)))))
theorem t_is_tuple_of {g : Gr} (E : Env g) : FnS g "is_tuple_of" 3 1 F_is_tuple_of :=
  (fnS_of E.fu_is_tuple_of sc_is_tuple_of (by decide) (w_is_tuple_of E) fun _ _ _ _ _ _ us hl => match us, hl with | [_, _, _], _ => rfl)
theorem sc_is_integer : FnScope ["value"] ["value"] (defScope s_is_integer) := ⟨rfl, rfl, rfl, by decide +kernel, rfl, by decide +kernel, by decide +kernel⟩
theorem w_is_integer {g : Gr} (E : Env g) : SSs g (defG ["value"] (defScope s_is_integer) 0) (defBody s_is_integer) b_is_integer :=
  (sss_one (ss_ret (se_and (se_isi (T := "int") (by decide +kernel) E.fr_isinstance (by decide +kernel) E.fr_int rfl (se_var (i := 0) (by decide +kernel)) rfl) (se_one (se_not (se_isi (T := "bool") (by decide +kernel) E.fr_isinstance (by decide +kernel) E.fr_bool rfl (se_var (i := 0) (by decide +kernel)) rfl))))))
theorem t_is_integer {g : Gr} (E : Env g) : FnS g "is_integer" 1 1 F_is_integer :=
  (fnS_of E.fu_is_integer sc_is_integer (by decide) (w_is_integer E) fun _ _ _ _ _ _ us hl => match us, hl with | [_], _ => rfl)
theorem sc_fits_ratio : FnScope ["value"] ["value"] (defScope s_fits_ratio) := ⟨rfl, rfl, rfl, by decide +kernel, rfl, by decide +kernel, by decide +kernel⟩
theorem w_fits_ratio {g : Gr} (E : Env g) : SSs g (defG ["value"] (defScope s_fits_ratio) 1) (defBody s_fits_ratio) b_fits_ratio :=
  (sss_cons (ss_if (st_w (sw_or (st_not (st_val (se_call (t_is_tuple_of E) (by decide +kernel) (by decide) rfl (sar_cons (se_var (i := 0) (by decide +kernel)) (sar_cons se_int (sar_cons se_int sar_nil rfl) rfl) rfl) rfl rfl (la_cons (la_cons (la_cons la_nil)))) rfl)) (sw_or (st_not (st_val (se_call (t_is_integer E) (by decide +kernel) (by decide) rfl (sar_cons (se_ix (se_var (i := 0) (by decide +kernel)) se_int rfl) sar_nil rfl) rfl rfl (la_cons la_nil)) rfl)) (sw_or1 (st_not (st_val (se_call (t_is_integer E) (by decide +kernel) (by decide) rfl (sar_cons (se_ix (se_var (i := 0) (by decide +kernel)) se_int rfl) sar_nil rfl) rfl rfl (la_cons la_nil)) rfl))))))
  (sss_one (ss_ret se_bl))
  sss_nil)
  (sss_one (ss_ret (se_and (se_cmp ok_ge (se_ix (se_var (i := 0) (by decide +kernel)) se_int rfl) se_int rfl) (se_one (se_cmp (ok_eq rfl) (se_call (t_common_divisor E) (by decide +kernel) (by decide) rfl (sar_cons (se_ix (se_var (i := 0) (by decide +kernel)) se_int rfl) (sar_cons (se_ix (se_var (i := 0) (by decide +kernel)) se_int rfl) sar_nil rfl) rfl) rfl rfl (la_cons (la_cons la_nil))) se_int rfl))))))
theorem t_fits_ratio {g : Gr} (E : Env g) : FnS g "fits_ratio" 1 2 F_fits_ratio :=
  (fnS_of E.fu_fits_ratio sc_fits_ratio (by decide) (w_fits_ratio E) fun _ _ _ _ _ _ us hl => match us, hl with | [_], _ => rfl)
theorem sc_fits_events : FnScope ["frame", "value", "many", "one"] ["frame", "value"] (defScope s_fits_events) := ⟨rfl, rfl, rfl, by decide +kernel, rfl, by decide +kernel, by decide +kernel⟩
theorem w_fits_events {g : Gr} (E : Env g) : SSs g (defG ["frame", "value", "many", "one"] (defScope s_fits_events) 2) (defBody s_fits_events) b_fits_events :=
  (sss_cons (ss_if (st_w (sw_or (st_not (st_val (se_call (t_is_tuple_of E) (by decide +kernel) (by decide) rfl (sar_cons (se_var (i := 1) (by decide +kernel)) (sar_cons se_int (sar_cons (se_cst (by decide +kernel) E.c_EVENTS) sar_nil rfl) rfl) rfl) rfl rfl (la_cons (la_cons (la_cons la_nil)))) rfl)) (sw_or1 (st_not (st_val (se_callB (ok_all rfl) (by decide +kernel) E.fr_all rfl (sa_cons (se_frz (so_comp (own := [("one", 3)]) rfl (by decide +kernel) (si_seq (se_var (i := 1) (by decide +kernel))) (by decide +kernel) (sg_name (i := 3) (by decide +kernel) (by decide)) sts_nil (se_call (t_is_tuple_of E) (by decide +kernel) (by decide) rfl (sar_cons (se_var (i := 3) (by decide +kernel)) (sar_cons se_int (sar_cons se_int sar_nil rfl) rfl) rfl) rfl rfl (la_cons (la_cons (la_cons la_nil)))) rfl)) sa_nil rfl) rfl) rfl)))))
  (sss_one (ss_ret se_bl))
  sss_nil)
  (sss_cons (ss_set (i := 2) (by decide +kernel) (se_callB ok_len (by decide +kernel) E.fr_len rfl (sa_cons (se_ix (se_var (i := 0) (by decide +kernel)) se_int rfl) sa_nil rfl) rfl) rfl)
  (sss_one (ss_ret (se_callB (ok_all rfl) (by decide +kernel) E.fr_all rfl (sa_cons (se_frz (so_comp (own := [("one", 3)]) rfl (by decide +kernel) (si_seq (se_var (i := 1) (by decide +kernel))) (by decide +kernel) (sg_name (i := 3) (by decide +kernel) (by decide)) sts_nil (se_and (se_call (t_is_whole E) (by decide +kernel) (by decide) rfl (sar_cons (se_ix (se_var (i := 3) (by decide +kernel)) se_int rfl) (sar_cons (se_neg se_int) (sar_cons (se_bin ok_sub (se_var (i := 2) (by decide +kernel)) se_int) sar_nil rfl) rfl) rfl) rfl rfl (la_cons (la_cons (la_cons la_nil)))) (se_and (se_call (t_fits_ratio E) (by decide +kernel) (by decide) rfl (sar_cons (se_ix (se_var (i := 3) (by decide +kernel)) se_int rfl) sar_nil rfl) rfl rfl (la_cons la_nil)) (se_one (se_cmp ok_ge (se_ix (se_ix (se_var (i := 3) (by decide +kernel)) se_int rfl) se_int rfl) se_int rfl)))) rfl)) sa_nil rfl) rfl)))))
theorem t_fits_events {g : Gr} (E : Env g) : FnS g "fits_events" 2 3 F_fits_events :=
  (fnS_of E.fu_fits_events sc_fits_events (by decide) (w_fits_events E) fun _ _ _ _ _ _ us hl => match us, hl with | [_, _], _ => rfl)
theorem sc_need_events : FnScope ["frame", "value"] ["frame", "value"] (defScope s_need_events) := ⟨rfl, rfl, rfl, by decide +kernel, rfl, by decide +kernel, by decide +kernel⟩
theorem w_need_events {g : Gr} (E : Env g) : SSs g (defG ["frame", "value"] (defScope s_need_events) 3) (defBody s_need_events) b_need_events :=
  (sss_one (ss_if (st_not (st_val (se_call (t_fits_events E) (by decide +kernel) (by decide) rfl (sar_cons (se_var (i := 0) (by decide +kernel)) (sar_cons (se_var (i := 1) (by decide +kernel)) sar_nil rfl) rfl) rfl rfl (la_cons (la_cons la_nil))) rfl))
  (sss_one (ss_raise rfl (by decide +kernel) E.x_InvalidEvents))
  sss_nil))
theorem t_need_events {g : Gr} (E : Env g) : FnS g "need_events" 2 4 F_need_events :=
  (fnS_of E.fu_need_events sc_need_events (by decide) (w_need_events E) fun _ _ _ _ _ _ us hl => match us, hl with | [_, _], _ => rfl)
theorem sc_fits_load : FnScope ["joints", "value", "one", "part"] ["joints", "value"] (defScope s_fits_load) := ⟨rfl, rfl, rfl, by decide +kernel, rfl, by decide +kernel, by decide +kernel⟩
theorem w_fits_load {g : Gr} (E : Env g) : SSs g (defG ["joints", "value", "one", "part"] (defScope s_fits_load) 1) (defBody s_fits_load) b_fits_load :=
  (sss_cons (ss_if (st_not (st_val (se_call (t_is_tuple_of E) (by decide +kernel) (by decide) rfl (sar_cons (se_var (i := 1) (by decide +kernel)) (sar_cons (se_var (i := 0) (by decide +kernel)) (sar_cons (se_var (i := 0) (by decide +kernel)) sar_nil rfl) rfl) rfl) rfl rfl (la_cons (la_cons (la_cons la_nil)))) rfl))
  (sss_one (ss_ret se_bl))
  sss_nil)
  (sss_one (ss_ret (se_callB (ok_all rfl) (by decide +kernel) E.fr_all rfl (sa_cons (se_frz (so_comp (own := [("one", 2)]) rfl (by decide +kernel) (si_seq (se_var (i := 1) (by decide +kernel))) (by decide +kernel) (sg_name (i := 2) (by decide +kernel) (by decide)) sts_nil (se_and (se_call (t_is_tuple_of E) (by decide +kernel) (by decide) rfl (sar_cons (se_var (i := 2) (by decide +kernel)) (sar_cons se_int (sar_cons se_int sar_nil rfl) rfl) rfl) rfl rfl (la_cons (la_cons (la_cons la_nil)))) (se_one (se_callB (ok_all rfl) (by decide +kernel) E.fr_all rfl (sa_cons (se_frz (so_comp (own := [("part", 3)]) rfl (by decide +kernel) (si_seq (se_var (i := 2) (by decide +kernel))) (by decide +kernel) (sg_name (i := 3) (by decide +kernel) (by decide)) sts_nil (se_call (t_is_whole E) (by decide +kernel) (by decide) rfl (sar_cons (se_var (i := 3) (by decide +kernel)) (sar_cons (se_neg (se_cst (by decide +kernel) E.c_LOAD)) (sar_cons (se_cst (by decide +kernel) E.c_LOAD) sar_nil rfl) rfl) rfl) rfl rfl (la_cons (la_cons (la_cons la_nil)))) rfl)) sa_nil rfl) rfl))) rfl)) sa_nil rfl) rfl))))
theorem t_fits_load {g : Gr} (E : Env g) : FnS g "fits_load" 2 2 F_fits_load :=
  (fnS_of E.fu_fits_load sc_fits_load (by decide) (w_fits_load E) fun _ _ _ _ _ _ us hl => match us, hl with | [_, _], _ => rfl)
theorem sc_are_unlike : FnScope ["items"] ["items"] (defScope s_are_unlike) := ⟨rfl, rfl, rfl, by decide +kernel, rfl, by decide +kernel, by decide +kernel⟩
theorem w_are_unlike {g : Gr} (E : Env g) : SSs g (defG ["items"] (defScope s_are_unlike) 0) (defBody s_are_unlike) b_are_unlike :=
  (sss_one (ss_ret (se_cmp (ok_eq rfl) (se_lenSet rfl (by decide +kernel) E.fr_len (by decide +kernel) E.fr_set (se_var (i := 0) (by decide +kernel)) rfl) (se_callB ok_len (by decide +kernel) E.fr_len rfl (sa_cons (se_var (i := 0) (by decide +kernel)) sa_nil rfl) rfl) rfl)))
theorem t_are_unlike {g : Gr} (E : Env g) : FnS g "are_unlike" 1 1 F_are_unlike :=
  (fnS_of E.fu_are_unlike sc_are_unlike (by decide) (w_are_unlike E) fun _ _ _ _ _ _ us hl => match us, hl with | [_], _ => rfl)
theorem sc_fits_bar : FnScope ["sorts", "joints", "value"] ["sorts", "joints", "value"] (defScope s_fits_bar) := ⟨rfl, rfl, rfl, by decide +kernel, rfl, by decide +kernel, by decide +kernel⟩
theorem w_fits_bar {g : Gr} (E : Env g) : SSs g (defG ["sorts", "joints", "value"] (defScope s_fits_bar) 1) (defBody s_fits_bar) b_fits_bar :=
  (sss_cons (ss_if (st_w (sw_or (st_not (st_val (se_call (t_is_tuple_of E) (by decide +kernel) (by decide) rfl (sar_cons (se_var (i := 2) (by decide +kernel)) (sar_cons se_int (sar_cons se_int sar_nil rfl) rfl) rfl) rfl rfl (la_cons (la_cons (la_cons la_nil)))) rfl)) (sw_or (st_not (st_val (se_call (t_is_whole E) (by decide +kernel) (by decide) rfl (sar_cons (se_ix (se_var (i := 2) (by decide +kernel)) se_int rfl) (sar_cons se_int (sar_cons (se_bin ok_sub (se_var (i := 1) (by decide +kernel)) se_int) sar_nil rfl) rfl) rfl) rfl rfl (la_cons (la_cons (la_cons la_nil)))) rfl)) (sw_or1 (st_not (st_val (se_call (t_is_whole E) (by decide +kernel) (by decide) rfl (sar_cons (se_ix (se_var (i := 2) (by decide +kernel)) se_int rfl) (sar_cons se_int (sar_cons (se_bin ok_sub (se_var (i := 1) (by decide +kernel)) se_int) sar_nil rfl) rfl) rfl) rfl rfl (la_cons (la_cons (la_cons la_nil)))) rfl))))))
  (sss_one (ss_ret se_bl))
  sss_nil)
  (sss_one (ss_ret (se_and (se_cmp (ok_ne rfl) (se_ix (se_var (i := 2) (by decide +kernel)) se_int rfl) (se_ix (se_var (i := 2) (by decide +kernel)) se_int rfl) rfl) (se_and (se_call (t_is_whole E) (by decide +kernel) (by decide) rfl (sar_cons (se_ix (se_var (i := 2) (by decide +kernel)) se_int rfl) (sar_cons se_int (sar_cons (se_bin ok_sub (se_var (i := 0) (by decide +kernel)) se_int) sar_nil rfl) rfl) rfl) rfl rfl (la_cons (la_cons (la_cons la_nil)))) (se_one (se_call (t_is_whole E) (by decide +kernel) (by decide) rfl (sar_cons (se_ix (se_var (i := 2) (by decide +kernel)) se_int rfl) (sar_cons (se_neg (se_cst (by decide +kernel) E.c_LOAD)) (sar_cons (se_cst (by decide +kernel) E.c_LOAD) sar_nil rfl) rfl) rfl) rfl rfl (la_cons (la_cons (la_cons la_nil))))))))))
theorem t_fits_bar {g : Gr} (E : Env g) : FnS g "fits_bar" 3 2 F_fits_bar :=
  (fnS_of E.fu_fits_bar sc_fits_bar (by decide) (w_fits_bar E) fun _ _ _ _ _ _ us hl => match us, hl with | [_, _, _], _ => rfl)
theorem sc_fits_sort : FnScope ["value"] ["value"] (defScope s_fits_sort) := ⟨rfl, rfl, rfl, by decide +kernel, rfl, by decide +kernel, by decide +kernel⟩
theorem w_fits_sort {g : Gr} (E : Env g) : SSs g (defG ["value"] (defScope s_fits_sort) 1) (defBody s_fits_sort) b_fits_sort :=
  (sss_cons (ss_if (st_w (sw_or (st_not (st_val (se_call (t_is_tuple_of E) (by decide +kernel) (by decide) rfl (sar_cons (se_var (i := 0) (by decide +kernel)) (sar_cons se_int (sar_cons se_int sar_nil rfl) rfl) rfl) rfl rfl (la_cons (la_cons (la_cons la_nil)))) rfl)) (sw_or1 (st_not (st_val (se_call (t_is_whole E) (by decide +kernel) (by decide) rfl (sar_cons (se_ix (se_var (i := 0) (by decide +kernel)) se_int rfl) (sar_cons se_int (sar_cons (se_cst (by decide +kernel) E.c_STIFF) sar_nil rfl) rfl) rfl) rfl rfl (la_cons (la_cons (la_cons la_nil)))) rfl)))))
  (sss_one (ss_ret se_bl))
  sss_nil)
  (sss_one (ss_ret (se_and (se_call (t_is_whole E) (by decide +kernel) (by decide) rfl (sar_cons (se_ix (se_var (i := 0) (by decide +kernel)) se_int rfl) (sar_cons se_int (sar_cons (se_cst (by decide +kernel) E.c_LIMIT) sar_nil rfl) rfl) rfl) rfl rfl (la_cons (la_cons (la_cons la_nil)))) (se_one (se_call (t_is_whole E) (by decide +kernel) (by decide) rfl (sar_cons (se_ix (se_var (i := 0) (by decide +kernel)) se_int rfl) (sar_cons se_int (sar_cons (se_cst (by decide +kernel) E.c_LIMIT) sar_nil rfl) rfl) rfl) rfl rfl (la_cons (la_cons (la_cons la_nil)))))))))
theorem t_fits_sort {g : Gr} (E : Env g) : FnS g "fits_sort" 1 2 F_fits_sort :=
  (fnS_of E.fu_fits_sort sc_fits_sort (by decide) (w_fits_sort E) fun _ _ _ _ _ _ us hl => match us, hl with | [_], _ => rfl)
theorem sc_fits_joint : FnScope ["value"] ["value"] (defScope s_fits_joint) := ⟨rfl, rfl, rfl, by decide +kernel, rfl, by decide +kernel, by decide +kernel⟩
theorem w_fits_joint {g : Gr} (E : Env g) : SSs g (defG ["value"] (defScope s_fits_joint) 1) (defBody s_fits_joint) b_fits_joint :=
  (sss_cons (ss_if (st_w (sw_or (st_not (st_val (se_call (t_is_tuple_of E) (by decide +kernel) (by decide) rfl (sar_cons (se_var (i := 0) (by decide +kernel)) (sar_cons se_int (sar_cons se_int sar_nil rfl) rfl) rfl) rfl rfl (la_cons (la_cons (la_cons la_nil)))) rfl)) (sw_or (st_not (st_val (se_call (t_is_whole E) (by decide +kernel) (by decide) rfl (sar_cons (se_ix (se_var (i := 0) (by decide +kernel)) se_int rfl) (sar_cons se_int (sar_cons (se_cst (by decide +kernel) E.c_PLACE) sar_nil rfl) rfl) rfl) rfl rfl (la_cons (la_cons (la_cons la_nil)))) rfl)) (sw_or1 (st_not (st_val (se_call (t_is_whole E) (by decide +kernel) (by decide) rfl (sar_cons (se_ix (se_var (i := 0) (by decide +kernel)) se_int rfl) (sar_cons se_int (sar_cons (se_cst (by decide +kernel) E.c_PLACE) sar_nil rfl) rfl) rfl) rfl rfl (la_cons (la_cons (la_cons la_nil)))) rfl))))))
  (sss_one (ss_ret se_bl))
  sss_nil)
  (sss_one (ss_ret (se_and (se_isi (T := "str") (by decide +kernel) E.fr_isinstance (by decide +kernel) E.fr_str rfl (se_ix (se_var (i := 0) (by decide +kernel)) se_int rfl) rfl) (se_one (se_cmp ok_in (se_ix (se_var (i := 0) (by decide +kernel)) se_int rfl) (se_cst (by decide +kernel) E.c_HELD) rfl))))))
theorem t_fits_joint {g : Gr} (E : Env g) : FnS g "fits_joint" 1 2 F_fits_joint :=
  (fnS_of E.fu_fits_joint sc_fits_joint (by decide) (w_fits_joint E) fun _ _ _ _ _ _ us hl => match us, hl with | [_], _ => rfl)
theorem sc_fits_frame : FnScope ["value", "sorts", "joints", "bars", "cases", "one"] ["value"] (defScope s_fits_frame) := ⟨rfl, rfl, rfl, by decide +kernel, rfl, by decide +kernel, by decide +kernel⟩
theorem w_fits_frame {g : Gr} (E : Env g) : SSs g (defG ["value", "sorts", "joints", "bars", "cases", "one"] (defScope s_fits_frame) 2) (defBody s_fits_frame) b_fits_frame :=
  (sss_cons (ss_if (st_w (sw_or (st_not (st_val (se_call (t_is_tuple_of E) (by decide +kernel) (by decide) rfl (sar_cons (se_var (i := 0) (by decide +kernel)) (sar_cons se_int (sar_cons se_int sar_nil rfl) rfl) rfl) rfl rfl (la_cons (la_cons (la_cons la_nil)))) rfl)) (sw_or (st_not (st_val (se_call (t_is_tuple_of E) (by decide +kernel) (by decide) rfl (sar_cons (se_ix (se_var (i := 0) (by decide +kernel)) se_int rfl) (sar_cons se_int (sar_cons (se_cst (by decide +kernel) E.c_SORTS) sar_nil rfl) rfl) rfl) rfl rfl (la_cons (la_cons (la_cons la_nil)))) rfl)) (sw_or1 (st_not (st_val (se_call (t_is_tuple_of E) (by decide +kernel) (by decide) rfl (sar_cons (se_ix (se_var (i := 0) (by decide +kernel)) se_int rfl) (sar_cons se_int (sar_cons (se_cst (by decide +kernel) E.c_JOINTS) sar_nil rfl) rfl) rfl) rfl rfl (la_cons (la_cons (la_cons la_nil)))) rfl))))))
  (sss_one (ss_ret se_bl))
  sss_nil)
  (sss_cons (ss_unpack (vs := [1, 2, 3, 4]) (sg_tup (sgs_cons (sg_name (i := 1) (by decide +kernel) (by decide)) (sgs_cons (sg_name (i := 2) (by decide +kernel) (by decide)) (sgs_cons (sg_name (i := 3) (by decide +kernel) (by decide)) (sgs_cons (sg_name (i := 4) (by decide +kernel) (by decide)) sgs_nil rfl) rfl) rfl) rfl) rfl rfl) (se_var (i := 0) (by decide +kernel)) rfl)
  (sss_cons (ss_if (st_w (sw_or (st_not (st_val (se_call (t_is_tuple_of E) (by decide +kernel) (by decide) rfl (sar_cons (se_var (i := 3) (by decide +kernel)) (sar_cons se_int (sar_cons (se_cst (by decide +kernel) E.c_BARS) sar_nil rfl) rfl) rfl) rfl rfl (la_cons (la_cons (la_cons la_nil)))) rfl)) (sw_or1 (st_not (st_val (se_call (t_is_tuple_of E) (by decide +kernel) (by decide) rfl (sar_cons (se_var (i := 4) (by decide +kernel)) (sar_cons se_int (sar_cons (se_cst (by decide +kernel) E.c_CASES) sar_nil rfl) rfl) rfl) rfl rfl (la_cons (la_cons (la_cons la_nil)))) rfl)))))
  (sss_one (ss_ret se_bl))
  sss_nil)
  (sss_cons (ss_if (st_w (sw_or (st_not (st_val (se_callB (ok_all rfl) (by decide +kernel) E.fr_all rfl (sa_cons (se_frz (so_comp (own := [("one", 5)]) rfl (by decide +kernel) (si_seq (se_var (i := 1) (by decide +kernel))) (by decide +kernel) (sg_name (i := 5) (by decide +kernel) (by decide)) sts_nil (se_call (t_fits_sort E) (by decide +kernel) (by decide) rfl (sar_cons (se_var (i := 5) (by decide +kernel)) sar_nil rfl) rfl rfl (la_cons la_nil)) rfl)) sa_nil rfl) rfl) rfl)) (sw_or1 (st_not (st_val (se_callB (ok_all rfl) (by decide +kernel) E.fr_all rfl (sa_cons (se_frz (so_comp (own := [("one", 5)]) rfl (by decide +kernel) (si_seq (se_var (i := 2) (by decide +kernel))) (by decide +kernel) (sg_name (i := 5) (by decide +kernel) (by decide)) sts_nil (se_call (t_fits_joint E) (by decide +kernel) (by decide) rfl (sar_cons (se_var (i := 5) (by decide +kernel)) sar_nil rfl) rfl rfl (la_cons la_nil)) rfl)) sa_nil rfl) rfl) rfl)))))
  (sss_one (ss_ret se_bl))
  sss_nil)
  (sss_cons (ss_if (st_not (st_val (se_callB (ok_all rfl) (by decide +kernel) E.fr_all rfl (sa_cons (se_frz (so_comp (own := [("one", 5)]) rfl (by decide +kernel) (si_seq (se_var (i := 3) (by decide +kernel))) (by decide +kernel) (sg_name (i := 5) (by decide +kernel) (by decide)) sts_nil (se_call (t_fits_bar E) (by decide +kernel) (by decide) rfl (sar_cons (se_callB ok_len (by decide +kernel) E.fr_len rfl (sa_cons (se_var (i := 1) (by decide +kernel)) sa_nil rfl) rfl) (sar_cons (se_callB ok_len (by decide +kernel) E.fr_len rfl (sa_cons (se_var (i := 2) (by decide +kernel)) sa_nil rfl) rfl) (sar_cons (se_var (i := 5) (by decide +kernel)) sar_nil rfl) rfl) rfl) rfl rfl (la_cons (la_cons (la_cons la_nil)))) rfl)) sa_nil rfl) rfl) rfl))
  (sss_one (ss_ret se_bl))
  sss_nil)
  (sss_cons (ss_if (st_w (sw_or (st_not (st_val (se_call (t_are_unlike E) (by decide +kernel) (by decide) rfl (sar_cons (se_frz (so_comp (own := [("one", 5)]) rfl (by decide +kernel) (si_seq (se_var (i := 2) (by decide +kernel))) (by decide +kernel) (sg_name (i := 5) (by decide +kernel) (by decide)) sts_nil (se_slice (se_var (i := 5) (by decide +kernel)) sp_none (sp_some se_int)) rfl)) sar_nil rfl) rfl rfl (la_cons la_nil)) rfl)) (sw_or1 (st_not (st_val (se_call (t_are_unlike E) (by decide +kernel) (by decide) rfl (sar_cons (se_frz (so_comp (own := [("one", 5)]) rfl (by decide +kernel) (si_seq (se_var (i := 3) (by decide +kernel))) (by decide +kernel) (sg_name (i := 5) (by decide +kernel) (by decide)) sts_nil (se_callTy ok_tuple (by decide +kernel) E.fr_tuple rfl (sa_cons (se_frz (so_callB ok_sorted2 (by decide +kernel) E.fr_sorted rfl (sa_cons (se_slice (se_var (i := 5) (by decide +kernel)) sp_none (sp_some se_int)) sa_nil rfl) rfl)) sa_nil rfl) rfl) rfl)) sar_nil rfl) rfl rfl (la_cons la_nil)) rfl)))))
  (sss_one (ss_ret se_bl))
  sss_nil)
  (sss_one (ss_ret (se_callB (ok_all rfl) (by decide +kernel) E.fr_all rfl (sa_cons (se_frz (so_comp (own := [("one", 5)]) rfl (by decide +kernel) (si_seq (se_var (i := 4) (by decide +kernel))) (by decide +kernel) (sg_name (i := 5) (by decide +kernel) (by decide)) sts_nil (se_call (t_fits_load E) (by decide +kernel) (by decide) rfl (sar_cons (se_callB ok_len (by decide +kernel) E.fr_len rfl (sa_cons (se_var (i := 2) (by decide +kernel)) sa_nil rfl) rfl) (sar_cons (se_var (i := 5) (by decide +kernel)) sar_nil rfl) rfl) rfl rfl (la_cons (la_cons la_nil))) rfl)) sa_nil rfl) rfl)))))))))
theorem t_fits_frame {g : Gr} (E : Env g) : FnS g "fits_frame" 1 3 F_fits_frame :=
  (fnS_of E.fu_fits_frame sc_fits_frame (by decide) (w_fits_frame E) fun _ _ _ _ _ _ us hl => match us, hl with | [_], _ => rfl)
theorem sc_need_frame : FnScope ["value"] ["value"] (defScope s_need_frame) := ⟨rfl, rfl, rfl, by decide +kernel, rfl, by decide +kernel, by decide +kernel⟩
theorem w_need_frame {g : Gr} (E : Env g) : SSs g (defG ["value"] (defScope s_need_frame) 3) (defBody s_need_frame) b_need_frame :=
  (sss_one (ss_if (st_not (st_val (se_call (t_fits_frame E) (by decide +kernel) (by decide) rfl (sar_cons (se_var (i := 0) (by decide +kernel)) sar_nil rfl) rfl rfl (la_cons la_nil)) rfl))
  (sss_one (ss_raise rfl (by decide +kernel) E.x_InvalidFrame))
  sss_nil))
theorem t_need_frame {g : Gr} (E : Env g) : FnS g "need_frame" 1 4 F_need_frame :=
  (fnS_of E.fu_need_frame sc_need_frame (by decide) (w_need_frame E) fun _ _ _ _ _ _ us hl => match us, hl with | [_], _ => rfl)
theorem sc_rounds_in : FnScope ["frame", "events"] ["frame", "events"] (defScope s_rounds_in) := ⟨rfl, rfl, rfl, by decide +kernel, rfl, by decide +kernel, by decide +kernel⟩
theorem w_rounds_in {g : Gr} (E : Env g) : SSs g (defG ["frame", "events"] (defScope s_rounds_in) 4) (defBody s_rounds_in) b_rounds_in :=
  (sss_cons (ss_expr (se_call (t_need_frame E) (by decide +kernel) (by decide) rfl (sar_cons (se_var (i := 0) (by decide +kernel)) sar_nil rfl) rfl rfl (la_cons la_nil)) rfl)
  (sss_cons (ss_expr (se_call (t_need_events E) (by decide +kernel) (by decide) rfl (sar_cons (se_var (i := 0) (by decide +kernel)) (sar_cons (se_var (i := 1) (by decide +kernel)) sar_nil rfl) rfl) rfl rfl (la_cons (la_cons la_nil))) rfl)
  (sss_one (ss_ret (se_callTy ok_tuple (by decide +kernel) E.fr_tuple rfl (sa_cons (se_call (t_rounds_of E) (by decide +kernel) (by decide) rfl (sar_cons (se_var (i := 0) (by decide +kernel)) (sar_cons (se_var (i := 1) (by decide +kernel)) sar_nil rfl) rfl) rfl rfl (la_cons (la_cons la_nil))) sa_nil rfl) rfl)))))
theorem t_rounds_in {g : Gr} (E : Env g) : FnS g "rounds_in" 2 5 F_rounds_in :=
  (fnS_of E.fu_rounds_in sc_rounds_in (by decide) (w_rounds_in E) fun _ _ _ _ _ _ us hl => match us, hl with | [_, _], _ => rfl)
theorem sc__law_refused : FnScope ["frame", "value", "e"] ["frame", "value"] (defScope s__law_refused) := ⟨rfl, rfl, rfl, by decide +kernel, rfl, by decide +kernel, by decide +kernel⟩
theorem w__law_refused {g : Gr} (E : Env g) : SSs g (defG ["frame", "value", "e"] (defScope s__law_refused) 5) (defBody s__law_refused) b__law_refused :=
  (sss_cons (ss_try_as (i := 2) rfl (by decide +kernel) (by decide) rfl (by decide +kernel) E.ca_InvalidEvents
  (sss_one (ss_expr (se_call (t_rounds_in E) (by decide +kernel) (by decide) rfl (sar_cons (se_var (i := 0) (by decide +kernel)) (sar_cons (se_var (i := 1) (by decide +kernel)) sar_nil rfl) rfl) rfl rfl (la_cons (la_cons la_nil))) rfl))
  (su_ret (sue_isE (by decide +kernel) E.fr_isinstance (by decide +kernel) (by decide +kernel) E.ie_SpanError)))
  (sss_one (ss_ret se_bl)))
theorem t__law_refused {g : Gr} (E : Env g) : FnS g "_law_refused" 2 6 F__law_refused :=
  (fnS_of E.fu__law_refused sc__law_refused (by decide) (w__law_refused E) fun _ _ _ _ _ _ us hl => match us, hl with | [_, _], _ => rfl)
theorem sc__law_roll : FnScope ["cup", "many", "deep", "found"] ["cup", "many"] (defScope s__law_roll) := ⟨rfl, rfl, rfl, by decide +kernel, rfl, by decide +kernel, by decide +kernel⟩
theorem w__law_roll {g : Gr} (E : Env g) : SSs g (defG ["cup", "many", "deep", "found"] (defScope s__law_roll) 0) (defBody s__law_roll) b__law_roll :=
  (sss_cons (ss_if (st_cmp ok_gt (se_ixV (i := 0) (by decide +kernel) se_int rfl) se_int rfl)
  (sss_cons (ss_set (i := 3) (by decide +kernel) (se_bin ok_mod (se_callTy ok_int (by decide +kernel) E.fr_int rfl (sa_cons (se_ixV (i := 0) (by decide +kernel) se_int rfl) sa_nil rfl) rfl) (se_var (i := 1) (by decide +kernel))) rfl)
  (sss_cons (ss_setIx (i := 0) (by decide +kernel) se_int rfl (se_bin ok_fdiv (se_ixV (i := 0) (by decide +kernel) se_int rfl) (se_var (i := 1) (by decide +kernel))))
  (sss_one (ss_ret (se_var (i := 3) (by decide +kernel))))))
  sss_nil)
  (sss_cons (ss_setIx (i := 0) (by decide +kernel) se_int rfl (se_bin ok_mod (se_callTy ok_int (by decide +kernel) E.fr_int rfl (sa_cons (se_bin ok_add (se_bin ok_mul (se_ixV (i := 0) (by decide +kernel) se_int rfl) se_int) se_int) sa_nil rfl) rfl) se_int))
  (sss_cons (ss_set (i := 2) (by decide +kernel) (se_bin ok_mod (se_callTy ok_int (by decide +kernel) E.fr_int rfl (sa_cons (se_bin ok_mul (se_ixV (i := 0) (by decide +kernel) se_int rfl) (se_bin ok_add (se_ixV (i := 0) (by decide +kernel) se_int rfl) se_int)) sa_nil rfl) rfl) se_int) rfl)
  (sss_one (ss_ret (se_bin ok_mod (se_callTy ok_int (by decide +kernel) E.fr_int rfl (sa_cons (se_bin ok_fdiv (se_var (i := 2) (by decide +kernel)) se_int) sa_nil rfl) rfl) (se_var (i := 1) (by decide +kernel))))))))
theorem t__law_roll {g : Gr} (E : Env g) : FnS g "_law_roll" 2 1 F__law_roll :=
  (fnS_of E.fu__law_roll sc__law_roll (by decide) (w__law_roll E) fun _ _ _ _ _ _ us hl => match us, hl with | [_, _], _ => rfl)
theorem sc__law_some : FnScope ["cup", "things"] ["cup", "things"] (defScope s__law_some) := ⟨rfl, rfl, rfl, by decide +kernel, rfl, by decide +kernel, by decide +kernel⟩
theorem w__law_some {g : Gr} (E : Env g) : SSs g (defG ["cup", "things"] (defScope s__law_some) 1) (defBody s__law_some) b__law_some :=
  (sss_one (ss_ret (se_ix (se_var (i := 1) (by decide +kernel)) (se_call (t__law_roll E) (by decide +kernel) (by decide) rfl (sar_io (i := 0) (by decide +kernel) (sar_cons (se_callB ok_len (by decide +kernel) E.fr_len rfl (sa_cons (se_var (i := 1) (by decide +kernel)) sa_nil rfl) rfl) sar_nil rfl)) rfl rfl (la_io (la_cons la_nil))) rfl)))
theorem t__law_some {g : Gr} (E : Env g) : FnS g "_law_some" 2 2 F__law_some :=
  (fnS_of E.fu__law_some sc__law_some (by decide) (w__law_some E) fun _ _ _ _ _ _ us hl => match us, hl with | [_, _], _ => rfl)
theorem sc__law_rounds : FnScope ["frame", "events", "at", "many", "found", "free", "row", "cases", "case", "factor"] ["frame", "events"] (defScope s__law_rounds) := ⟨rfl, rfl, rfl, by decide +kernel, rfl, by decide +kernel, by decide +kernel⟩
theorem w__law_rounds {g : Gr} (E : Env g) : SSs g (defG ["frame", "events", "at", "many", "found", "free", "row", "cases", "case", "factor"] (defScope s__law_rounds) 0) (defBody s__law_rounds) b__law_rounds :=
  (sss_cons (ss_parR (is := [3, 4, 5]) (ns := ["many", "found", "free"]) rfl (sao_s (se_bin ok_add (se_callB ok_len (by decide +kernel) E.fr_len rfl (sa_cons (se_ix (se_var (i := 0) (by decide +kernel)) se_int rfl) sa_nil rfl) rfl) se_int) (sao_s (se_frz (so_lst sa_nil)) (sao_s se_int sao_nil rfl) rfl) rfl) (fun env h => by cases env; cases h; rfl) rfl (par_R (by decide +kernel)) (by decide))
  (sss_cons (ss_for (vs := [2]) rfl rfl (si_range1 (by decide +kernel) E.fr_range (se_bin ok_add (se_bin ok_sub (se_callB ok_len (by decide +kernel) E.fr_len rfl (sa_cons (se_var (i := 1) (by decide +kernel)) sa_nil rfl) rfl) (se_var (i := 3) (by decide +kernel))) se_int) rfl) (sg_name (i := 2) (by decide +kernel) (by decide))
  (sss_cons (ss_set (i := 6) (by decide +kernel) (se_slice (se_var (i := 1) (by decide +kernel)) (sp_some (se_var (i := 2) (by decide +kernel))) (sp_some (se_bin ok_add (se_var (i := 2) (by decide +kernel)) (se_var (i := 3) (by decide +kernel))))) rfl)
  (sss_cons (ss_set (i := 7) (by decide +kernel) (se_frz (so_callB ok_sorted2 (by decide +kernel) E.fr_sorted rfl (sa_cons (se_frz (so_comp (own := [("case", 8), ("factor", 9)]) rfl (by decide +kernel) (si_seq (se_var (i := 6) (by decide +kernel))) (by decide +kernel) (sg_tup (sgs_cons (sg_name (i := 8) (by decide +kernel) (by decide)) (sgs_cons (sg_name (i := 9) (by decide +kernel) (by decide)) sgs_nil rfl) rfl) rfl rfl) sts_nil (se_var (i := 8) (by decide +kernel)) rfl)) sa_nil rfl) rfl)) rfl)
  (sss_one (ss_if (st_w (sw_and (st_cmp ok_ge (se_var (i := 2) (by decide +kernel)) (se_var (i := 5) (by decide +kernel)) rfl) (sw_and (st_cmp (ok_eq rfl) (se_var (i := 7) (by decide +kernel)) (se_frz (so_range2 rfl (by decide +kernel) E.fr_list (by decide +kernel) E.fr_range (se_neg se_int) (se_bin ok_sub (se_var (i := 3) (by decide +kernel)) se_int) rfl rfl)) rfl) (sw_and1 (st_cmp (ok_eq rfl) (se_frz (so_comp (own := [("case", 8), ("factor", 9)]) rfl (by decide +kernel) (si_seq (se_var (i := 6) (by decide +kernel))) (by decide +kernel) (sg_tup (sgs_cons (sg_name (i := 8) (by decide +kernel) (by decide)) (sgs_cons (sg_name (i := 9) (by decide +kernel) (by decide)) sgs_nil rfl) rfl) rfl rfl) (sts_one (st_cmp (ok_ne rfl) (se_var (i := 9) (by decide +kernel)) (se_ix (se_ix (se_var (i := 6) (by decide +kernel)) se_int rfl) se_int rfl) rfl)) se_int rfl)) (se_frz (so_lst sa_nil)) rfl)))))
  (sss_one (ss_parR (is := [4, 5]) (ns := ["found", "free"]) rfl (sao_s (se_bin ok_add (se_var (i := 4) (by decide +kernel)) (se_frz (so_lst (sa_cons (se_var (i := 2) (by decide +kernel)) sa_nil rfl)))) (sao_s (se_bin ok_add (se_var (i := 2) (by decide +kernel)) (se_var (i := 3) (by decide +kernel))) sao_nil rfl) rfl) (fun env h => by cases env; cases h; rfl) rfl (par_R (by decide +kernel)) (by decide)))
  sss_nil)))) rfl)
  (sss_one (ss_ret (se_var (i := 4) (by decide +kernel))))))
theorem t__law_rounds {g : Gr} (E : Env g) : FnS g "_law_rounds" 2 1 F__law_rounds :=
  (fnS_of E.fu__law_rounds sc__law_rounds (by decide) (w__law_rounds E) fun _ _ _ _ _ _ us hl => match us, hl with | [_, _], _ => rfl)
theorem sc__law_made : FnScope ["above", "below", "one", "other"] ["above", "below"] (defScope s__law_made) := ⟨rfl, rfl, rfl, by decide +kernel, rfl, by decide +kernel, by decide +kernel⟩
theorem w__law_made {g : Gr} (E : Env g) : SSs g (defG ["above", "below", "one", "other"] (defScope s__law_made) 0) (defBody s__law_made) b__law_made :=
  (sss_cons (ss_parR (is := [2, 3]) (ns := ["one", "other"]) rfl (sao_s (se_callB ok_abs (by decide +kernel) E.fr_abs rfl (sa_cons (se_var (i := 0) (by decide +kernel)) sa_nil rfl) rfl) (sao_s (se_callB ok_abs (by decide +kernel) E.fr_abs rfl (sa_cons (se_var (i := 1) (by decide +kernel)) sa_nil rfl) rfl) sao_nil rfl) rfl) (fun env h => by cases env; cases h; rfl) rfl (par_R (by decide +kernel)) (by decide))
  (sss_cons (ss_while rfl (st_cmp (ok_ne rfl) (se_var (i := 3) (by decide +kernel)) se_int rfl)
  (sss_one (ss_parR (is := [2, 3]) (ns := ["one", "other"]) rfl (sao_s (se_var (i := 3) (by decide +kernel)) (sao_s (se_bin ok_mod (se_callTy ok_int (by decide +kernel) E.fr_int rfl (sa_cons (se_var (i := 2) (by decide +kernel)) sa_nil rfl) rfl) (se_var (i := 3) (by decide +kernel))) sao_nil rfl) rfl) (fun env h => by cases env; cases h; rfl) rfl (par_R (by decide +kernel)) (by decide))))
  (sss_one (ss_ret (se_if (st_cmp ok_gt (se_var (i := 1) (by decide +kernel)) se_int rfl) (se_tup (sa_cons (se_bin ok_fdiv (se_var (i := 0) (by decide +kernel)) (se_var (i := 2) (by decide +kernel))) (sa_cons (se_bin ok_fdiv (se_var (i := 1) (by decide +kernel)) (se_var (i := 2) (by decide +kernel))) sa_nil rfl) rfl)) (se_tup (sa_cons (se_bin ok_fdiv (se_neg (se_var (i := 0) (by decide +kernel))) (se_var (i := 2) (by decide +kernel))) (sa_cons (se_bin ok_fdiv (se_neg (se_var (i := 1) (by decide +kernel))) (se_var (i := 2) (by decide +kernel))) sa_nil rfl) rfl)))))))
theorem t__law_made {g : Gr} (E : Env g) : FnS g "_law_made" 2 1 F__law_made :=
  (fnS_of E.fu__law_made sc__law_made (by decide) (w__law_made E) fun _ _ _ _ _ _ us hl => match us, hl with | [_, _], _ => rfl)
theorem sc__law_any_events : FnScope ["cup", "frame", "most", "found", "many", "factor", "some", "order", "k", "case"] ["cup", "frame", "most"] (defScope s__law_any_events) := ⟨rfl, rfl, rfl, by decide +kernel, rfl, by decide +kernel, by decide +kernel⟩
theorem w__law_any_events {g : Gr} (E : Env g) : SSs g (defG ["cup", "frame", "most", "found", "many", "factor", "some", "order", "k", "case"] (defScope s__law_any_events) 2) (defBody s__law_any_events) b__law_any_events :=
  (sss_cons (ss_parR (is := [3, 4]) (ns := ["found", "many"]) rfl (sao_s (se_frz (so_lst sa_nil)) (sao_s (se_callB ok_len (by decide +kernel) E.fr_len rfl (sa_cons (se_ix (se_var (i := 1) (by decide +kernel)) se_int rfl) sa_nil rfl) rfl) sao_nil rfl) rfl) (fun env h => by cases env; cases h; rfl) rfl (par_R (by decide +kernel)) (by decide))
  (sss_cons (ss_while rfl (st_cmp ok_lt (se_callB ok_len (by decide +kernel) E.fr_len rfl (sa_cons (se_var (i := 3) (by decide +kernel)) sa_nil rfl) rfl) (se_var (i := 2) (by decide +kernel)) rfl)
  (sss_cons (ss_set (i := 5) (by decide +kernel) (se_call (t__law_some E) (by decide +kernel) (by decide) rfl (sar_io (i := 0) (by decide +kernel) (sar_cons (se_frz (so_lst (sa_cons (se_tup (sa_cons se_int (sa_cons se_int sa_nil rfl) rfl)) (sa_cons (se_tup (sa_cons se_int (sa_cons se_int sa_nil rfl) rfl)) (sa_cons (se_tup (sa_cons se_int (sa_cons se_int sa_nil rfl) rfl)) (sa_cons (se_tup (sa_cons se_int (sa_cons se_int sa_nil rfl) rfl)) (sa_cons (se_call (t__law_made E) (by decide +kernel) (by decide) rfl (sar_cons (se_call (t__law_roll E) (by decide +kernel) (by decide) rfl (sar_io (i := 0) (by decide +kernel) (sar_cons se_int sar_nil rfl)) rfl rfl (la_io (la_cons la_nil))) (sar_cons (se_bin ok_add se_int (se_call (t__law_roll E) (by decide +kernel) (by decide) rfl (sar_io (i := 0) (by decide +kernel) (sar_cons se_int sar_nil rfl)) rfl rfl (la_io (la_cons la_nil)))) sar_nil rfl) rfl) rfl rfl (la_cons (la_cons la_nil))) sa_nil rfl) rfl) rfl) rfl) rfl))) sar_nil rfl)) rfl rfl (la_io (la_cons la_nil))) rfl)
  (sss_cons (ss_setO (i := 6) (by decide +kernel) (so_range2 rfl (by decide +kernel) E.fr_list (by decide +kernel) E.fr_range (se_neg se_int) (se_var (i := 4) (by decide +kernel)) rfl rfl) rfl)
  (sss_cons (ss_setComp (i := 7) (own := [("k", 8)]) rfl (by decide +kernel) (by decide +kernel) (fun env h => by cases env; cases h; rfl) (si_range1 (by decide +kernel) E.fr_range (se_bin ok_add (se_var (i := 4) (by decide +kernel)) se_int) rfl) (by decide +kernel) (sg_name (i := 8) (by decide +kernel) (by decide)) sts_nil (se_pop (i := 6) (by decide +kernel) (se_call (t__law_roll E) (by decide +kernel) (by decide) rfl (sar_io (i := 0) (by decide +kernel) (sar_cons (se_lenV (i := 6) (by decide +kernel) E.fr_len (by decide +kernel)) sar_nil rfl)) rfl rfl (la_io (la_cons la_nil))) rfl rfl) rfl)
  (sss_one (ss_set (i := 3) (by decide +kernel) (se_bin ok_add (se_var (i := 3) (by decide +kernel)) (se_frz (so_comp (own := [("case", 9)]) rfl (by decide +kernel) (si_seq (se_call (t__law_some E) (by decide +kernel) (by decide) rfl (sar_io (i := 0) (by decide +kernel) (sar_cons (se_frz (so_lst (sa_cons (se_var (i := 7) (by decide +kernel)) (sa_cons (se_var (i := 7) (by decide +kernel)) (sa_cons (se_slice (se_var (i := 7) (by decide +kernel)) sp_none (sp_some se_int)) (sa_cons (se_bin ok_add (se_var (i := 7) (by decide +kernel)) (se_slice (se_var (i := 7) (by decide +kernel)) sp_none (sp_some se_int))) sa_nil rfl) rfl) rfl) rfl))) sar_nil rfl)) rfl rfl (la_io (la_cons la_nil)))) (by decide +kernel) (sg_name (i := 9) (by decide +kernel) (by decide)) sts_nil (se_tup (sa_cons (se_var (i := 9) (by decide +kernel)) (sa_cons (se_var (i := 5) (by decide +kernel)) sa_nil rfl) rfl)) rfl))) rfl))))))
  (sss_one (ss_ret (se_callTy ok_tuple (by decide +kernel) E.fr_tuple rfl (sa_cons (se_slice (se_var (i := 3) (by decide +kernel)) sp_none (sp_some (se_var (i := 2) (by decide +kernel)))) sa_nil rfl) rfl)))))
theorem t__law_any_events {g : Gr} (E : Env g) : FnS g "_law_any_events" 3 3 F__law_any_events :=
  (fnS_of E.fu__law_any_events sc__law_any_events (by decide) (w__law_any_events E) fun _ _ _ _ _ _ us hl => match us, hl with | [_, _, _], _ => rfl)
theorem sc__law_star : FnScope ["cup", "places", "held", "sorts", "bars", "loads", "cases", "first", "many", "case", "place", "k", "at", "load"] ["cup"] (defScope s__law_star) := ⟨rfl, rfl, rfl, by decide +kernel, rfl, by decide +kernel, by decide +kernel⟩
theorem w__law_star {g : Gr} (E : Env g) : SSs g (defG ["cup", "places", "held", "sorts", "bars", "loads", "cases", "first", "many", "case", "place", "k", "at", "load"] (defScope s__law_star) 2) (defBody s__law_star) b__law_star :=
  (sss_cons (ss_set (i := 1) (by decide +kernel) (se_frz (so_lst (sa_cons (se_tup (sa_cons se_int (sa_cons se_int sa_nil rfl) rfl)) (sa_cons (se_tup (sa_cons se_int (sa_cons se_int sa_nil rfl) rfl)) (sa_cons (se_tup (sa_cons se_int (sa_cons se_int sa_nil rfl) rfl)) (sa_cons (se_tup (sa_cons se_int (sa_cons se_int sa_nil rfl) rfl)) (sa_cons (se_tup (sa_cons se_int (sa_cons se_int sa_nil rfl) rfl)) sa_nil rfl) rfl) rfl) rfl) rfl))) rfl)
  (sss_cons (ss_parL (is := [7, 8]) rfl (sao_s (se_call (t__law_roll E) (by decide +kernel) (by decide) rfl (sar_io (i := 0) (by decide +kernel) (sar_cons se_int sar_nil rfl)) rfl rfl (la_io (la_cons la_nil))) (sao_s (se_call (t__law_some E) (by decide +kernel) (by decide) rfl (sar_io (i := 0) (by decide +kernel) (sar_cons (se_frz (so_lst (sa_cons se_int (sa_cons se_int (sa_cons se_int (sa_cons se_int sa_nil rfl) rfl) rfl) rfl))) sar_nil rfl)) rfl rfl (la_io (la_cons la_nil))) sao_nil rfl) rfl) (fun env h => by cases env; cases h; rfl) rfl (par_L (by decide +kernel)) rfl (by decide))
  (sss_cons (ss_set (i := 2) (by decide +kernel) (se_callTy ok_tuple (by decide +kernel) E.fr_tuple rfl (sa_cons (se_frz (so_comp (own := [("place", 10)]) rfl (by decide +kernel) (si_seq (se_slice (se_var (i := 1) (by decide +kernel)) (sp_some (se_var (i := 7) (by decide +kernel))) (sp_some (se_bin ok_add (se_var (i := 7) (by decide +kernel)) (se_var (i := 8) (by decide +kernel)))))) (by decide +kernel) (sg_name (i := 10) (by decide +kernel) (by decide)) sts_nil (se_bin ok_add (se_var (i := 10) (by decide +kernel)) (se_tup (sa_cons se_str sa_nil rfl))) rfl)) sa_nil rfl) rfl) rfl)
  (sss_cons (ss_set (i := 3) (by decide +kernel) (se_callTy ok_tuple (by decide +kernel) E.fr_tuple rfl (sa_cons (se_frz (so_comp (own := [("k", 11)]) rfl (by decide +kernel) (si_range1 (by decide +kernel) E.fr_range (se_bin ok_add se_int (se_call (t__law_roll E) (by decide +kernel) (by decide) rfl (sar_io (i := 0) (by decide +kernel) (sar_cons se_int sar_nil rfl)) rfl rfl (la_io (la_cons la_nil)))) rfl) (by decide +kernel) (sg_name (i := 11) (by decide +kernel) (by decide)) sts_nil (se_tup (sa_cons (se_bin ok_add se_int (se_call (t__law_roll E) (by decide +kernel) (by decide) rfl (sar_io (i := 0) (by decide +kernel) (sar_cons se_int sar_nil rfl)) rfl rfl (la_io (la_cons la_nil)))) (sa_cons (se_bin ok_add se_int (se_call (t__law_roll E) (by decide +kernel) (by decide) rfl (sar_io (i := 0) (by decide +kernel) (sar_cons se_int sar_nil rfl)) rfl rfl (la_io (la_cons la_nil)))) (sa_cons (se_bin ok_add se_int (se_call (t__law_roll E) (by decide +kernel) (by decide) rfl (sar_io (i := 0) (by decide +kernel) (sar_cons se_int sar_nil rfl)) rfl rfl (la_io (la_cons la_nil)))) sa_nil rfl) rfl) rfl)) rfl)) sa_nil rfl) rfl) rfl)
  (sss_cons (ss_set (i := 4) (by decide +kernel) (se_callTy ok_tuple (by decide +kernel) E.fr_tuple rfl (sa_cons (se_frz (so_comp (own := [("at", 12)]) rfl (by decide +kernel) (si_range1 (by decide +kernel) E.fr_range (se_var (i := 8) (by decide +kernel)) rfl) (by decide +kernel) (sg_name (i := 12) (by decide +kernel) (by decide)) sts_nil (se_bin ok_add (se_step (se_tup (sa_cons (se_var (i := 12) (by decide +kernel)) (sa_cons (se_var (i := 8) (by decide +kernel)) sa_nil rfl) rfl)) (se_call (t__law_some E) (by decide +kernel) (by decide) rfl (sar_io (i := 0) (by decide +kernel) (sar_cons (se_frz (so_lst (sa_cons se_int (sa_cons (se_neg se_int) sa_nil rfl) rfl))) sar_nil rfl)) rfl rfl (la_io (la_cons la_nil)))) (se_tup (sa_cons (se_call (t__law_roll E) (by decide +kernel) (by decide) rfl (sar_io (i := 0) (by decide +kernel) (sar_cons (se_callB ok_len (by decide +kernel) E.fr_len rfl (sa_cons (se_var (i := 3) (by decide +kernel)) sa_nil rfl) rfl) sar_nil rfl)) rfl rfl (la_io (la_cons la_nil))) (sa_cons (se_call (t__law_some E) (by decide +kernel) (by decide) rfl (sar_io (i := 0) (by decide +kernel) (sar_cons (se_frz (so_lst (sa_cons se_int (sa_cons se_int (sa_cons se_int (sa_cons (se_neg se_int) (sa_cons se_int sa_nil rfl) rfl) rfl) rfl) rfl))) sar_nil rfl)) rfl rfl (la_io (la_cons la_nil))) sa_nil rfl) rfl))) rfl)) sa_nil rfl) rfl) rfl)
  (sss_cons (ss_setComp (i := 5) (own := [("case", 9)]) rfl (by decide +kernel) (by decide +kernel) (fun env h => by cases env; cases h; rfl) (si_range1 (by decide +kernel) E.fr_range (se_bin ok_add se_int (se_call (t__law_roll E) (by decide +kernel) (by decide) rfl (sar_io (i := 0) (by decide +kernel) (sar_cons se_int sar_nil rfl)) rfl rfl (la_io (la_cons la_nil)))) rfl) (by decide +kernel) (sg_name (i := 9) (by decide +kernel) (by decide)) sts_nil (se_tup (sa_cons (se_bin ok_sub (se_call (t__law_roll E) (by decide +kernel) (by decide) rfl (sar_io (i := 0) (by decide +kernel) (sar_cons se_int sar_nil rfl)) rfl rfl (la_io (la_cons la_nil))) se_int) (sa_cons (se_bin ok_sub (se_call (t__law_roll E) (by decide +kernel) (by decide) rfl (sar_io (i := 0) (by decide +kernel) (sar_cons se_int sar_nil rfl)) rfl rfl (la_io (la_cons la_nil))) se_int) sa_nil rfl) rfl)) rfl)
  (sss_cons (ss_set (i := 6) (by decide +kernel) (se_callTy ok_tuple (by decide +kernel) E.fr_tuple rfl (sa_cons (se_frz (so_comp (own := [("load", 13)]) rfl (by decide +kernel) (si_seq (se_var (i := 5) (by decide +kernel))) (by decide +kernel) (sg_name (i := 13) (by decide +kernel) (by decide)) sts_nil (se_bin ok_add (se_bin ok_mul (se_tup (sa_cons (se_tup (sa_cons se_int (sa_cons se_int sa_nil rfl) rfl)) sa_nil rfl)) (se_var (i := 8) (by decide +kernel))) (se_tup (sa_cons (se_if (st_cmp (ok_ne rfl) (se_var (i := 13) (by decide +kernel)) (se_tup (sa_cons se_int (sa_cons se_int sa_nil rfl) rfl)) rfl) (se_var (i := 13) (by decide +kernel)) (se_tup (sa_cons se_int (sa_cons (se_neg se_int) sa_nil rfl) rfl))) sa_nil rfl))) rfl)) sa_nil rfl) rfl) rfl)
  (sss_one (ss_ret (se_tup (sa_cons (se_var (i := 3) (by decide +kernel)) (sa_cons (se_bin ok_add (se_var (i := 2) (by decide +kernel)) (se_tup (sa_cons (se_tup (sa_cons se_int (sa_cons se_int (sa_cons se_str sa_nil rfl) rfl) rfl)) sa_nil rfl))) (sa_cons (se_var (i := 4) (by decide +kernel)) (sa_cons (se_var (i := 6) (by decide +kernel)) sa_nil rfl) rfl) rfl) rfl)))))))))))
theorem t__law_star {g : Gr} (E : Env g) : FnS g "_law_star" 1 3 F__law_star :=
  (fnS_of E.fu__law_star sc__law_star (by decide) (w__law_star E) fun _ _ _ _ _ _ us hl => match us, hl with | [_], _ => rfl)
theorem sc__law_cup : FnScope ["script", "cell"] ["script"] (defScope s__law_cup) := ⟨rfl, rfl, rfl, by decide +kernel, rfl, by decide +kernel, by decide +kernel⟩
theorem w__law_cup {g : Gr} (E : Env g) : SSs g (defG ["script", "cell"] (defScope s__law_cup) 0) (defBody s__law_cup) b__law_cup :=
  (sss_cons (ss_set (i := 1) (by decide +kernel) (se_callB ok_abs (by decide +kernel) E.fr_abs rfl (sa_cons (se_ix (se_bin ok_add (se_frz (so_callTy ok_list (by decide +kernel) E.fr_list rfl (sa_cons (se_var (i := 0) (by decide +kernel)) sa_nil rfl) rfl)) (se_frz (so_lst (sa_cons se_int sa_nil rfl)))) se_int rfl) sa_nil rfl) rfl) rfl)
  (sss_one (ss_retO (so_lst (sa_cons (se_if (st_cmp ok_ge (se_var (i := 1) (by decide +kernel)) (se_bin ok_pow se_int se_int) rfl) (se_bin ok_fdiv (se_var (i := 1) (by decide +kernel)) se_int) se_int) (sa_cons (se_bin ok_add (se_bin ok_mod (se_callTy ok_int (by decide +kernel) E.fr_int rfl (sa_cons (se_bin ok_add (se_bin ok_mul (se_var (i := 1) (by decide +kernel)) se_int) se_int) sa_nil rfl) rfl) se_int) se_int) sa_nil rfl) rfl)))))
theorem t__law_cup {g : Gr} (E : Env g) : FnS g "_law_cup" 1 1 F__law_cup :=
  (fnS_of E.fu__law_cup sc__law_cup (by decide) (w__law_cup E) fun _ _ _ _ _ _ us hl => match us, hl with | [_], _ => rfl)
theorem sc_law : FnScope ["script", "cup", "frame", "turn", "whole", "events", "case"] ["script"] (defScope s_law) := ⟨rfl, rfl, rfl, by decide +kernel, rfl, by decide +kernel, by decide +kernel⟩
theorem w_law {g : Gr} (E : Env g) : SSs g (defG ["script", "cup", "frame", "turn", "whole", "events", "case"] (defScope s_law) 6) (defBody s_law) b_law :=
  (sss_cons (ss_setO (i := 1) (by decide +kernel) (so_call (t__law_cup E) (by decide +kernel) (by decide) rfl (sar_cons (se_var (i := 0) (by decide +kernel)) sar_nil rfl) rfl rfl (la_cons la_nil)) rfl)
  (sss_cons (ss_set (i := 2) (by decide +kernel) (se_call (t__law_star E) (by decide +kernel) (by decide) rfl (sar_io (i := 1) (by decide +kernel) sar_nil) rfl rfl (la_io la_nil)) rfl)
  (sss_cons (ss_for (vs := [3]) rfl rfl (si_range1 (by decide +kernel) E.fr_range se_int rfl) (sg_name (i := 3) (by decide +kernel) (by decide))
  (sss_cons (ss_set (i := 5) (by decide +kernel) (se_call (t__law_any_events E) (by decide +kernel) (by decide) rfl (sar_io (i := 1) (by decide +kernel) (sar_cons (se_var (i := 2) (by decide +kernel)) (sar_cons (se_call (t__law_roll E) (by decide +kernel) (by decide) rfl (sar_io (i := 1) (by decide +kernel) (sar_cons se_int sar_nil rfl)) rfl rfl (la_io (la_cons la_nil))) sar_nil rfl) rfl)) rfl rfl (la_io (la_cons (la_cons la_nil)))) rfl)
  (sss_one (ss_if (st_cmp (ok_ne rfl) (se_callB (ok_repr rfl) (by decide +kernel) E.fr_repr rfl (sa_cons (se_call (t_rounds_in E) (by decide +kernel) (by decide) rfl (sar_cons (se_var (i := 2) (by decide +kernel)) (sar_cons (se_var (i := 5) (by decide +kernel)) sar_nil rfl) rfl) rfl rfl (la_cons (la_cons la_nil))) sa_nil rfl) rfl) (se_callB (ok_repr rfl) (by decide +kernel) E.fr_repr rfl (sa_cons (se_callTy ok_tuple (by decide +kernel) E.fr_tuple rfl (sa_cons (se_call (t__law_rounds E) (by decide +kernel) (by decide) rfl (sar_cons (se_var (i := 2) (by decide +kernel)) (sar_cons (se_var (i := 5) (by decide +kernel)) sar_nil rfl) rfl) rfl rfl (la_cons (la_cons la_nil))) sa_nil rfl) rfl) sa_nil rfl) rfl) rfl)
  (sss_one (ss_ret se_bl))
  sss_nil))) rfl)
  (sss_cons (ss_set (i := 4) (by decide +kernel) (se_callTy ok_tuple (by decide +kernel) E.fr_tuple rfl (sa_cons (se_frz (so_comp (own := [("case", 6)]) rfl (by decide +kernel) (si_range2 (by decide +kernel) E.fr_range (se_neg se_int) (se_callB ok_len (by decide +kernel) E.fr_len rfl (sa_cons (se_ix (se_var (i := 2) (by decide +kernel)) se_int rfl) sa_nil rfl) rfl) rfl rfl) (by decide +kernel) (sg_name (i := 6) (by decide +kernel) (by decide)) sts_nil (se_tup (sa_cons (se_var (i := 6) (by decide +kernel)) (sa_cons (se_tup (sa_cons se_int (sa_cons se_int sa_nil rfl) rfl)) sa_nil rfl) rfl)) rfl)) sa_nil rfl) rfl) rfl)
  (sss_cons (ss_if (st_w (sw_or (st_cmp (ok_ne rfl) (se_callB (ok_repr rfl) (by decide +kernel) E.fr_repr rfl (sa_cons (se_call (t_rounds_in E) (by decide +kernel) (by decide) rfl (sar_cons (se_var (i := 2) (by decide +kernel)) (sar_cons (se_bin ok_add (se_bin ok_mul (se_var (i := 4) (by decide +kernel)) se_int) (se_slice (se_var (i := 4) (by decide +kernel)) sp_none (sp_some se_int))) sar_nil rfl) rfl) rfl rfl (la_cons (la_cons la_nil))) sa_nil rfl) rfl) (se_callB (ok_repr rfl) (by decide +kernel) E.fr_repr rfl (sa_cons (se_tup (sa_cons se_int (sa_cons (se_callB ok_len (by decide +kernel) E.fr_len rfl (sa_cons (se_var (i := 4) (by decide +kernel)) sa_nil rfl) rfl) sa_nil rfl) rfl)) sa_nil rfl) rfl) rfl) (sw_or1 (st_cmp (ok_ne rfl) (se_call (t_rounds_in E) (by decide +kernel) (by decide) rfl (sar_cons (se_var (i := 2) (by decide +kernel)) (sar_cons (se_slice (se_var (i := 4) (by decide +kernel)) (sp_some se_int) sp_none) sar_nil rfl) rfl) rfl rfl (la_cons (la_cons la_nil))) (se_tup sa_nil) rfl))))
  (sss_one (ss_ret se_bl))
  sss_nil)
  (sss_one (ss_ret (se_call (t__law_refused E) (by decide +kernel) (by decide) rfl (sar_cons (se_var (i := 2) (by decide +kernel)) (sar_cons (se_call (t__law_some E) (by decide +kernel) (by decide) rfl (sar_io (i := 1) (by decide +kernel) (sar_cons (se_frz (so_lst (sa_cons se_non (sa_cons (se_frz (so_callTy ok_list (by decide +kernel) E.fr_list rfl (sa_cons (se_var (i := 4) (by decide +kernel)) sa_nil rfl) rfl)) (sa_cons (se_bin ok_mul (se_var (i := 4) (by decide +kernel)) se_int) (sa_cons (se_tup (sa_cons (se_tup (sa_cons se_int (sa_cons (se_tup (sa_cons se_int (sa_cons se_int sa_nil rfl) rfl)) sa_nil rfl) rfl)) sa_nil rfl)) (sa_cons (se_tup (sa_cons (se_tup (sa_cons se_bl (sa_cons (se_tup (sa_cons se_int (sa_cons se_int sa_nil rfl) rfl)) sa_nil rfl) rfl)) sa_nil rfl)) (sa_cons (se_tup (sa_cons (se_tup (sa_cons (se_neg se_int) (sa_cons (se_tup (sa_cons se_int (sa_cons se_int sa_nil rfl) rfl)) sa_nil rfl) rfl)) sa_nil rfl)) sa_nil rfl) rfl) rfl) rfl) rfl) rfl))) sar_nil rfl)) rfl rfl (la_io (la_cons la_nil))) sar_nil rfl) rfl) rfl rfl (la_cons (la_cons la_nil))))))))))
theorem t_law {g : Gr} (E : Env g) : FnS g "law" 1 7 F_law :=
  (fnS_of E.fu_law sc_law (by decide) (w_law E) fun _ _ _ _ _ _ us hl => match us, hl with | [_], _ => rfl)
end K53

set_option maxHeartbeats 0
namespace K53
open PySem PySem.Spec PyProof.Rows L2 G3
def d_all_cases : He.DefD := ⟨("all_cases", none), "all_cases", "all_cases", defArgs s_all_cases, defBody s_all_cases, defScope s_all_cases, [], []⟩
def d_is_round : He.DefD := ⟨("is_round", none), "is_round", "is_round", defArgs s_is_round, defBody s_is_round, defScope s_is_round, [], []⟩
def d_rounds_of : He.DefD := ⟨("rounds_of", none), "rounds_of", "rounds_of", defArgs s_rounds_of, defBody s_rounds_of, defScope s_rounds_of, [], []⟩
def d_is_whole : He.DefD := ⟨("is_whole", none), "is_whole", "is_whole", defArgs s_is_whole, defBody s_is_whole, defScope s_is_whole, [], []⟩
def d_common_divisor : He.DefD := ⟨("common_divisor", none), "common_divisor", "common_divisor", defArgs s_common_divisor, defBody s_common_divisor, defScope s_common_divisor, [], []⟩
def d_is_tuple_of : He.DefD := ⟨("is_tuple_of", none), "is_tuple_of", "is_tuple_of", defArgs s_is_tuple_of, defBody s_is_tuple_of, defScope s_is_tuple_of, [], []⟩
def d_is_integer : He.DefD := ⟨("is_integer", none), "is_integer", "is_integer", defArgs s_is_integer, defBody s_is_integer, defScope s_is_integer, [], []⟩
def d_fits_ratio : He.DefD := ⟨("fits_ratio", none), "fits_ratio", "fits_ratio", defArgs s_fits_ratio, defBody s_fits_ratio, defScope s_fits_ratio, [], []⟩
def d_fits_events : He.DefD := ⟨("fits_events", none), "fits_events", "fits_events", defArgs s_fits_events, defBody s_fits_events, defScope s_fits_events, [], []⟩
def d_need_events : He.DefD := ⟨("need_events", none), "need_events", "need_events", defArgs s_need_events, defBody s_need_events, defScope s_need_events, [], []⟩
def d_fits_load : He.DefD := ⟨("fits_load", none), "fits_load", "fits_load", defArgs s_fits_load, defBody s_fits_load, defScope s_fits_load, [], []⟩
def d_are_unlike : He.DefD := ⟨("are_unlike", none), "are_unlike", "are_unlike", defArgs s_are_unlike, defBody s_are_unlike, defScope s_are_unlike, [], []⟩
def d_fits_bar : He.DefD := ⟨("fits_bar", none), "fits_bar", "fits_bar", defArgs s_fits_bar, defBody s_fits_bar, defScope s_fits_bar, [], []⟩
def d_fits_sort : He.DefD := ⟨("fits_sort", none), "fits_sort", "fits_sort", defArgs s_fits_sort, defBody s_fits_sort, defScope s_fits_sort, [], []⟩
def d_fits_joint : He.DefD := ⟨("fits_joint", none), "fits_joint", "fits_joint", defArgs s_fits_joint, defBody s_fits_joint, defScope s_fits_joint, [], []⟩
def d_fits_frame : He.DefD := ⟨("fits_frame", none), "fits_frame", "fits_frame", defArgs s_fits_frame, defBody s_fits_frame, defScope s_fits_frame, [], []⟩
def d_need_frame : He.DefD := ⟨("need_frame", none), "need_frame", "need_frame", defArgs s_need_frame, defBody s_need_frame, defScope s_need_frame, [], []⟩
def d_rounds_in : He.DefD := ⟨("rounds_in", none), "rounds_in", "rounds_in", defArgs s_rounds_in, defBody s_rounds_in, defScope s_rounds_in, [], []⟩
def d__law_refused : He.DefD := ⟨("_law_refused", none), "_law_refused", "_law_refused", defArgs s__law_refused, defBody s__law_refused, defScope s__law_refused, [], []⟩
def d__law_roll : He.DefD := ⟨("_law_roll", none), "_law_roll", "_law_roll", defArgs s__law_roll, defBody s__law_roll, defScope s__law_roll, [], []⟩
def d__law_some : He.DefD := ⟨("_law_some", none), "_law_some", "_law_some", defArgs s__law_some, defBody s__law_some, defScope s__law_some, [], []⟩
def d__law_rounds : He.DefD := ⟨("_law_rounds", none), "_law_rounds", "_law_rounds", defArgs s__law_rounds, defBody s__law_rounds, defScope s__law_rounds, [], []⟩
def d__law_made : He.DefD := ⟨("_law_made", none), "_law_made", "_law_made", defArgs s__law_made, defBody s__law_made, defScope s__law_made, [], []⟩
def d__law_any_events : He.DefD := ⟨("_law_any_events", none), "_law_any_events", "_law_any_events", defArgs s__law_any_events, defBody s__law_any_events, defScope s__law_any_events, [], []⟩
def d__law_star : He.DefD := ⟨("_law_star", none), "_law_star", "_law_star", defArgs s__law_star, defBody s__law_star, defScope s__law_star, [], []⟩
def d__law_cup : He.DefD := ⟨("_law_cup", none), "_law_cup", "_law_cup", defArgs s__law_cup, defBody s__law_cup, defScope s__law_cup, [], []⟩
def d_law : He.DefD := ⟨("law", none), "law", "law", defArgs s_law, defBody s_law, defScope s_law, [], []⟩
def fn : List He.DefD := [d_all_cases, d_is_round, d_rounds_of, d_is_whole, d_common_divisor, d_is_tuple_of, d_is_integer, d_fits_ratio, d_fits_events, d_need_events, d_fits_load, d_are_unlike, d_fits_bar, d_fits_sort, d_fits_joint, d_fits_frame, d_need_frame, d_rounds_in, d__law_refused, d__law_roll, d__law_some, d__law_rounds, d__law_made, d__law_any_events, d__law_star, d__law_cup, d_law]
def fa : List He.Fa := [.glo "all_cases", .glo "is_round", .glo "rounds_of", .glo "is_whole", .glo "common_divisor", .glo "is_tuple_of", .glo "is_integer", .glo "fits_ratio", .glo "fits_events", .glo "need_events", .glo "fits_load", .glo "are_unlike", .glo "fits_bar", .glo "fits_sort", .glo "fits_joint", .glo "fits_frame", .glo "need_frame", .glo "rounds_in", .glo "_law_refused", .glo "_law_roll", .glo "_law_some", .glo "_law_rounds", .glo "_law_made", .glo "_law_any_events", .glo "_law_star", .glo "_law_cup", .glo "law", .free "abs", .free "all", .free "any", .free "bool", .free "int", .free "isinstance", .free "len", .free "list", .free "range", .free "repr", .free "set", .free "sorted", .free "str", .free "tuple", .int "BARS" 12, .int "CASES" 4, .int "EVENTS" 40, .glo "HELD", .int "JOINTS" 8, .int "LIMIT" 999, .int "LOAD" 99, .int "PLACE" 9, .int "SORTS" 6, .int "STIFF" 9, .glo "InvalidEvents", .exc "InvalidEvents", .glo "InvalidFrame", .exc "InvalidFrame", .glo "SpanError"]
def ex0 (K : PySem.W.Frag) : Bool := cstB K "HELD" ["", "x", "y", "xy"]
def ex1 (K : PySem.W.Frag) : Bool := catB K "InvalidEvents" lt_InvalidEvents
def ex2 (K : PySem.W.Frag) : Bool := isxB K "SpanError" li_SpanError
def ex (K : PySem.W.Frag) : Bool := (ex0 K && (ex1 K && ex2 K))
theorem env_of {g : Gr} {h : Heap} (X : g.K.In h) (N : h.Ns mainGlobals g.mg) (c : He.SaysD fa fn g.K) (t : ex g.K = true) : Env g := by
  unfold ex at t
  simp only [Bool.and_eq_true] at t
  obtain ⟨e0, e1, e2⟩ := t
  exact {
    fr_abs := He.free_ok X N (c.fact 27 (f := .free "abs") rfl),
    fr_all := He.free_ok X N (c.fact 28 (f := .free "all") rfl),
    fr_any := He.free_ok X N (c.fact 29 (f := .free "any") rfl),
    fr_bool := He.free_ok X N (c.fact 30 (f := .free "bool") rfl),
    fr_int := He.free_ok X N (c.fact 31 (f := .free "int") rfl),
    fr_isinstance := He.free_ok X N (c.fact 32 (f := .free "isinstance") rfl),
    fr_len := He.free_ok X N (c.fact 33 (f := .free "len") rfl),
    fr_list := He.free_ok X N (c.fact 34 (f := .free "list") rfl),
    fr_range := He.free_ok X N (c.fact 35 (f := .free "range") rfl),
    fr_repr := He.free_ok X N (c.fact 36 (f := .free "repr") rfl),
    fr_set := He.free_ok X N (c.fact 37 (f := .free "set") rfl),
    fr_sorted := He.free_ok X N (c.fact 38 (f := .free "sorted") rfl),
    fr_str := He.free_ok X N (c.fact 39 (f := .free "str") rfl),
    fr_tuple := He.free_ok X N (c.fact 40 (f := .free "tuple") rfl),
    c_BARS := cst_int X N (c.fact 41 (f := .int "BARS" 12) rfl),
    c_CASES := cst_int X N (c.fact 42 (f := .int "CASES" 4) rfl),
    c_EVENTS := cst_int X N (c.fact 43 (f := .int "EVENTS" 40) rfl),
    c_HELD := cst_strs (zs := ["", "x", "y", "xy"]) X N (c.fact 44 rfl) e0,
    c_JOINTS := cst_int X N (c.fact 45 (f := .int "JOINTS" 8) rfl),
    c_LIMIT := cst_int X N (c.fact 46 (f := .int "LIMIT" 999) rfl),
    c_LOAD := cst_int X N (c.fact 47 (f := .int "LOAD" 99) rfl),
    c_PLACE := cst_int X N (c.fact 48 (f := .int "PLACE" 9) rfl),
    c_SORTS := cst_int X N (c.fact 49 (f := .int "SORTS" 6) rfl),
    c_STIFF := cst_int X N (c.fact 50 (f := .int "STIFF" 9) rfl),
    x_InvalidEvents := excS_of X N (c.fact 51 rfl) (c.fact 52 rfl),
    x_InvalidFrame := excS_of X N (c.fact 53 rfl) (c.fact 54 rfl),
    ca_InvalidEvents := catches_of X N (c.fact 51 rfl) e1,
    ie_SpanError := isEx_of X N (c.fact 55 rfl) e2,
    fu_all_cases := fu_of X N (c.fact 0 rfl) (c.def_ 0 (d := d_all_cases) rfl),
    fu_is_round := fu_of X N (c.fact 1 rfl) (c.def_ 1 (d := d_is_round) rfl),
    fu_rounds_of := fu_of X N (c.fact 2 rfl) (c.def_ 2 (d := d_rounds_of) rfl),
    fu_is_whole := fu_of X N (c.fact 3 rfl) (c.def_ 3 (d := d_is_whole) rfl),
    fu_common_divisor := fu_of X N (c.fact 4 rfl) (c.def_ 4 (d := d_common_divisor) rfl),
    fu_is_tuple_of := fu_of X N (c.fact 5 rfl) (c.def_ 5 (d := d_is_tuple_of) rfl),
    fu_is_integer := fu_of X N (c.fact 6 rfl) (c.def_ 6 (d := d_is_integer) rfl),
    fu_fits_ratio := fu_of X N (c.fact 7 rfl) (c.def_ 7 (d := d_fits_ratio) rfl),
    fu_fits_events := fu_of X N (c.fact 8 rfl) (c.def_ 8 (d := d_fits_events) rfl),
    fu_need_events := fu_of X N (c.fact 9 rfl) (c.def_ 9 (d := d_need_events) rfl),
    fu_fits_load := fu_of X N (c.fact 10 rfl) (c.def_ 10 (d := d_fits_load) rfl),
    fu_are_unlike := fu_of X N (c.fact 11 rfl) (c.def_ 11 (d := d_are_unlike) rfl),
    fu_fits_bar := fu_of X N (c.fact 12 rfl) (c.def_ 12 (d := d_fits_bar) rfl),
    fu_fits_sort := fu_of X N (c.fact 13 rfl) (c.def_ 13 (d := d_fits_sort) rfl),
    fu_fits_joint := fu_of X N (c.fact 14 rfl) (c.def_ 14 (d := d_fits_joint) rfl),
    fu_fits_frame := fu_of X N (c.fact 15 rfl) (c.def_ 15 (d := d_fits_frame) rfl),
    fu_need_frame := fu_of X N (c.fact 16 rfl) (c.def_ 16 (d := d_need_frame) rfl),
    fu_rounds_in := fu_of X N (c.fact 17 rfl) (c.def_ 17 (d := d_rounds_in) rfl),
    fu__law_refused := fu_of X N (c.fact 18 rfl) (c.def_ 18 (d := d__law_refused) rfl),
    fu__law_roll := fu_of X N (c.fact 19 rfl) (c.def_ 19 (d := d__law_roll) rfl),
    fu__law_some := fu_of X N (c.fact 20 rfl) (c.def_ 20 (d := d__law_some) rfl),
    fu__law_rounds := fu_of X N (c.fact 21 rfl) (c.def_ 21 (d := d__law_rounds) rfl),
    fu__law_made := fu_of X N (c.fact 22 rfl) (c.def_ 22 (d := d__law_made) rfl),
    fu__law_any_events := fu_of X N (c.fact 23 rfl) (c.def_ 23 (d := d__law_any_events) rfl),
    fu__law_star := fu_of X N (c.fact 24 rfl) (c.def_ 24 (d := d__law_star) rfl),
    fu__law_cup := fu_of X N (c.fact 25 rfl) (c.def_ 25 (d := d__law_cup) rfl),
    fu_law := fu_of X N (c.fact 26 rfl) (c.def_ 26 (d := d_law) rfl) }
abbrev R : PySem.W.OpenRow := PySem.W.OpenLaw.row PySem.Challenge.rw_steadyspan_k53_rounds
abbrev hk : PySem.W.Hook := hookE 4 fa fn ex
def ob (s : PySem.W.SharedT) : hk.α := obE 4 fa fn ex s
def loose : List PySem.Str := [("SpanError" : PySem.Str), ("InvalidFrame" : PySem.Str), ("InvalidEvents" : PySem.Str), ("is_whole" : PySem.Str), ("is_integer" : PySem.Str), ("is_tuple_of" : PySem.Str), ("common_divisor" : PySem.Str), ("fits_ratio" : PySem.Str), ("SORTS" : PySem.Str), ("STIFF" : PySem.Str), ("LIMIT" : PySem.Str), ("JOINTS" : PySem.Str), ("PLACE" : PySem.Str), ("BARS" : PySem.Str), ("CASES" : PySem.Str), ("LOAD" : PySem.Str), ("HELD" : PySem.Str), ("fits_sort" : PySem.Str), ("fits_joint" : PySem.Str), ("fits_bar" : PySem.Str), ("fits_load" : PySem.Str), ("are_unlike" : PySem.Str), ("fits_frame" : PySem.Str), ("need_frame" : PySem.Str), ("EVENTS" : PySem.Str), ("fits_events" : PySem.Str), ("need_events" : PySem.Str), ("all_cases" : PySem.Str), ("is_round" : PySem.Str), ("rounds_of" : PySem.Str), ("rounds_in" : PySem.Str), ("_law_cup" : PySem.Str), ("_law_roll" : PySem.Str), ("_law_some" : PySem.Str), ("_law_made" : PySem.Str), ("_law_plus" : PySem.Str), ("_law_times" : PySem.Str), ("_law_less" : PySem.Str), ("_law_over" : PySem.Str), ("_law_sign" : PySem.Str), ("_law_dot" : PySem.Str), ("_law_span" : PySem.Str), ("_law_equations" : PySem.Str), ("_law_load" : PySem.Str), ("_law_energy" : PySem.Str), ("_law_reduced" : PySem.Str), ("_law_solved" : PySem.Str), ("_law_forces" : PySem.Str), ("_law_star" : PySem.Str), ("_law_any_events" : PySem.Str), ("_law_rounds" : PySem.Str), ("_law_refused" : PySem.Str)]
theorem run (w : World) : HandSHeadRun.RunEq R (PySem.W.view R.prog [58]) hk ob 2000 loose w := by
  intro os
  kernel_rfl
end K53
open PySem PySem.W PySem.Calls PyProof.Rows
theorem K53_holds (hF : ∀ ns : List Int, ns.length ≤ 63 → K53.F_law [.sh (.scr ns)] = some (.sh (.bl true) [.un])) : PySem.Challenge.rw_steadyspan_k53_rounds.Holds := by
  w_on; o_law
  refine HandSHeadRun.head_any (r := OpenLaw.row PySem.Challenge.rw_steadyspan_k53_rounds) (q := view (OpenLaw.row PySem.Challenge.rw_steadyspan_k53_rounds).prog [58]) (H := K53.hk) (ob := K53.ob) (M := 2000) (loose := K53.loose) (d := HandSHeadRun.topDef (OpenLaw.row PySem.Challenge.rw_steadyspan_k53_rounds).prog 58) (kwd := []) (fun s => G3.obE_eq s)
    (by kernel_rfl) (fun s => by kernel_rfl) K53.run (by kernel_rfl) (by kernel_rfl) (by kernel_rfl) (by rfl) (by first | assumption | decide +kernel) (by decide +kernel) ⟨rfl, rfl, rfl, rfl, rfl, by decide +kernel⟩ ?hw ?hc
  case hw => w_witness2
  case hc =>
    refine G3.walk_ofG (l := PySem.Challenge.rw_steadyspan_k53_rounds) (n := 63) (k := 7) (x := "script") (ZW := fun w => L2.CX (PySem.Challenge.rw_steadyspan_k53_rounds).prog w) rfl (by decide) (by kernel_rfl) ⟨rfl, by decide, by decide⟩ ?F (fun w H s e s' z => G3.no_exc w H s e s' z)
    intro w mg fa h Y N hmg0
    obtain ⟨K, KX, c, t⟩ := Y
    have hmg : mg ("law" : PySem.Str) = some (.ref fa) := by
      have e : (HandSHeadRun.topDef (OpenLaw.row PySem.Challenge.rw_steadyspan_k53_rounds).prog 58).name = ("law" : PySem.Str) := by kernel_rfl
      rw [← e]
      exact hmg0
    obtain ⟨fd, FD⟩ := c.def_ 26 (d := K53.d_law) rfl
    have e2 := hmg.symm.trans (He.glo_ok KX N (c.fact 26 (f := .glo "law") rfl))
    cases e2
    refine ⟨K, fd, G3.spF K mg 1 K53.F_law, KX, fun s u => (FD.bindsA (ps := ["script"]) fun _ _ _ _ _ _ us hl => match us, hl with | [_], _ => rfl) s [u] rfl, fun H a ns hl _ hS => G3.law_sp hS (hF ns hl), fun base _ _ => ?_⟩
    exact G3.fn_ok (x := "law") (qual := "law") (st := K53.s_law) (fd := fd) (g := G3.grd (PySem.Challenge.rw_steadyspan_k53_rounds).prog w K mg base) (G3.fun_of (K := K) (x := "law") (st := K53.s_law) FD) K53.sc_law (by decide) (K53.w_law (K53.env_of (g := G3.grd (PySem.Challenge.rw_steadyspan_k53_rounds).prog w K mg base) KX N c t))

theorem PySem.Challenge.cw_steadyspan_k53_rounds_holds : PySem.Challenge.rw_steadyspan_k53_rounds.Holds := by
  exact K53_holds K53.law_F
