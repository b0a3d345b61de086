import PyProof.Rows.All
import Wide.All
import OpenK.AllK
import Wide.FinOn
import HandS.ForMost
import HandS.Style
import HandS.TupAny
import HandS.Conv
import HandS.IsInst
import HandS.More
import HandS.TupMul
import HandS.Defaults
import HandS.Zip
import HandS.Dict
import HandS.TupLen
import PySem.Challenge.RW_countout_k11_whole_how_many_orders
set_option Elab.async false
set_option linter.all false
set_option maxRecDepth 100000
set_option maxHeartbeats 2000000
/-! DL: what a def computes, told over plain data: D is the data, S the slots (data that stays, an own list), F the part of the heap that stays. -/
namespace DL
open PySem L2

inductive D where
  | non | bl (b : Bool) | int (i : Int) | str (x : Str) | lst (ds : List D) | tup (ds : List D) | scr (ns : List Int) | dic (kvs : List (Int × Int))

inductive Sl where
  | no | im (d : D) | ow (ds : List D) | od (ks : List (List Int))
abbrev Sg := List Sl

/-- an own dict: tuples of ints to True -/
def dicT (ks : List (List Int)) : List (List Key × V) := ks.map fun k => (k.map Sum.inl, V.bl true)
def dicV (kvs : List (Int × Int)) : List (Key × V) := kvs.map fun p => (Sum.inl p.1, V.int p.2)
mutual
inductive Dd (K : PySem.W.Frag) (F : Hp) : V → D → Prop
  | non : Dd K F .non .non
  | bl (b : Bool) : Dd K F (.bl b) (.bl b)
  | int (i : Int) : Dd K F (.int i) (.int i)
  | str (x : Str) : Dd K F (.str x) (.str x)
  | lst {a : Addr} {xs : List V} {ds : List D} : F a = some (.lst xs) → DdAll K F xs ds → Dd K F (.ref a) (.lst ds)
  | tup {a : Addr} {xs : List V} {ds : List D} : F a = some (.tup xs) → DdAll K F xs ds → Dd K F (.ref a) (.tup ds)
  | scr {a : Addr} {ns : List Int} : SqL K F a (ns.map V.int) → Dd K F (.ref a) (.scr ns)
  | dic {a : Addr} {kvs : List (Int × Int)} : F a = some (.dK (dicV kvs)) → Dd K F (.ref a) (.dic kvs)
inductive DdAll (K : PySem.W.Frag) (F : Hp) : List V → List D → Prop
  | nil : DdAll K F [] []
  | cons {v : V} {vs : List V} {d : D} {ds : List D} : Dd K F v d → DdAll K F vs ds → DdAll K F (v :: vs) (d :: ds)
end

mutual
theorem Dd.mono {K : PySem.W.Frag} {F F' : Hp} (e : Same F F') : ∀ {v : V} {d : D}, Dd K F v d → Dd K F' v d
  | _, _, .non => .non
  | _, _, .bl b => .bl b
  | _, _, .int i => .int i
  | _, _, .str x => .str x
  | _, _, .lst h a => .lst (e _ _ h) (DdAll.mono e a)
  | _, _, .tup h a => .tup (e _ _ h) (DdAll.mono e a)
  | _, _, .scr h => .scr (e.seq h)
  | _, _, .dic h => .dic (e _ _ h)
theorem DdAll.mono {K : PySem.W.Frag} {F F' : Hp} (e : Same F F') : ∀ {vs : List V} {ds : List D}, DdAll K F vs ds → DdAll K F' vs ds
  | _, _, .nil => .nil
  | _, _, .cons h t => .cons (Dd.mono e h) (DdAll.mono e t)
end
section
variable {K : PySem.W.Frag} {F H F' H' F'' H'' : Hp}
theorem DdAll.len : ∀ {vs : List V} {ds : List D}, DdAll K F vs ds → vs.length = ds.length
  | _, _, .nil => rfl
  | _, _, .cons _ t => by rw [List.length_cons, List.length_cons, DdAll.len t]
theorem DdAll.get : ∀ {vs : List V} {ds : List D} {i : Nat} {d : D}, DdAll K F vs ds → ds[i]? = some d → ∃ v, vs[i]? = some v ∧ Dd K F v d
  | _, _, _, _, .nil, e => by simp at e
  | _, _, 0, _, .cons h _, e => by simp at e; subst e; exact ⟨_, rfl, h⟩
  | _, _, i + 1, d, .cons _ t, e => by
    obtain ⟨v, h1, h2⟩ := DdAll.get (i := i) (d := d) t (by simpa using e)
    exact ⟨v, by simpa using h1, h2⟩
theorem DdAll.get' : ∀ {vs : List V} {ds : List D} {i : Nat} {v : V}, DdAll K F vs ds → vs[i]? = some v → ∃ d, ds[i]? = some d ∧ Dd K F v d
  | _, _, _, _, .nil, e => by simp at e
  | _, _, 0, _, .cons h _, e => by simp at e; subst e; exact ⟨_, rfl, h⟩
  | _, _, i + 1, d, .cons _ t, e => by
    obtain ⟨v, h1, h2⟩ := DdAll.get' (i := i) (v := d) t (by simpa using e)
    exact ⟨v, by simpa using h1, h2⟩
theorem DdAll.app : ∀ {vs ws : List V} {ds es : List D}, DdAll K F vs ds → DdAll K F ws es → DdAll K F (vs ++ ws) (ds ++ es)
  | _, _, _, _, .nil, h => h
  | _, _, _, _, .cons a t, h => .cons a (DdAll.app t h)
theorem DdAll.take : ∀ {vs : List V} {ds : List D} (n : Nat), DdAll K F vs ds → DdAll K F (vs.take n) (ds.take n)
  | _, _, 0, _ => .nil
  | _, _, _ + 1, .nil => .nil
  | _, _, n + 1, .cons a t => .cons a (DdAll.take n t)
theorem DdAll.drop : ∀ {vs : List V} {ds : List D} (n : Nat), DdAll K F vs ds → DdAll K F (vs.drop n) (ds.drop n)
  | _, _, 0, h => h
  | _, _, _ + 1, .nil => .nil
  | _, _, n + 1, .cons a t => DdAll.drop n t
theorem DdAll.set {v : V} {d : D} (h : Dd K F v d) : ∀ {vs : List V} {ds : List D} (i : Nat), DdAll K F vs ds → DdAll K F (vs.set i v) (ds.set i d)
  | _, _, _, .nil => .nil
  | _, _, 0, .cons _ t => .cons h t
  | _, _, i + 1, .cons a t => .cons a (DdAll.set h i t)
theorem DdAll.erase : ∀ {vs : List V} {ds : List D} (i : Nat), DdAll K F vs ds → DdAll K F (vs.eraseIdx i) (ds.eraseIdx i)
  | _, _, _, .nil => .nil
  | _, _, 0, .cons _ t => t
  | _, _, i + 1, .cons a t => .cons a (DdAll.erase i t)
theorem DdAll.one {v : V} {d : D} (h : Dd K F v d) : DdAll K F [v] [d] := .cons h .nil
theorem DdAll.ints : ∀ {vs : List V} {ns : List Int}, DdAll K F vs (ns.map D.int) → vs = ns.map V.int
  | vs, [], h => by cases h; rfl
  | vs, n :: ns, h => by
    cases h with
    | cons a t =>
      cases a
      rw [DdAll.ints t]
      rfl
theorem DdAll.of_ints : ∀ {ns : List Int}, DdAll K F (ns.map V.int) (ns.map D.int)
  | [] => .nil
  | n :: ns => .cons (.int n) DdAll.of_ints
theorem DdAll.bls : ∀ {vs : List V} {ns : List Bool}, DdAll K F vs (ns.map D.bl) → vs = ns.map V.bl
  | vs, [], h => by cases h; rfl
  | vs, n :: ns, h => by
    cases h with
    | cons a t =>
      cases a
      rw [DdAll.bls t]
      rfl

/-- the heap goes on from (F, H) to (F', H'): all that was tracked is as it was, what newly stays is new -/
structure Tr (F H F' H' : Hp) : Prop where
  ff : Same F F'
  hh : Same H H'
  fh : Same F' H'
  nw : ∀ a o, F' a = some o → F a = some o ∨ H a = none
theorem Tr.refl (e : Same F H) : Tr F H F H := ⟨Same.refl F, Same.refl H, e, fun _ _ h => .inl h⟩
theorem Tr.trans (a : Tr F H F' H') (b : Tr F' H' F'' H'') : Tr F H F'' H'' :=
  ⟨a.ff.trans b.ff, a.hh.trans b.hh, b.fh, fun x o h => (b.nw x o h).elim (fun h => a.nw x o h) fun h => .inr (a.hh.free h)⟩
/-- a new object that stays -/
theorem Tr.new (e : Same F H) {p : Addr} {o : HO} (hp : H p = none) : Tr F H (upd F p o) (upd H p o) := by
  refine ⟨fun b u h => ?_, fun b u h => ?_, fun b u h => ?_, fun b u h => ?_⟩
  · rw [upd_ne (ne_of_none (e b u h) hp)]; exact h
  · rw [upd_ne (ne_of_none h hp)]; exact h
  · by_cases hb : b = p
    · subst hb; rw [upd_same] at h ⊢; exact h
    · rw [upd_ne hb] at h ⊢; exact e b u h
  · by_cases hb : b = p
    · subst hb; exact .inr hp
    · rw [upd_ne hb] at h; exact .inl h
/-- a new own object -/
theorem Tr.own (e : Same F H) {p : Addr} {o : HO} (hp : H p = none) : Tr F H F (upd H p o) :=
  ⟨Same.refl F, fun b u h => by rw [upd_ne (ne_of_none h hp)]; exact h, fun b u h => by rw [upd_ne (ne_of_none (e b u h) hp)]; exact e b u h, fun _ _ h => .inl h⟩
theorem Tr.out (t : Tr F H F' H') {p : Addr} {o : HO} (h : H p = some o) (f : F p = none) : F' p = none := by
  cases q : F' p with
  | none => rfl
  | some u =>
    rcases t.nw p u q with z | z
    · rw [f] at z; cases z
    · rw [h] at z; cases z
/-- what is new and own may be let stay -/
theorem Tr.freeze (e : Same F H) (t : Tr F H F' H') {p : Addr} {o : HO} (hp : H p = none) (hp' : H' p = some o) : Tr F H (upd F' p o) H' := by
  refine ⟨fun b u h => ?_, t.hh, fun b u h => ?_, fun b u h => ?_⟩
  · rw [upd_ne (ne_of_none (e b u h) hp)]; exact t.ff b u h
  · by_cases hb : b = p
    · subst hb; rw [upd_same] at h; rw [← h]; exact hp'
    · rw [upd_ne hb] at h; exact t.fh b u h
  · by_cases hb : b = p
    · subst hb; exact .inr hp
    · rw [upd_ne hb] at h; exact t.nw b u h
end

/-! ### the slots -/
structure Wf (K : PySem.W.Frag) (F H : Hp) (σ : St) (S : Sg) : Prop where
  fh : Same F H
  len : σ.length = S.length
  im : ∀ {i : Nat} {d : D}, S[i]? = some (.im d) → ∃ v, σ[i]? = some (some v) ∧ Dd K F v d
  ow : ∀ {i : Nat} {ds : List D}, S[i]? = some (.ow ds) → ∃ l xs, σ[i]? = some (some (.ref l)) ∧ F l = none ∧ H l = some (.lst xs) ∧ DdAll K F xs ds
  sep : ∀ {i j : Nat} {ds es : List D} {l : Addr}, S[i]? = some (.ow ds) → S[j]? = some (.ow es) → σ[i]? = some (some (.ref l)) → σ[j]? = some (some (.ref l)) → i = j
  od : ∀ {i : Nat} {ks : List (List Int)}, S[i]? = some (.od ks) → ∃ l, σ[i]? = some (some (.ref l)) ∧ F l = none ∧ H l = some (.dT (dicT ks))
  sed : ∀ {i j : Nat} {ks js : List (List Int)} {l : Addr}, S[i]? = some (.od ks) → S[j]? = some (.od js) → σ[i]? = some (some (.ref l)) → σ[j]? = some (some (.ref l)) → i = j
/-- .. from what stood when the def was entered -/
structure Wb (K : PySem.W.Frag) (F0 H0 F H : Hp) (σ : St) (S : Sg) : Prop where
  wf : Wf K F H σ S
  tr : Tr F0 H0 F H
  own : ∀ {i : Nat} {ds : List D} {l : Addr}, S[i]? = some (.ow ds) → σ[i]? = some (some (.ref l)) → H0 l = none
  ond : ∀ {i : Nat} {ks : List (List Int)} {l : Addr}, S[i]? = some (.od ks) → σ[i]? = some (some (.ref l)) → H0 l = none

/-- what is seen of a value: data that stays, or an own list -/
def VW (K : PySem.W.Frag) (F H : Hp) (v : V) (d : D) : Prop :=
  Dd K F v d ∨ ∃ l xs ds, v = .ref l ∧ d = .lst ds ∧ F l = none ∧ H l = some (.lst xs) ∧ DdAll K F xs ds
/-- what is made: data that stays, or a new list -/
def VR (K : PySem.W.Frag) (H F' H' : Hp) (v : V) : Sl → Prop
  | .no => False
  | .im d => Dd K F' v d
  | .ow ds => ∃ p xs, v = .ref p ∧ H p = none ∧ F' p = none ∧ H' p = some (.lst xs) ∧ DdAll K F' xs ds
  | .od _ => False

section
variable {K : PySem.W.Frag} {F0 H0 F H F' H' F'' H'' : Hp} {σ : St} {S : Sg} {v : V} {d : D} {ds : List D} {i : Nat}
theorem VW.mono (t : Tr F H F' H') (h : VW K F H v d) : VW K F' H' v d := by
  rcases h with h | ⟨l, xs, ds, rfl, rfl, h1, h2, h3⟩
  · exact .inl (h.mono t.ff)
  · exact .inr ⟨l, xs, ds, rfl, rfl, t.out h2 h1, t.hh _ _ h2, h3.mono t.ff⟩
theorem VW.int {i : Int} (h : VW K F H v (.int i)) : v = .int i := by
  rcases h with h | ⟨l, xs, ds, _, e, _⟩
  · cases h; rfl
  · cases e
theorem VW.bl {i : Bool} (h : VW K F H v (.bl i)) : v = .bl i := by
  rcases h with h | ⟨l, xs, ds, _, e, _⟩
  · cases h; rfl
  · cases e
theorem VW.str {i : Str} (h : VW K F H v (.str i)) : v = .str i := by
  rcases h with h | ⟨l, xs, ds, _, e, _⟩
  · cases h; rfl
  · cases e
theorem VW.lst (e : Same F H) (h : VW K F H v (.lst ds)) : ∃ p xs, v = .ref p ∧ H p = some (.lst xs) ∧ DdAll K F xs ds := by
  rcases h with h | ⟨l, xs, ds, rfl, e', _, h2, h3⟩
  · cases h with
    | lst h1 h2 => exact ⟨_, _, rfl, e _ _ h1, h2⟩
  · cases e'; exact ⟨l, xs, rfl, h2, h3⟩
theorem VW.tup (e : Same F H) (h : VW K F H v (.tup ds)) : ∃ p xs, v = .ref p ∧ H p = some (.tup xs) ∧ DdAll K F xs ds := by
  rcases h with h | ⟨l, xs, ds, rfl, e', _, h2, h3⟩
  · cases h with
    | tup h1 h2 => exact ⟨_, _, rfl, e _ _ h1, h2⟩
  · cases e'
theorem VW.scr (e : Same F H) {ns : List Int} (h : VW K F H v (.scr ns)) : ∃ p, v = .ref p ∧ SqL K H p (ns.map V.int) := by
  rcases h with h | ⟨l, xs, ds, rfl, e', _, h2, h3⟩
  · cases h with
    | scr h1 => exact ⟨_, rfl, e.seq h1⟩
  · cases e'
theorem Wf.step (w : Wf K F H σ S) (t : Tr F H F' H') : Wf K F' H' σ S where
  fh := t.fh
  len := w.len
  im := fun h => let ⟨v, a, b⟩ := w.im h; ⟨v, a, b.mono t.ff⟩
  ow := fun h => let ⟨l, xs, a, b, c, d⟩ := w.ow h; ⟨l, xs, a, t.out c b, t.hh _ _ c, d.mono t.ff⟩
  sep := w.sep
  od := fun h => let ⟨l, a, b, c⟩ := w.od h; ⟨l, a, t.out c b, t.hh _ _ c⟩
  sed := w.sed
theorem Wb.step (w : Wb K F0 H0 F H σ S) (t : Tr F H F' H') : Wb K F0 H0 F' H' σ S := ⟨w.wf.step t, w.tr.trans t, w.own, w.ond⟩
theorem set_get {α : Type} {l : List α} {i j : Nat} {a b : α} (h : (l.set i a)[j]? = some b) : (i = j ∧ a = b) ∨ (i ≠ j ∧ l[j]? = some b) := by
  by_cases e : i = j
  · subst e
    rw [List.getElem?_set_self' ] at h
    cases q : l[i]? with
    | none => rw [q] at h; cases h
    | some u => rw [q] at h; cases h; exact .inl ⟨rfl, rfl⟩
  · rw [List.getElem?_set_ne e] at h; exact .inr ⟨e, h⟩
theorem Wf.set_im (w : Wf K F H σ S) (hi : i < S.length) (h : Dd K F v d) : Wf K F H (σ.set i (some v)) (S.set i (.im d)) where
  fh := w.fh
  len := by rw [List.length_set, List.length_set]; exact w.len
  im := fun {j e} q => by
    rcases set_get q with ⟨rfl, z⟩ | ⟨n, z⟩
    · cases z; exact ⟨v, List.getElem?_set_self (by rw [w.len]; exact hi), h⟩
    · rw [List.getElem?_set_ne n]; exact w.im z
  ow := fun {j e} q => by
    rcases set_get q with ⟨rfl, z⟩ | ⟨n, z⟩
    · cases z
    · rw [List.getElem?_set_ne n]; exact w.ow z
  sep := fun {j k ds es l} a b c d => by
    rcases set_get a with ⟨rfl, z⟩ | ⟨n, z⟩
    · cases z
    · rcases set_get b with ⟨rfl, z'⟩ | ⟨n', z'⟩
      · cases z'
      · rw [List.getElem?_set_ne n] at c; rw [List.getElem?_set_ne n'] at d; exact w.sep z z' c d
  od := fun {j e} q => by
    rcases set_get q with ⟨rfl, z⟩ | ⟨n, z⟩
    · cases z
    · rw [List.getElem?_set_ne n]; exact w.od z
  sed := fun {j k ds es l} a b c d => by
    rcases set_get a with ⟨rfl, z⟩ | ⟨n, z⟩
    · cases z
    · rcases set_get b with ⟨rfl, z'⟩ | ⟨n', z'⟩
      · cases z'
      · rw [List.getElem?_set_ne n] at c; rw [List.getElem?_set_ne n'] at d; exact w.sed z z' c d
theorem Wb.set_im (w : Wb K F0 H0 F H σ S) (hi : i < S.length) (h : Dd K F v d) : Wb K F0 H0 F H (σ.set i (some v)) (S.set i (.im d)) :=
  ⟨w.wf.set_im hi h, w.tr, fun {j e l} a b => by
    rcases set_get a with ⟨rfl, z⟩ | ⟨n, z⟩
    · cases z
    · rw [List.getElem?_set_ne n] at b; exact w.own z b, fun {j e l} a b => by
    rcases set_get a with ⟨rfl, z⟩ | ⟨n, z⟩
    · cases z
    · rw [List.getElem?_set_ne n] at b; exact w.ond z b⟩
theorem Wf.set_ow {p : Addr} {xs : List V} (w : Wf K F H σ S) (hi : i < S.length) (hf : F p = none) (hh : H p = some (.lst xs)) (h : DdAll K F xs ds)
    (hn : ∀ {j : Nat} {es : List D} {l : Addr}, S[j]? = some (.ow es) → σ[j]? = some (some (.ref l)) → l ≠ p) : Wf K F H (σ.set i (some (.ref p))) (S.set i (.ow ds)) where
  fh := w.fh
  len := by rw [List.length_set, List.length_set]; exact w.len
  im := fun {j e} q => by
    rcases set_get q with ⟨rfl, z⟩ | ⟨n, z⟩
    · cases z
    · rw [List.getElem?_set_ne n]; exact w.im z
  ow := fun {j e} q => by
    rcases set_get q with ⟨rfl, z⟩ | ⟨n, z⟩
    · cases z; exact ⟨p, xs, List.getElem?_set_self (by rw [w.len]; exact hi), hf, hh, h⟩
    · rw [List.getElem?_set_ne n]; exact w.ow z
  sep := fun {j k ds es l} a b c d => by
    rcases set_get a with ⟨rfl, z⟩ | ⟨n, z⟩
    · rcases set_get b with ⟨rfl, z'⟩ | ⟨n', z'⟩
      · rfl
      · rw [List.getElem?_set_self (by rw [w.len]; exact hi)] at c; cases c
        rw [List.getElem?_set_ne n'] at d
        exact absurd rfl (hn z' d)
    · rcases set_get b with ⟨rfl, z'⟩ | ⟨n', z'⟩
      · rw [List.getElem?_set_self (by rw [w.len]; exact hi)] at d; cases d
        rw [List.getElem?_set_ne n] at c
        exact absurd rfl (hn z c)
      · rw [List.getElem?_set_ne n] at c; rw [List.getElem?_set_ne n'] at d; exact w.sep z z' c d
  od := fun {j e} q => by
    rcases set_get q with ⟨rfl, z⟩ | ⟨n, z⟩
    · cases z
    · rw [List.getElem?_set_ne n]; exact w.od z
  sed := fun {j k ds es l} a b c d => by
    rcases set_get a with ⟨rfl, z⟩ | ⟨n, z⟩
    · cases z
    · rcases set_get b with ⟨rfl, z'⟩ | ⟨n', z'⟩
      · cases z'
      · rw [List.getElem?_set_ne n] at c; rw [List.getElem?_set_ne n'] at d; exact w.sed z z' c d
theorem Wb.set_ow {p : Addr} {xs : List V} (w : Wb K F0 H0 F H σ S) (hi : i < S.length) (h0 : H0 p = none) (hf : F p = none) (hh : H p = some (.lst xs)) (h : DdAll K F xs ds)
    (hn : ∀ {j : Nat} {es : List D} {l : Addr}, S[j]? = some (.ow es) → σ[j]? = some (some (.ref l)) → l ≠ p) : Wb K F0 H0 F H (σ.set i (some (.ref p))) (S.set i (.ow ds)) :=
  ⟨w.wf.set_ow hi hf hh h hn, w.tr, fun {j e l} a b => by
    rcases set_get a with ⟨rfl, z⟩ | ⟨n, z⟩
    · rw [List.getElem?_set_self (by rw [w.wf.len]; exact hi)] at b; cases b; exact h0
    · rw [List.getElem?_set_ne n] at b; exact w.own z b, fun {j e l} a b => by
    rcases set_get a with ⟨rfl, z⟩ | ⟨n, z⟩
    · cases z
    · rw [List.getElem?_set_ne n] at b; exact w.ond z b⟩
theorem lt_of_get {α : Type} {l : List α} {i : Nat} {a : α} (h : l[i]? = some a) : i < l.length := (List.getElem?_eq_some_iff.mp h).1
/-- the own list in slot i is changed -/
theorem Wb.put {l : Addr} {ys : List V} {es : List D} (w : Wb K F0 H0 F H σ S) (hs : S[i]? = some (.ow ds)) (hl : σ[i]? = some (some (.ref l))) (h : DdAll K F ys es) : Wb K F0 H0 F (upd H l (.lst ys)) σ (S.set i (.ow es)) := by
  obtain ⟨l', xs, e1, f1, h1, _⟩ := w.wf.ow hs
  rw [hl] at e1; cases e1
  have h0 := w.own hs hl
  have sf : Same F (upd H l (.lst ys)) := fun b u q => by
    have n : b ≠ l := fun z => by rw [z, f1] at q; cases q
    rw [upd_ne n]; exact w.wf.fh b u q
  refine ⟨⟨sf, by rw [List.length_set]; exact w.wf.len, fun {j e} q => ?_, fun {j e} q => ?_, fun {j k a b m} p q r s => ?_, fun {j e} q => ?_, fun {j k a b m} p q r s => ?_⟩, ⟨w.tr.ff, fun b u q => ?_, sf, w.tr.nw⟩, fun {j e m} p q => ?_, fun {j e m} p q => ?_⟩
  · rcases set_get q with ⟨rfl, z⟩ | ⟨n, z⟩
    · cases z
    · exact w.wf.im z
  · rcases set_get q with ⟨rfl, z⟩ | ⟨n, z⟩
    · cases z; exact ⟨l, ys, hl, f1, upd_same, h⟩
    · obtain ⟨m, zs, a, b, c, d⟩ := w.wf.ow z
      have ne : m ≠ l := fun y => by subst y; exact n (w.wf.sep hs z hl a)
      exact ⟨m, zs, a, b, by rw [upd_ne ne]; exact c, d⟩
  · have hp : ∃ x, S[j]? = some (.ow x) := by
      rcases set_get p with ⟨rfl, _⟩ | ⟨_, z⟩
      · exact ⟨_, hs⟩
      · exact ⟨_, z⟩
    have hq : ∃ x, S[k]? = some (.ow x) := by
      rcases set_get q with ⟨rfl, _⟩ | ⟨_, z⟩
      · exact ⟨_, hs⟩
      · exact ⟨_, z⟩
    obtain ⟨x, hp⟩ := hp
    obtain ⟨y, hq⟩ := hq
    exact w.wf.sep hp hq r s
  · rcases set_get q with ⟨rfl, z⟩ | ⟨n, z⟩
    · cases z
    · obtain ⟨m, a, b, c⟩ := w.wf.od z
      have ne : m ≠ l := fun y => by subst y; rw [h1] at c; cases c
      exact ⟨m, a, b, by rw [upd_ne ne]; exact c⟩
  · rcases set_get p with ⟨rfl, z⟩ | ⟨_, z⟩
    · cases z
    · rcases set_get q with ⟨rfl, z'⟩ | ⟨_, z'⟩
      · cases z'
      · exact w.wf.sed z z' r s
  · have n : b ≠ l := fun z => by rw [z, h0] at q; cases q
    rw [upd_ne n]; exact w.tr.hh b u q
  · rcases set_get p with ⟨rfl, _⟩ | ⟨_, z⟩
    · exact w.own hs q
    · exact w.own z q
  · rcases set_get p with ⟨rfl, z⟩ | ⟨_, z⟩
    · cases z
    · exact w.ond z q
/-- the own list in slot i stays from now on -/
theorem Wb.freeze (w : Wb K F0 H0 F H σ S) (hs : S[i]? = some (.ow ds)) : ∃ F', Wb K F0 H0 F' H σ (S.set i (.im (.lst ds))) := by
  obtain ⟨l, xs, e1, f1, h1, d1⟩ := w.wf.ow hs
  have h0 := w.own hs e1
  have ff : Same F (upd F l (.lst xs)) := fun b u q => by
    have n : b ≠ l := fun z => by rw [z, f1] at q; cases q
    rw [upd_ne n]; exact q
  have fh : Same (upd F l (.lst xs)) H := fun b u q => by
    by_cases hb : b = l
    · subst hb; rw [upd_same] at q; rw [← q]; exact h1
    · rw [upd_ne hb] at q; exact w.wf.fh b u q
  refine ⟨upd F l (.lst xs), ⟨fh, by rw [List.length_set]; exact w.wf.len, fun {j e} q => ?_, fun {j e} q => ?_, fun {j k a b m} p q r s => ?_, fun {j e} q => ?_, fun {j k a b m} p q r s => ?_⟩, ⟨w.tr.ff.trans ff, w.tr.hh, fh, fun b u q => ?_⟩, fun {j e m} p q => ?_, fun {j e m} p q => ?_⟩
  · rcases set_get q with ⟨rfl, z⟩ | ⟨n, z⟩
    · cases z; exact ⟨_, e1, .lst upd_same (d1.mono ff)⟩
    · obtain ⟨v, a, b⟩ := w.wf.im z; exact ⟨v, a, b.mono ff⟩
  · rcases set_get q with ⟨rfl, z⟩ | ⟨n, z⟩
    · cases z
    · obtain ⟨m, zs, a, b, c, d⟩ := w.wf.ow z
      have ne : m ≠ l := fun y => by subst y; exact n (w.wf.sep hs z e1 a)
      exact ⟨m, zs, a, by rw [upd_ne ne]; exact b, c, d.mono ff⟩
  · rcases set_get p with ⟨rfl, z⟩ | ⟨_, z⟩
    · cases z
    · rcases set_get q with ⟨rfl, z'⟩ | ⟨_, z'⟩
      · cases z'
      · exact w.wf.sep z z' r s
  · rcases set_get q with ⟨rfl, z⟩ | ⟨n, z⟩
    · cases z
    · obtain ⟨m, a, b, c⟩ := w.wf.od z
      have ne : m ≠ l := fun y => by subst y; rw [h1] at c; cases c
      exact ⟨m, a, by rw [upd_ne ne]; exact b, c⟩
  · rcases set_get p with ⟨rfl, z⟩ | ⟨_, z⟩
    · cases z
    · rcases set_get q with ⟨rfl, z'⟩ | ⟨_, z'⟩
      · cases z'
      · exact w.wf.sed z z' r s
  · by_cases hb : b = l
    · subst hb; exact .inr h0
    · rw [upd_ne hb] at q; exact w.tr.nw b u q
  · rcases set_get p with ⟨rfl, z⟩ | ⟨_, z⟩
    · cases z
    · exact w.own z q
  · rcases set_get p with ⟨rfl, z⟩ | ⟨_, z⟩
    · cases z
    · exact w.ond z q
/-- a slot is forgotten -/
theorem Wb.drop (w : Wb K F0 H0 F H σ S) (i : Nat) : Wb K F0 H0 F H σ (S.set i .no) := by
  refine ⟨⟨w.wf.fh, by rw [List.length_set]; exact w.wf.len, fun {j e} q => ?_, fun {j e} q => ?_, fun {j k a b m} p q r s => ?_, fun {j e} q => ?_, fun {j k a b m} p q r s => ?_⟩, w.tr, fun {j e m} p q => ?_, fun {j e m} p q => ?_⟩
  · rcases set_get q with ⟨rfl, z⟩ | ⟨n, z⟩
    · cases z
    · exact w.wf.im z
  · rcases set_get q with ⟨rfl, z⟩ | ⟨n, z⟩
    · cases z
    · exact w.wf.ow z
  · rcases set_get p with ⟨rfl, z⟩ | ⟨_, z⟩
    · cases z
    · rcases set_get q with ⟨rfl, z'⟩ | ⟨_, z'⟩
      · cases z'
      · exact w.wf.sep z z' r s
  · rcases set_get q with ⟨rfl, z⟩ | ⟨n, z⟩
    · cases z
    · exact w.wf.od z
  · rcases set_get p with ⟨rfl, z⟩ | ⟨_, z⟩
    · cases z
    · rcases set_get q with ⟨rfl, z'⟩ | ⟨_, z'⟩
      · cases z'
      · exact w.wf.sed z z' r s
  · rcases set_get p with ⟨rfl, z⟩ | ⟨_, z⟩
    · cases z
    · exact w.own z q
  · rcases set_get p with ⟨rfl, z⟩ | ⟨_, z⟩
    · cases z
    · exact w.ond z q
end

/-! ### what an expression is -/
section
variable (X : Cx)
/-- it makes r -/
def XE (e : Expr) (S : Sg) (r : Sl) : Prop := ∀ (pins : List (Addr × Obj)) (s : Shared) (σ : St) (H F : Hp), Inv X pins σ H s → Wf X.K F H σ S →
  wpAny (model X.prog X.w) X.A (eval e X.env) (EP X pins σ fun v H' => ∃ F', Tr F H F' H' ∧ VR X.K H F' H' v r) X.xe s
/-- it is seen as d -/
def XW (e : Expr) (S : Sg) (d : D) : Prop := ∀ (pins : List (Addr × Obj)) (s : Shared) (σ : St) (H F : Hp), Inv X pins σ H s → Wf X.K F H σ S →
  wpAny (model X.prog X.w) X.A (eval e X.env) (EP X pins σ fun v H' => ∃ F', Tr F H F' H' ∧ VW X.K F' H' v d) X.xe s
def XT (e : Expr) (S : Sg) (b : Bool) : Prop := ∀ (pins : List (Addr × Obj)) (s : Shared) (σ : St) (H F : Hp), Inv X pins σ H s → Wf X.K F H σ S →
  wpAny (model X.prog X.w) X.A (isTrue e X.env (eval e X.env)) (TP X pins σ fun c H' => ∃ F', Tr F H F' H' ∧ c = b) X.xe s
def XV (e : Expr) (S : Sg) (b : Bool) : Prop := ∀ (whole : Sem Value) (pins : List (Addr × Obj)) (s : Shared) (σ : St) (H F : Hp), Inv X pins σ H s → Wf X.K F H σ S →
  wpAny (model X.prog X.w) X.A (isTrue e X.env whole) (TP X pins σ fun c H' => ∃ F', Tr F H F' H' ∧ c = b) X.xe s
def XA (es : List Expr) (S : Sg) (ds : List D) : Prop := ∀ (pos : Pos) (pins : List (Addr × Obj)) (s : Shared) (σ : St) (H F : Hp), Inv X pins σ H s → Wf X.K F H σ S →
  wpAny (model X.prog X.w) X.A (spliced (backTo pos (starEach es X.env))) (AP X pins σ fun vs H' => ∃ F', Tr F H F' H' ∧ DdAll X.K F' vs ds) X.xe s
abbrev XI (e : Expr) (S : Sg) (d : D) : Prop := XE X e S (.im d)
def XPt (e : Option Expr) (S : Sg) (o : Option Int) : Prop := ∃ t, PO X e t ∧ ∀ σ H F, Wf X.K F H σ S → t σ H fun o' H' => ∃ F', Tr F H F' H' ∧ o' = o

/-- the reading that an expression has by what is shown of it -/
def tE (e : Expr) : TE := fun σ H Q => ∃ S r F, XE X e S r ∧ Wf X.K F H σ S ∧ ∀ v F' H', Tr F H F' H' → VR X.K H F' H' v r → Q v H'
def tW (e : Expr) : TE := fun σ H Q => ∃ S d F, XW X e S d ∧ Wf X.K F H σ S ∧ ∀ v F' H', Tr F H F' H' → VW X.K F' H' v d → Q v H'
def tT (e : Expr) : TT := fun σ H Q => ∃ S b F, XT X e S b ∧ Wf X.K F H σ S ∧ ∀ F' H', Tr F H F' H' → Q b H'
def tV (e : Expr) : TT := fun σ H Q => ∃ S b F, XV X e S b ∧ Wf X.K F H σ S ∧ ∀ F' H', Tr F H F' H' → Q b H'
def tA (es : List Expr) : TA := fun σ H Q => ∃ S ds F, XA X es S ds ∧ Wf X.K F H σ S ∧ ∀ vs F' H', Tr F H F' H' → DdAll X.K F' vs ds → Q vs H'
end
section
variable {X : Cx}
theorem pe_tE {e : Expr} : PE X e (tE X e) := ⟨fun pins s σ H Q I ⟨S, r, F, h, w, k⟩ => thn (h pins s σ H F I w) fun u s' ⟨v, H', I', q, F', t, z⟩ => ⟨v, H', I', q, k v F' H' t z⟩⟩
theorem pe_tW {e : Expr} : PE X e (tW X e) := ⟨fun pins s σ H Q I ⟨S, r, F, h, w, k⟩ => thn (h pins s σ H F I w) fun u s' ⟨v, H', I', q, F', t, z⟩ => ⟨v, H', I', q, k v F' H' t z⟩⟩
theorem pt_tT {e : Expr} : PT X e (tT X e) := ⟨fun pins s σ H Q I ⟨S, r, F, h, w, k⟩ => thn (h pins s σ H F I w) fun u s' ⟨H', I', F', t, z⟩ => ⟨H', I', by subst z; exact k F' H' t⟩⟩
theorem pw_tV {e : Expr} : PW X e (tV X e) := ⟨fun whole pins s σ H Q I ⟨S, r, F, h, w, k⟩ => thn (h whole pins s σ H F I w) fun u s' ⟨H', I', F', t, z⟩ => ⟨H', I', by subst z; exact k F' H' t⟩⟩
theorem pa_tA {es : List Expr} : PA X es (tA X es) := ⟨fun pos pins s σ H Q I ⟨S, r, F, h, w, k⟩ => thn (h pos pins s σ H F I w) fun u s' ⟨vs, H', I', q, F', t, z⟩ => ⟨vs, H', I', q, k vs F' H' t z⟩⟩
variable {e a b : Expr} {S : Sg} {r : Sl} {d x y : D} {ta tb te : TE}
theorem xe_of (p : PE X e te) (h : ∀ σ H F, Wf X.K F H σ S → te σ H fun v H' => ∃ F', Tr F H F' H' ∧ VR X.K H F' H' v r) : XE X e S r := fun pins s σ H F I w => p.run pins s σ H _ I (h σ H F w)
theorem xw_of (p : PE X e te) (h : ∀ σ H F, Wf X.K F H σ S → te σ H fun v H' => ∃ F', Tr F H F' H' ∧ VW X.K F' H' v d) : XW X e S d := fun pins s σ H F I w => p.run pins s σ H _ I (h σ H F w)
theorem xt_of {t : TT} {c : Bool} (p : PT X e t) (h : ∀ σ H F, Wf X.K F H σ S → t σ H fun v H' => ∃ F', Tr F H F' H' ∧ v = c) : XT X e S c := fun pins s σ H F I w => p.run pins s σ H _ I (h σ H F w)
theorem xv_of {t : TT} {c : Bool} (p : PW X e t) (h : ∀ σ H F, Wf X.K F H σ S → t σ H fun v H' => ∃ F', Tr F H F' H' ∧ v = c) : XV X e S c := fun whole pins s σ H F I w => p.run whole pins s σ H _ I (h σ H F w)
theorem xa_of {es : List Expr} {t : TA} {ds : List D} (p : PA X es t) (h : ∀ σ H F, Wf X.K F H σ S → t σ H fun vs H' => ∃ F', Tr F H F' H' ∧ DdAll X.K F' vs ds) : XA X es S ds := fun pos pins s σ H F I w => p.run pos pins s σ H _ I (h σ H F w)
/-- to use one inside a reading -/
theorem tE_go {σ : St} {H F : Hp} {Q : VK} (h : XE X e S r) (w : Wf X.K F H σ S) (k : ∀ v F' H', Tr F H F' H' → VR X.K H F' H' v r → Q v H') : tE X e σ H Q := ⟨S, r, F, h, w, k⟩
theorem tW_go {σ : St} {H F : Hp} {Q : VK} (h : XW X e S d) (w : Wf X.K F H σ S) (k : ∀ v F' H', Tr F H F' H' → VW X.K F' H' v d → Q v H') : tW X e σ H Q := ⟨S, d, F, h, w, k⟩
theorem tT_go {σ : St} {H F : Hp} {c : Bool} {Q : Bool → Hp → Prop} (h : XT X e S c) (w : Wf X.K F H σ S) (k : ∀ F' H', Tr F H F' H' → Q c H') : tT X e σ H Q := ⟨S, c, F, h, w, k⟩
theorem tV_go {σ : St} {H F : Hp} {c : Bool} {Q : Bool → Hp → Prop} (h : XV X e S c) (w : Wf X.K F H σ S) (k : ∀ F' H', Tr F H F' H' → Q c H') : tV X e σ H Q := ⟨S, c, F, h, w, k⟩
theorem tA_go {es : List Expr} {ds : List D} {σ : St} {H F : Hp} {Q : List V → Hp → Prop} (h : XA X es S ds) (w : Wf X.K F H σ S) (k : ∀ vs F' H', Tr F H F' H' → DdAll X.K F' vs ds → Q vs H') : tA X es σ H Q := ⟨S, ds, F, h, w, k⟩
/-- a new list may stay -/
theorem XE.fix {ds : List D} (h : XE X e S (.ow ds)) : XI X e S (.lst ds) := xe_of pe_tE fun σ H F w => tE_go h w fun v F' H' t ⟨p, xs, e1, e2, e3, e4, e5⟩ => by
  subst e1
  have z : Same F' (upd F' p (.lst xs)) := fun b u q => by
    have n : b ≠ p := fun y => by rw [y, e3] at q; cases q
    rw [upd_ne n]; exact q
  exact ⟨upd F' p (.lst xs), t.freeze w.fh e2 e4, .lst upd_same (e5.mono z)⟩
theorem XE.see (h : XI X e S d) : XW X e S d := xw_of pe_tE fun σ H F w => tE_go h w fun v F' H' t z => ⟨F', t, .inl z⟩
theorem XE.seeN {ds : List D} (h : XE X e S (.ow ds)) : XW X e S (.lst ds) := h.fix.see
/-! names, constants -/
theorem xi_var (i : Nat) {x : Str} {pos : Pos} (hs : S[i]? = some (.im d)) (hN : X.N[i]? = some x) (hv : Vis X.env.scope x) (hd : (x == ("__debug__" : Str)) = false := by decide) (hcd : (x == ("__classdict__" : Str)) = false := by decide) : XI X (.Name x pos) S d :=
  xe_of (pe_var hN hv hd hcd) fun σ H F w => let ⟨v, h1, h2⟩ := w.im hs; ⟨v, h1, F, .refl w.fh, h2⟩
theorem xw_own (i : Nat) {x : Str} {pos : Pos} {ds : List D} (hs : S[i]? = some (.ow ds)) (hN : X.N[i]? = some x) (hv : Vis X.env.scope x) (hd : (x == ("__debug__" : Str)) = false := by decide) (hcd : (x == ("__classdict__" : Str)) = false := by decide) : XW X (.Name x pos) S (.lst ds) :=
  xw_of (pe_var hN hv hd hcd) fun σ H F w => let ⟨l, xs, h1, h2, h3, h4⟩ := w.ow hs; ⟨.ref l, h1, F, .refl w.fh, .inr ⟨l, xs, ds, rfl, rfl, h2, h3, h4⟩⟩
theorem xi_int {i j pos} : XI X (.Constant (.int i) j pos) S (.int i) := xe_of pe_int fun σ H F w => ⟨F, .refl w.fh, .int i⟩
theorem xi_bl {i j pos} : XI X (.Constant (.bool i) j pos) S (.bl i) := xe_of pe_bl fun σ H F w => ⟨F, .refl w.fh, .bl i⟩
theorem xi_str {i j pos} : XI X (.Constant (.str i) j pos) S (.str i) := xe_of pe_str fun σ H F w => ⟨F, .refl w.fh, .str i⟩
theorem xi_non {j pos} : XI X (.Constant .none j pos) S .non := xe_of pe_non fun σ H F w => ⟨F, .refl w.fh, .non⟩
theorem xi_glob {x : Str} {i : Int} {u : Tok} {pos : Pos} (hg : Gl X x) (hm : X.mg x = some (.int i u)) (hd : (x == ("__debug__" : Str)) = false := by decide) : XI X (.Name x pos) S (.int i) :=
  xe_of (pe_glob hg hm (v := .int i) ⟨_, rfl⟩ hd) fun σ H F w => ⟨F, .refl w.fh, .int i⟩
theorem XE.eq (h : XE X e S r) {r' : Sl} (q : r = r') : XE X e S r' := q ▸ h
theorem XW.eq (h : XW X e S d) {d' : D} (q : d = d') : XW X e S d' := q ▸ h
end
end DL

set_option Elab.async false
set_option linter.all false
set_option maxRecDepth 100000
set_option maxHeartbeats 2000000
/-! DLb: operators, comparisons, tests, subscripts, slices, displays, calls of built-ins. -/
namespace DL
open PySem L2
theorem szle {n : Nat} (h : n ≤ 16777216) : n ≤ sizeLine := by rw [sizeLine_eq]; exact h
theorem szlt {n : Nat} (h : n < 16777216) : n < sizeLine := by rw [sizeLine_eq]; exact h

/-! as the model's data -/
mutual
def D.py : D → PyData
  | .non => .none
  | .bl b => .bool b
  | .int i => .int i
  | .str x => .str x
  | .lst ds => .list (D.pys ds)
  | .tup ds => .tuple (D.pys ds)
  | .scr _ => .dict []
  | .dic _ => .dict []
def D.pys : List D → List PyData
  | [] => []
  | d :: ds => d.py :: D.pys ds
end
mutual
/-- texts short, and no script in it -/
def D.okE : D → Bool
  | .non => true
  | .bl b => true
  | .int i => true
  | .str x => PyData.canLay0 (.str x)
  | .lst ds => D.okEs ds
  | .tup ds => D.okEs ds
  | .scr _ => false
  | .dic _ => false
def D.okEs : List D → Bool
  | [] => true
  | d :: ds => d.okE && D.okEs ds
end
mutual
theorem Dd.dp {K : PySem.W.Frag} {F H : Hp} (e : Same F H) : ∀ {v : V} {d : D}, Dd K F v d → d.okE = true → Dp K H v d.py
  | _, _, .non, _ => .non
  | _, _, .bl b, _ => .bl b
  | _, _, .int i, _ => .int i
  | _, _, .str x, _ => .str x
  | _, _, .lst h a, o => .lst (SqL.of (e _ _ h)) (DdAll.dp e a o)
  | _, _, .tup h a, o => .tup (SqT.of (e _ _ h)) (DdAll.dp e a o)
  | _, .scr _, .scr h, o => by cases o
  | _, .dic _, .dic h, o => by cases o
theorem DdAll.dp {K : PySem.W.Frag} {F H : Hp} (e : Same F H) : ∀ {vs : List V} {ds : List D}, DdAll K F vs ds → D.okEs ds = true → DpAll K H vs (D.pys ds)
  | _, _, .nil, _ => .nil
  | _, _, .cons h t, o => by
    have o' := (Bool.and_eq_true_iff.mp o)
    exact .cons (Dd.dp e h o'.1) (DdAll.dp e t o'.2)
end
mutual
theorem D.can : ∀ d : D, d.okE = true → d.py.canLay0 = true
  | .non, _ => by simp only [D.py, PyData.canLay0]
  | .bl b, _ => by simp only [D.py, PyData.canLay0]
  | .int i, _ => by simp only [D.py, PyData.canLay0]
  | .str x, h => h
  | .lst ds, h => by
    simp only [D.py, PyData.canLay0]
    exact D.cans ds h
  | .tup ds, h => by
    simp only [D.py, PyData.canLay0]
    exact D.cans ds h
  | .scr _, h => by cases h
  | .dic _, h => by cases h
theorem D.cans : ∀ ds : List D, D.okEs ds = true → PyData.canLayAll0 (D.pys ds) = true
  | [], _ => by simp only [D.pys, PyData.canLayAll0]
  | d :: ds, h => by
    have o' := (Bool.and_eq_true_iff.mp h)
    simp only [D.pys, PyData.canLayAll0, D.can d o'.1, D.cans ds o'.2, Bool.and_self]
end
def D.okQ (d : D) : Prop := d.okE = true ∧ d.py.depth ≤ 64
def D.eqv (x y : D) : Bool := PyData.eqv x.py y.py
theorem D.shaped {d : D} (h : d.okQ) : SeqAt.shaped d.py = true := by
  unfold SeqAt.shaped
  rw [D.can d h.1, decide_eq_true h.2]
  rfl
theorem VW.dp {K : PySem.W.Frag} {F H : Hp} (e : Same F H) {v : V} {d : D} (h : VW K F H v d) (o : d.okE = true) : Dp K H v d.py := by
  rcases h with h | ⟨l, xs, ds, rfl, rfl, h1, h2, h3⟩
  · exact h.dp e o
  · exact .lst (SqL.of h2) (h3.dp e o)

section
variable {X : Cx} {S : Sg} {e a b c : Expr} {x y z : D} {r : Sl} {pos : Pos}
/-! ### two-place operators -/
def BinD (X : Cx) (op : Operator) (x y : D) (r : Sl) : Prop := ∃ r2 : R2, OpR X (binaryOp op) r2 ∧ ∀ (F H : Hp) (v u : V), Same F H → VW X.K F H v x → VW X.K F H u y →
  ∀ Q : VK, (∀ z F' H', Tr F H F' H' → VR X.K H F' H' z r → Q z H') → r2 v u H Q
theorem VR.back {K : PySem.W.Frag} {F H F1 H1 F' H' : Hp} {v : V} {r : Sl} (t : Tr F H F1 H1) (h : VR K H1 F' H' v r) : VR K H F' H' v r := by
  cases r with
  | no => exact h
  | im d => exact h
  | od ks => exact h
  | ow ds =>
    obtain ⟨p, xs, e, n, h⟩ := h
    exact ⟨p, xs, e, t.hh.free n, h⟩
theorem xe_bin {op : Operator} (h : BinD X op x y r) (ha : XW X a S x) (hb : XW X b S y) : XE X (.BinOp a op b pos) S r := by
  obtain ⟨r2, ho, hr⟩ := h
  refine xe_of (pe_op ho pe_tW pe_tW) fun σ H F w => tW_go ha w fun v F1 H1 t1 z1 => tW_go hb (w.step t1) fun u F2 H2 t2 z2 => ?_
  exact hr F2 H2 v u t2.fh (z1.mono t2) z2 _ fun z F' H' t q => ⟨F', (t1.trans t2).trans t, q.back (t1.trans t2)⟩
theorem bin_add {i j : Int} : BinD X .Add (.int i) (.int j) (.im (.int (i + j))) := ⟨_, op_add, fun F H v u e hv hu Q k => ⟨i, j, hv.int, hu.int, k _ F H (.refl e) (.int _)⟩⟩
theorem bin_sub {i j : Int} : BinD X .Sub (.int i) (.int j) (.im (.int (i - j))) := ⟨_, op_sub, fun F H v u e hv hu Q k => ⟨i, j, hv.int, hu.int, k _ F H (.refl e) (.int _)⟩⟩
theorem bin_mul {i j : Int} (h : CMul i j) : BinD X .Mult (.int i) (.int j) (.im (.int (i * j))) := ⟨_, op_mul, fun F H v u e hv hu Q k => ⟨i, j, hv.int, hu.int, h, k _ F H (.refl e) (.int _)⟩⟩
theorem bin_mod {i j : Int} (h : 0 < j) : BinD X .Mod (.int i) (.int j) (.im (.int (i % j))) := ⟨_, op_mod, fun F H v u e hv hu Q k => ⟨i, j, hv.int, hu.int, h, k _ F H (.refl e) (.int _)⟩⟩
theorem bin_div {i j : Int} (h : CDiv i j) : BinD X .FloorDiv (.int i) (.int j) (.im (.int (i / j))) := ⟨_, op_fdiv, fun F H v u e hv hu Q k => ⟨i, j, hv.int, hu.int, h, k _ F H (.refl e) (.int _)⟩⟩
theorem bin_pow {i j : Int} (h : CPow i j) : BinD X .Pow (.int i) (.int j) (.im (.int (i ^ j.toNat))) := ⟨_, op_pow, fun F H v u e hv hu Q k => ⟨i, j, hv.int, hu.int, h, k _ F H (.refl e) (.int _)⟩⟩
theorem bin_shl {i j : Int} (h : CPow i j) : BinD X .LShift (.int i) (.int j) (.im (.int (i * 2 ^ j.toNat))) := ⟨_, op_shl, fun F H v u e hv hu Q k => ⟨i, j, hv.int, hu.int, h, k _ F H (.refl e) (.int _)⟩⟩
theorem bin_cat {ds es : List D} (h : ds.length + es.length ≤ 16777216) : BinD X .Add (.lst ds) (.lst es) (.ow (ds ++ es)) := ⟨_, op_cat, fun F H v u e hv hu Q k => by
  obtain ⟨p, xs, rfl, h1, h2⟩ := hv.lst e
  obtain ⟨q, ys, rfl, h3, h4⟩ := hu.lst e
  refine ⟨p, q, xs, ys, rfl, rfl, h1, h3, szle (by rw [h2.len, h4.len]; exact h), fun l hl => ?_⟩
  exact k _ F _ (.own e hl) ⟨l, _, rfl, hl, e.free hl, upd_same, h2.app h4⟩⟩
theorem bin_rep {ds : List D} {k : Int} (h0 : -(2 ^ 63) ≤ k) (h1 : k < 2 ^ 63) (h : ds.length * k.toNat ≤ 16777216) : BinD X .Mult (.lst ds) (.int k) (.ow (List.replicate k.toNat ds).flatten) := ⟨_, op_rep, fun F H v u e hv hu Q kk => by
  obtain ⟨p, xs, rfl, h2, h3⟩ := hv.lst e
  refine ⟨p, k, xs, rfl, hu.int, h2, h0, h1, szle (by rw [h3.len]; exact h), fun l hl => ?_⟩
  refine kk _ F _ (.own e hl) ⟨l, _, rfl, hl, e.free hl, upd_same, ?_⟩
  generalize k.toNat = n
  clear h
  induction n with
  | zero => exact .nil
  | succ n ih =>
    rw [List.replicate_succ, List.replicate_succ, List.flatten_cons, List.flatten_cons]
    exact h3.app ih⟩
theorem bin_rep1 {d : D} {k : Int} (h0 : 0 ≤ k) (h1 : k ≤ 16777216) : BinD X .Mult (.lst [d]) (.int k) (.ow (List.replicate k.toNat d)) := by
  have z : (List.replicate k.toNat [d]).flatten = List.replicate k.toNat d := by
    generalize k.toNat = n
    induction n with
    | zero => rfl
    | succ n ih => rw [List.replicate_succ, List.flatten_cons, ih, List.replicate_succ]; rfl
  rw [← z]
  exact bin_rep (by omega) (by omega) (by rw [List.length_singleton]; omega)
/-- a new tuple -/
theorem vr_tup {K : PySem.W.Frag} {F H : Hp} (e : Same F H) {p : Addr} {xs : List V} {ds : List D} (hp : H p = none) (h : DdAll K F xs ds) : Tr F H (upd F p (.tup xs)) (upd H p (.tup xs)) ∧ VR K H (upd F p (.tup xs)) (upd H p (.tup xs)) (.ref p) (.im (.tup ds)) := by
  have t : Tr F H (upd F p (.tup xs)) (upd H p (.tup xs)) := .new e hp
  exact ⟨t, .tup upd_same (h.mono t.ff)⟩
theorem bin_catT {ds es : List D} (h : ds.length + es.length ≤ 16777216) : BinD X .Add (.tup ds) (.tup es) (.im (.tup (ds ++ es))) := ⟨_, op_catA, fun F H v u e hv hu Q k => by
  have hv' : Dd X.K F v (.tup ds) := by
    rcases hv with hv | ⟨_, _, _, _, z, _⟩
    · exact hv
    · cases z
  have hu' : Dd X.K F u (.tup es) := by
    rcases hu with hu | ⟨_, _, _, _, z, _⟩
    · exact hu
    · cases z
  obtain ⟨p, xs, rfl, h1, h2⟩ := hv.tup e
  obtain ⟨q, ys, rfl, h3, h4⟩ := hu.tup e
  refine ⟨p, q, xs, ys, rfl, rfl, SqT.of h1, SqT.of h3, szle (by rw [h2.len, h4.len]; exact h), fun z => ?_, fun z z2 => ?_, fun _ _ l hl => ?_⟩
  · subst z
    have e0 : ds = [] := by
      have := h2.len
      exact List.length_eq_zero_iff.mp this.symm
    subst e0
    exact k _ F H (.refl e) hu'
  · subst z2
    have e0 : es = [] := by
      have := h4.len
      exact List.length_eq_zero_iff.mp this.symm
    subst e0
    rw [List.append_nil] at k
    exact k _ F H (.refl e) hv'
  · obtain ⟨t, q⟩ := vr_tup e hl (h2.app h4)
    exact k _ _ _ t q⟩

/-! ### one-place -/
theorem xi_neg {i : Int} (ha : XW X a S (.int i)) : XI X (.UnaryOp .USub a pos) S (.int (-i)) :=
  xe_of (pe_un un_neg pe_tW) fun σ H F w => tW_go ha w fun v F1 H1 t1 z1 => ⟨i, z1.int, F1, t1, .int _⟩

/-! ### comparisons -/
def CmpD (X : Cx) (op : CmpOp) (x y : D) (k : Bool) : Prop := ∃ r2 : R2, OpR X (compareOp op) r2 ∧ ∀ (F H : Hp) (v u : V), Same F H → VW X.K F H v x → VW X.K F H u y → ∀ Q : VK, Q (.bl k) H → r2 v u H Q
theorem xi_cmp {op : CmpOp} {k : Bool} (h : CmpD X op x y k) (ha : XW X a S x) (hb : XW X b S y) (hm : behindInMarks op b = false) : XI X (.Compare a [op] [b] pos) S (.bl k) := by
  obtain ⟨r2, ho, hr⟩ := h
  refine xe_of (pe_cmpR ho pe_tW pe_tW hm) fun σ H F w => tW_go ha w fun v F1 H1 t1 z1 => tW_go hb (w.step t1) fun u F2 H2 t2 z2 => ?_
  exact hr F2 H2 v u t2.fh (z1.mono t2) z2 _ ⟨F2, t1.trans t2, .bl k⟩
theorem xt_cmp {op : CmpOp} {k : Bool} (h : CmpD X op x y k) (ha : XW X a S x) (hb : XW X b S y) (hm : behindInMarks op b = false) : XT X (.Compare a [op] [b] pos) S k := by
  obtain ⟨r2, ho, hr⟩ := h
  refine xt_of (pt_cmpR ho pe_tW pe_tW hm) fun σ H F w => tW_go ha w fun v F1 H1 t1 z1 => tW_go hb (w.step t1) fun u F2 H2 t2 z2 => ?_
  exact hr F2 H2 v u t2.fh (z1.mono t2) z2 _ ⟨k, rfl, F2, t1.trans t2, rfl⟩
theorem cmp_lt {i j : Int} : CmpD X .Lt (.int i) (.int j) (decide (i < j)) := ⟨_, op_lt, fun F H v u e hv hu Q k => ⟨i, j, hv.int, hu.int, k⟩⟩
theorem cmp_le {i j : Int} : CmpD X .LtE (.int i) (.int j) (decide (i ≤ j)) := ⟨_, op_le, fun F H v u e hv hu Q k => ⟨i, j, hv.int, hu.int, k⟩⟩
theorem cmp_gt {i j : Int} : CmpD X .Gt (.int i) (.int j) (decide (j < i)) := ⟨_, op_gt, fun F H v u e hv hu Q k => ⟨i, j, hv.int, hu.int, k⟩⟩
theorem cmp_ge {i j : Int} : CmpD X .GtE (.int i) (.int j) (decide (j ≤ i)) := ⟨_, op_ge, fun F H v u e hv hu Q k => ⟨i, j, hv.int, hu.int, k⟩⟩
theorem cmp_eq {i j : Int} : CmpD X .Eq (.int i) (.int j) (decide (i = j)) := ⟨_, op_eq, fun F H v u e hv hu Q k => by
  rw [hv.int, hu.int]
  refine ⟨rfl, ?_⟩
  have z : decide (V.int i = V.int j) = decide (i = j) := by rw [dec_int]; rfl
  rw [z]; exact k⟩
theorem cmp_ne {i j : Int} : CmpD X .NotEq (.int i) (.int j) (!decide (i = j)) := ⟨_, op_ne, fun F H v u e hv hu Q k => by
  rw [hv.int, hu.int]
  refine ⟨rfl, ?_⟩
  have z : decide (V.int i = V.int j) = decide (i = j) := by rw [dec_int]; rfl
  rw [z]; exact k⟩
theorem cmp_eqS {i j : Str} : CmpD X .Eq (.str i) (.str j) (decide (i = j)) := ⟨_, op_eq, fun F H v u e hv hu Q k => by
  rw [hv.str, hu.str]
  refine ⟨rfl, ?_⟩
  have z : decide (V.str i = V.str j) = decide (i = j) := by
    by_cases h : i = j
    · subst h; simp
    · rw [decide_eq_false h, decide_eq_false (fun q => h (V.str.inj q))]
  rw [z]; exact k⟩
theorem cmp_neS {i j : Str} : CmpD X .NotEq (.str i) (.str j) (!decide (i = j)) := ⟨_, op_ne, fun F H v u e hv hu Q k => by
  rw [hv.str, hu.str]
  refine ⟨rfl, ?_⟩
  have z : decide (V.str i = V.str j) = decide (i = j) := by
    by_cases h : i = j
    · subst h; simp
    · rw [decide_eq_false h, decide_eq_false (fun q => h (V.str.inj q))]
  rw [z]; exact k⟩
theorem cmp_eqB {i j : Bool} : CmpD X .Eq (.bl i) (.bl j) (decide (i = j)) := ⟨_, op_eq, fun F H v u e hv hu Q k => by
  rw [hv.bl, hu.bl]
  refine ⟨rfl, ?_⟩
  have z : decide (V.bl i = V.bl j) = decide (i = j) := by cases i <;> cases j <;> rfl
  rw [z]; exact k⟩
theorem cmp_neB {i j : Bool} : CmpD X .NotEq (.bl i) (.bl j) (!decide (i = j)) := ⟨_, op_ne, fun F H v u e hv hu Q k => by
  rw [hv.bl, hu.bl]
  refine ⟨rfl, ?_⟩
  have z : decide (V.bl i = V.bl j) = decide (i = j) := by cases i <;> cases j <;> rfl
  rw [z]; exact k⟩
/-- == and != of data -/
theorem cmp_eqD (hr : Room 0 X.A) (h1 : x.okQ) (h2 : y.okQ) : CmpD X .Eq x y (x.eqv y) := ⟨_, op_eqD hr.units, fun F H v u e hv hu Q k => ⟨_, _, hv.dp e h1.1, hu.dp e h2.1, D.shaped h1, D.shaped h2, k⟩⟩
theorem cmp_neD (hr : Room 0 X.A) (h1 : x.okQ) (h2 : y.okQ) : CmpD X .NotEq x y (!x.eqv y) := ⟨_, op_neD hr.units, fun F H v u e hv hu Q k => ⟨_, _, hv.dp e h1.1, hu.dp e h2.1, D.shaped h1, D.shaped h2, k⟩⟩
/-- x is None -/
def D.isN : D → Bool
  | .non => true
  | _ => false
theorem VW.isN {K : PySem.W.Frag} {F H : Hp} {v : V} {d : D} (h : VW K F H v d) : decide (v = V.non) = d.isN := by
  rcases h with h | ⟨l, xs, ds, rfl, rfl, _⟩
  · cases h <;> first | rfl | (exact decide_eq_false (fun z => nomatch z))
  · exact decide_eq_false (fun z => nomatch z)
theorem cmp_isN : CmpD X .Is x .non x.isN := ⟨_, op_isN, fun F H v u e hv hu Q k => by
  refine ⟨?_, by rw [hv.isN]; exact k⟩
  rcases hu with hu | ⟨_, _, _, _, z, _⟩
  · cases hu; rfl
  · cases z⟩
theorem cmp_notN : CmpD X .IsNot x .non (!x.isN) := ⟨_, op_notN, fun F H v u e hv hu Q k => by
  refine ⟨?_, by rw [hv.isN]; exact k⟩
  rcases hu with hu | ⟨_, _, _, _, z, _⟩
  · cases hu; rfl
  · cases z⟩
/-- a < b < c -/
theorem xi_chain {op op' : CmpOp} {k k' : Bool} (h : CmpD X op x y k) (h' : CmpD X op' y z k') (ha : XW X a S x) (hb : XW X b S y) (hc : k = true → XW X c S z) (hm : lastMarks [op, op'] [b, c] = false := by rfl) :
    XI X (.Compare a [op, op'] [b, c] pos) S (.bl (k && k')) := by
  obtain ⟨r2, ho, hr⟩ := h
  obtain ⟨r3, ho', hr'⟩ := h'
  refine xe_of (pe_chain ho ho' pe_tW pe_tW pe_tW hm) fun σ H F w => tW_go ha w fun v F1 H1 t1 z1 => tW_go hb (w.step t1) fun u F2 H2 t2 z2 => ?_
  refine hr F2 H2 v u t2.fh (z1.mono t2) z2 _ ⟨k, rfl, ?_⟩
  cases k with
  | true =>
    refine iteT ?_
    refine tW_go (hc rfl) ((w.step t1).step t2) fun q F3 H3 t3 z3 => ?_
    exact hr' F3 H3 u q t3.fh (z2.mono t3) z3 _ ⟨F3, (t1.trans t2).trans t3, .bl _⟩
  | false => exact iteF ⟨F2, t1.trans t2, .bl _⟩
theorem xt_chain {op op' : CmpOp} {k k' : Bool} (h : CmpD X op x y k) (h' : CmpD X op' y z k') (ha : XW X a S x) (hb : XW X b S y) (hc : k = true → XW X c S z) (hm : lastMarks [op, op'] [b, c] = false := by rfl) :
    XT X (.Compare a [op, op'] [b, c] pos) S (k && k') := by
  obtain ⟨r2, ho, hr⟩ := h
  obtain ⟨r3, ho', hr'⟩ := h'
  refine xt_of (pt_chain ho ho' pe_tW pe_tW pe_tW hm) fun σ H F w => tW_go ha w fun v F1 H1 t1 z1 => tW_go hb (w.step t1) fun u F2 H2 t2 z2 => ?_
  refine hr F2 H2 v u t2.fh (z1.mono t2) z2 _ ⟨k, rfl, ?_⟩
  cases k with
  | true =>
    refine iteT ?_
    refine tW_go (hc rfl) ((w.step t1).step t2) fun q F3 H3 t3 z3 => ?_
    exact hr' F3 H3 u q t3.fh (z2.mono t3) z3 _ ⟨_, rfl, F3, (t1.trans t2).trans t3, rfl⟩
  | false => exact iteF ⟨false, rfl, F2, t1.trans t2, rfl⟩

/-! ### tests -/
theorem xt_val {k : Bool} (h : XW X e S (.bl k)) (he : ∀ whole, isTrue e X.env whole = (do let v ← whole; standAt e.pos; holding [v] (truthy v)) := by intro _; rfl) : XT X e S k :=
  xt_of (pt_val pe_tW he) fun σ H F w => tW_go h w fun v F1 H1 t1 z1 => ⟨k, z1.bl, F1, t1, rfl⟩
theorem XV.t {k : Bool} (h : XV X e S k) : XT X e S k := fun pins s σ H F I w => h _ pins s σ H F I w
theorem xv_and1 {k : Bool} (h : XT X a S k) : XV X (.BoolOp .And [a] pos) S k := xv_of (pw_and1 pt_tT) fun σ H F w => tT_go h w fun F1 H1 t1 => ⟨F1, t1, rfl⟩
theorem xv_or1 {k : Bool} (h : XT X a S k) : XV X (.BoolOp .Or [a] pos) S k := xv_of (pw_or1 pt_tT) fun σ H F w => tT_go h w fun F1 H1 t1 => ⟨F1, t1, rfl⟩
theorem xv_and {k m : Bool} {rest : List Expr} (h : XT X a S k) (h2 : k = true → XV X (.BoolOp .And (b :: rest) pos) S m) : XV X (.BoolOp .And (a :: b :: rest) pos) S (k && m) :=
  xv_of (pw_and pt_tT pw_tV) fun σ H F w => tT_go h w fun F1 H1 t1 => by
    cases k with
    | true => exact iteT (tV_go (h2 rfl) (w.step t1) fun F2 H2 t2 => ⟨F2, t1.trans t2, rfl⟩)
    | false => exact iteF ⟨F1, t1, rfl⟩
theorem xv_or {k m : Bool} {rest : List Expr} (h : XT X a S k) (h2 : k = false → XV X (.BoolOp .Or (b :: rest) pos) S m) : XV X (.BoolOp .Or (a :: b :: rest) pos) S (k || m) :=
  xv_of (pw_or pt_tT pw_tV) fun σ H F w => tT_go h w fun F1 H1 t1 => by
    cases k with
    | true => exact iteT ⟨F1, t1, rfl⟩
    | false => exact iteF (tV_go (h2 rfl) (w.step t1) fun F2 H2 t2 => ⟨F2, t1.trans t2, rfl⟩)
theorem xt_not {k : Bool} (h : XT X a S k) : XT X (.UnaryOp .Not a pos) S (!k) := xt_of (pt_not pt_tT) fun σ H F w => tT_go h w fun F1 H1 t1 => ⟨F1, t1, rfl⟩
/-! .. as values -/
theorem xi_one {op} (h : XI X a S x) : XI X (.BoolOp op [a] pos) S x := xe_of (pe_one pe_tE) fun σ H F w => tE_go h w fun v F1 H1 t1 z1 => ⟨F1, t1, z1⟩
theorem xi_and {k m : Bool} {rest : List Expr} (h : XI X a S (.bl k)) (h2 : k = true → XI X (.BoolOp .And (b :: rest) pos) S (.bl m)) : XI X (.BoolOp .And (a :: b :: rest) pos) S (.bl (k && m)) :=
  xe_of (pe_and pe_tE pe_tE) fun σ H F w => tE_go h w fun v F1 H1 t1 z1 => ⟨k, (show VW X.K F1 H1 v (.bl k) from .inl z1).bl, by
    cases k with
    | true => exact iteT (tE_go (h2 rfl) (w.step t1) fun v F2 H2 t2 z2 => ⟨F2, t1.trans t2, z2⟩)
    | false => exact iteF ⟨F1, t1, .bl _⟩⟩
theorem xi_or {k m : Bool} {rest : List Expr} (h : XI X a S (.bl k)) (h2 : k = false → XI X (.BoolOp .Or (b :: rest) pos) S (.bl m)) : XI X (.BoolOp .Or (a :: b :: rest) pos) S (.bl (k || m)) :=
  xe_of (pe_or pe_tE pe_tE) fun σ H F w => tE_go h w fun v F1 H1 t1 z1 => ⟨k, (show VW X.K F1 H1 v (.bl k) from .inl z1).bl, by
    cases k with
    | true => exact iteT ⟨F1, t1, .bl _⟩
    | false => exact iteF (tE_go (h2 rfl) (w.step t1) fun v F2 H2 t2 z2 => ⟨F2, t1.trans t2, z2⟩)⟩
theorem xi_not {k : Bool} (h : XI X a S (.bl k)) : XI X (.UnaryOp .Not a pos) S (.bl (!k)) := xe_of (pe_not pe_tE) fun σ H F w => tE_go h w fun v F1 H1 t1 z1 =>
  ⟨k, (show VW X.K F1 H1 v (.bl k) from .inl z1).bl, F1, t1, .bl _⟩
theorem xe_if {k : Bool} (hc : XT X c S k) (ha : k = true → XE X a S r) (hb : k = false → XE X b S r) : XE X (.IfExp c a b pos) S r :=
  xe_of (pe_ifExp pt_tT pe_tE pe_tE) fun σ H F w => tT_go hc w fun F1 H1 t1 => by
    cases k with
    | true => exact iteT (tE_go (ha rfl) (w.step t1) fun v F2 H2 t2 z2 => ⟨F2, t1.trans t2, z2.back t1⟩)
    | false => exact iteF (tE_go (hb rfl) (w.step t1) fun v F2 H2 t2 z2 => ⟨F2, t1.trans t2, z2.back t1⟩)
/-- two ints: by cases -/
theorem xi_ifI {k : Bool} {i j : Int} (hc : XT X c S k) (ha : k = true → XI X a S (.int i)) (hb : k = false → XI X b S (.int j)) : XI X (.IfExp c a b pos) S (.int (if k then i else j)) := by
  refine xe_if hc (fun h => ?_) (fun h => ?_)
  · rw [h, if_pos rfl]; exact ha h
  · rw [h, if_neg Bool.false_ne_true]; exact hb h

/-! ### argument lists, displays -/
theorem xa_nil : XA X [] S [] := xa_of pa_nil fun σ H F w => ⟨F, .refl w.fh, .nil⟩
theorem xa_cons {es : List Expr} {ds : List D} (ha : XI X e S x) (hr : XA X es S ds) (hs : starEach (e :: es) X.env = (false, eval e X.env) :: starEach es X.env := by rfl) : XA X (e :: es) S (x :: ds) :=
  xa_of (pa_cons pe_tE pa_tA hs) fun σ H F w => tE_go ha w fun v F1 H1 t1 z1 => tA_go hr (w.step t1) fun vs F2 H2 t2 z2 => ⟨F2, t1.trans t2, .cons (z1.mono t2.ff) z2⟩
theorem xi_tup {es : List Expr} {ds : List D} {x1} (h : XA X es S ds) (hz : ds.length ≤ 16777216) : XI X (.Tuple es x1 pos) S (.tup ds) :=
  xe_of (pe_tup pa_tA) fun σ H F w => tA_go h w fun vs F1 H1 t1 z1 => ⟨szle (by rw [z1.len]; exact hz), fun p hp => by
    obtain ⟨t, q⟩ := vr_tup t1.fh hp z1
    exact ⟨_, t1.trans t, q⟩⟩
theorem xe_lst {es : List Expr} {ds : List D} (h : XA X es S ds) (hz : ds.length ≤ 16777216) : XE X (.List es pos) S (.ow ds) :=
  xe_of (pe_lst pa_tA) fun σ H F w => tA_go h w fun vs F1 H1 t1 z1 => ⟨szle (by rw [z1.len]; exact hz), fun p hp =>
    ⟨F1, t1.trans (.own t1.fh hp), p, vs, rfl, t1.hh.free hp, t1.fh.free hp, upd_same, z1⟩⟩

/-! ### subscripts -/
theorem DdAll.at {K : PySem.W.Frag} {F : Hp} {vs : List V} {ds : List D} {i : Int} {d : D} (h : DdAll K F vs ds) (e : atI ds i = some d) : ∃ v, atI vs i = some v ∧ Dd K F v d := by
  unfold atI at e ⊢
  rw [h.len]
  cases q : ixN ds.length i with
  | none => rw [q] at e; cases e
  | some j =>
    rw [q] at e
    exact h.get (i := j) e
theorem atI_pos {α : Type} {xs : List α} {i : Int} {v : α} (h0 : 0 ≤ i) (h : xs[i.toNat]? = some v) : atI xs i = some v := by
  obtain ⟨j, rfl⟩ : ∃ j : Nat, i = j := ⟨i.toNat, by omega⟩
  exact atI_nat h
theorem atI_neg {α : Type} {xs : List α} {i : Int} {v : α} (h0 : i < 0) (h1 : -(xs.length : Int) ≤ i) (h : xs[(i + xs.length).toNat]? = some v) : atI xs i = some v := by
  unfold atI ixN
  rw [if_neg (by omega), if_pos h1]
  exact h
theorem xi_ixL {ds : List D} {i : Int} (ha : XW X a S (.lst ds)) (hb : XW X b S (.int i)) (h : atI ds i = some x) (hs : PlainIx b := by intro _ _; rfl) : XI X (.Subscript a b pos) S x :=
  xe_of (pe_ix ix_list pe_tW pe_tW hs) fun σ H F w => tW_go ha w fun v F1 H1 t1 z1 => tW_go hb (w.step t1) fun u F2 H2 t2 z2 => by
    obtain ⟨p, xs, rfl, h1, h2⟩ := (z1.mono t2).lst t2.fh
    obtain ⟨y, h3, h4⟩ := h2.at h
    exact ⟨p, xs, i, y, rfl, z2.int, SqL.of h1, h3, F2, t1.trans t2, h4⟩
theorem xi_ixT {ds : List D} {i : Int} (ha : XW X a S (.tup ds)) (hb : XW X b S (.int i)) (h : atI ds i = some x) (hs : PlainIx b := by intro _ _; rfl) : XI X (.Subscript a b pos) S x :=
  xe_of (pe_ix ix_tup pe_tW pe_tW hs) fun σ H F w => tW_go ha w fun v F1 H1 t1 z1 => tW_go hb (w.step t1) fun u F2 H2 t2 z2 => by
    obtain ⟨p, xs, rfl, h1, h2⟩ := (z1.mono t2).tup t2.fh
    obtain ⟨y, h3, h4⟩ := h2.at h
    exact ⟨p, xs, i, y, rfl, z2.int, SqT.of h1, h3, F2, t1.trans t2, h4⟩
theorem xi_ixC {ns : List Int} {i n : Int} (ha : XW X a S (.scr ns)) (hb : XW X b S (.int i)) (h : atI ns i = some n) (hs : PlainIx b := by intro _ _; rfl) : XI X (.Subscript a b pos) S (.int n) :=
  xe_of (pe_ix ix_list pe_tW pe_tW hs) fun σ H F w => tW_go ha w fun v F1 H1 t1 z1 => tW_go hb (w.step t1) fun u F2 H2 t2 z2 => by
    obtain ⟨p, rfl, h1⟩ := (z1.mono t2).scr t2.fh
    refine ⟨p, _, i, .int n, rfl, z2.int, h1, ?_, F2, t1.trans t2, .int n⟩
    unfold atI at h ⊢
    rw [List.length_map]
    cases q : ixN ns.length i with
    | none => rw [q] at h; cases h
    | some j =>
      rw [q] at h
      have h' : ns[j]? = some n := h
      show (ns.map V.int)[j]? = some (V.int n)
      rw [List.getElem?_map, h']
      rfl
/-- slices -/
def cut {α : Type} (xs : List α) (lo hi : Option Int) : List α := (xs.drop (HT.sIx xs.length 0 lo)).take (HT.sIx xs.length xs.length hi - HT.sIx xs.length 0 lo)
theorem DdAll.cut {K : PySem.W.Frag} {F : Hp} {vs : List V} {ds : List D} (h : DdAll K F vs ds) (lo hi : Option Int) : DdAll K F (cutV vs lo hi) (DL.cut ds lo hi) := by
  unfold cutV DL.cut
  rw [h.len]
  exact (h.drop _).take _
theorem cut_from {α : Type} (xs : List α) {i : Int} (h : 0 ≤ i) : cut xs (some i) none = xs.drop i.toNat := by
  obtain ⟨j, rfl⟩ : ∃ j : Nat, i = j := ⟨i.toNat, by omega⟩
  unfold cut
  rw [HT.sIx_nat, HT.sIx_none]
  have e : (xs.drop (min j xs.length)).take (xs.length - min j xs.length) = xs.drop (min j xs.length) := List.take_of_length_le (by rw [List.length_drop]; omega)
  rw [e, Int.toNat_natCast]
  by_cases hj : j ≤ xs.length
  · rw [Nat.min_eq_left hj]
  · rw [Nat.min_eq_right (by omega), List.drop_length, List.drop_of_length_le (by omega)]
theorem cut_to {α : Type} (xs : List α) {i : Int} (h : 0 ≤ i) : cut xs none (some i) = xs.take i.toNat := by
  obtain ⟨j, rfl⟩ : ∃ j : Nat, i = j := ⟨i.toNat, by omega⟩
  unfold cut
  rw [HT.sIx_nat, HT.sIx_none, List.drop_zero, Nat.sub_zero, Int.toNat_natCast]
  by_cases hj : j ≤ xs.length
  · rw [Nat.min_eq_left hj]
  · rw [Nat.min_eq_right (by omega), List.take_length, List.take_of_length_le (by omega)]
theorem cut_mid {α : Type} (xs : List α) {i j : Int} (h : 0 ≤ i) (h2 : 0 ≤ j) : cut xs (some i) (some j) = (xs.drop i.toNat).take (j.toNat - i.toNat) := by
  obtain ⟨a, rfl⟩ : ∃ a : Nat, i = a := ⟨i.toNat, by omega⟩
  obtain ⟨b, rfl⟩ : ∃ b : Nat, j = b := ⟨j.toNat, by omega⟩
  unfold cut
  rw [HT.sIx_nat, HT.sIx_nat, Int.toNat_natCast, Int.toNat_natCast]
  by_cases ha : a ≤ xs.length
  · rw [Nat.min_eq_left ha]
    by_cases hb : b ≤ xs.length
    · rw [Nat.min_eq_left hb]
    · rw [Nat.min_eq_right (by omega), List.take_of_length_le (by rw [List.length_drop]; omega), List.take_of_length_le (by rw [List.length_drop]; omega)]
  · rw [Nat.min_eq_right (by omega : xs.length ≤ a), List.drop_length, List.drop_of_length_le (by omega : xs.length ≤ a), List.take_nil, List.take_nil]
theorem xp_none : XPt X none S none := ⟨_, po_none, fun σ H F w => ⟨F, .refl w.fh, rfl⟩⟩
theorem xp_some {i : Int} (h : XW X e S (.int i)) : XPt X (some e) S (some i) := ⟨_, po_some pe_tW, fun σ H F w => tW_go h w fun v F1 H1 t1 z1 => ⟨i, z1.int, F1, t1, rfl⟩⟩
theorem XPt.t {eo : Option Expr} {o : Option Int} (h : XPt X eo S o) : ∃ t, PO X eo t ∧ ∀ σ H F, Wf X.K F H σ S → ∀ Q : Option Int → Hp → Prop, (∀ F' H', Tr F H F' H' → Q o H') → t σ H Q := by
  obtain ⟨t, p, k⟩ := h
  refine ⟨fun σ H Q => ∃ F, Wf X.K F H σ S ∧ ∀ F' H', Tr F H F' H' → Q o H', ⟨fun pins s σ H Q I ⟨F, w, q⟩ => thn (p.run pins s σ H _ I (k σ H F w)) fun u s' hu => ?_⟩, fun σ H F w Q q => ⟨F, w, q⟩⟩
  obtain ⟨o', H', I', hp, F', t', rfl⟩ := hu
  exact ⟨_, H', I', hp, q F' H' t'⟩
theorem xe_slL {ds : List D} {lo hi : Option Expr} {p2 : Pos} {l h : Option Int} (ha : XW X a S (.lst ds)) (hl : XPt X lo S l) (hh : XPt X hi S h) : XE X (.Subscript a (.Slice lo hi none p2) pos) S (.ow (cut ds l h)) := by
  obtain ⟨tl, pl, kl⟩ := hl.t
  obtain ⟨th, ph, kh⟩ := hh.t
  refine xe_of (pe_slice sl_list pe_tW pl ph) fun σ H F w => tW_go ha w fun v F1 H1 t1 z1 => kl σ H1 F1 (w.step t1) _ fun F2 H2 t2 => kh σ H2 F2 ((w.step t1).step t2) _ fun F3 H3 t3 => ?_
  obtain ⟨p, xs, rfl, h1, h2⟩ := ((z1.mono t2).mono t3).lst t3.fh
  exact ⟨p, xs, rfl, SqL.of h1, fun q hq => ⟨F3, ((t1.trans t2).trans t3).trans (.own t3.fh hq), q, _, rfl, ((t1.trans t2).trans t3).hh.free hq, t3.fh.free hq, upd_same, h2.cut _ _⟩⟩
theorem xi_slT {ds : List D} {lo hi : Option Expr} {p2 : Pos} {l h : Option Int} (ha : XI X a S (.tup ds)) (hl : XPt X lo S l) (hh : XPt X hi S h) : XI X (.Subscript a (.Slice lo hi none p2) pos) S (.tup (cut ds l h)) := by
  obtain ⟨tl, pl, kl⟩ := hl.t
  obtain ⟨th, ph, kh⟩ := hh.t
  refine xe_of (pe_slice sl_tupA pe_tE pl ph) fun σ H F w => tE_go ha w fun v F1 H1 t1 z1 => kl σ H1 F1 (w.step t1) _ fun F2 H2 t2 => kh σ H2 F2 ((w.step t1).step t2) _ fun F3 H3 t3 => ?_
  have z3 : Dd X.K F3 v (.tup ds) := (Dd.mono t3.ff (Dd.mono t2.ff z1))
  obtain ⟨p, xs, rfl, h1, h2⟩ := (show VW X.K F3 H3 v (.tup ds) from .inl z3).tup t3.fh
  refine ⟨p, xs, rfl, SqT.of h1, fun hw => ?_, fun _ q hq => ?_⟩
  · refine ⟨F3, (t1.trans t2).trans t3, ?_⟩
    have e : DL.cut ds l h = ds := by
      unfold DL.cut
      rw [← h2.len, hw.1, hw.2, List.drop_zero, Nat.sub_zero, h2.len, List.take_length]
    show Dd X.K F3 (.ref p) (.tup (DL.cut ds l h))
    rw [e]
    exact z3
  · obtain ⟨t, q⟩ := vr_tup t3.fh hq (h2.cut l h)
    exact ⟨_, ((t1.trans t2).trans t3).trans t, q⟩
/-- xs[::-1] of a list -/
theorem xe_revL {ds : List D} {k : Nat} {p1 p2 p3 : Pos} (ha : XW X a S (.lst ds)) : XE X (.Subscript a (.Slice none none (some (.UnaryOp .USub (.Constant (.int 1) k p1) p2)) p3) pos) S (.ow ds.reverse) :=
  xe_of (pe_revL pe_tW) fun σ H F w => tW_go ha w fun v F1 H1 t1 z1 => by
    obtain ⟨p, xs, rfl, h1, h2⟩ := z1.lst t1.fh
    refine ⟨p, xs, rfl, SqL.of h1, fun q hq => ⟨F1, t1.trans (.own t1.fh hq), q, _, rfl, t1.hh.free hq, t1.fh.free hq, upd_same, ?_⟩⟩
    have rev : ∀ {vs : List V} {ds : List D}, DdAll X.K F1 vs ds → DdAll X.K F1 vs.reverse ds.reverse := by
      intro vs ds h
      induction vs generalizing ds with
      | nil => cases h; exact .nil
      | cons v vs ih =>
        cases h with
        | cons h t =>
          rw [List.reverse_cons, List.reverse_cons]
          exact (ih t).app (.cons h .nil)
    exact rev h2

/-! ### calls of built-ins, one argument seen -/
def Call1 (X : Cx) (f : Value) (x : D) (r : Sl) : Prop := ∃ rr : List V → Hp → VK → Prop, CallR X f rr ∧ ∀ (F H : Hp) (v : V), Same F H → VW X.K F H v x → ∀ Q : VK, (∀ z F' H', Tr F H F' H' → VR X.K H F' H' z r → Q z H') → rr [v] H Q
theorem xe_callB {id : String} {n : Str} {p : Pos} (h : Call1 X (.builtin id) x r) (ha : XW X a S x) (hg : Gl X n) (hm : X.mg n = none) (hv : bootBuiltins n = some (.builtin id)) (hn : n ≠ "__name__" := by decide) (hdb : (n == ("__debug__" : Str)) = false := by decide)
    (hs : starEach [a] X.env = (false, eval a X.env) :: starEach [] X.env := by rfl) (he2 : (backTo pos (starEach [] X.env)).any (·.1) = false := by rfl) : XE X (.Call (.Name n p) [a] [] pos) S r := by
  obtain ⟨rr, hc, hr⟩ := h
  refine xe_of (pe_callB hc hg hm hv (pa_cons pe_tW pa_nil hs) hn hdb hs he2) fun σ H F w => tW_go ha w fun v F1 H1 t1 z1 => ?_
  exact hr F1 H1 v t1.fh z1 _ fun z F' H' t q => ⟨F', t1.trans t, q.back t1⟩
theorem xe_callT {id : String} {n : Str} {p : Pos} (h : Call1 X (.type id) x r) (ha : XW X a S x) (hg : Gl X n) (hm : X.mg n = none) (hv : bootBuiltins n = some (.type id)) (hn : n ≠ "__name__" := by decide) (hdb : (n == ("__debug__" : Str)) = false := by decide)
    (hs : starEach [a] X.env = (false, eval a X.env) :: starEach [] X.env := by rfl) (he2 : (backTo pos (starEach [] X.env)).any (·.1) = false := by rfl) : XE X (.Call (.Name n p) [a] [] pos) S r := by
  obtain ⟨rr, hc, hr⟩ := h
  refine xe_of (pe_callTy hc hg hm hv (pa_cons pe_tW pa_nil hs) hn hdb hs he2) fun σ H F w => tW_go ha w fun v F1 H1 t1 z1 => ?_
  exact hr F1 H1 v t1.fh z1 _ fun z F' H' t q => ⟨F', t1.trans t, q.back t1⟩
theorem c_lenL {ds : List D} : Call1 X (.builtin "len") (.lst ds) (.im (.int (ds.length : Int))) := ⟨_, call_len_seq, fun F H v e hv Q k => by
  obtain ⟨p, xs, rfl, h1, h2⟩ := hv.lst e
  refine ⟨p, xs, rfl, .inl (SqL.of h1), ?_⟩
  rw [h2.len]
  exact k _ F H (.refl e) (.int _)⟩
theorem c_lenT {ds : List D} : Call1 X (.builtin "len") (.tup ds) (.im (.int (ds.length : Int))) := ⟨_, call_len_seq, fun F H v e hv Q k => by
  obtain ⟨p, xs, rfl, h1, h2⟩ := hv.tup e
  refine ⟨p, xs, rfl, .inr (SqT.of h1), ?_⟩
  rw [h2.len]
  exact k _ F H (.refl e) (.int _)⟩
theorem c_lenC {ns : List Int} : Call1 X (.builtin "len") (.scr ns) (.im (.int (ns.length : Int))) := ⟨_, call_len_seq, fun F H v e hv Q k => by
  obtain ⟨p, rfl, h1⟩ := hv.scr e
  refine ⟨p, _, rfl, .inl h1, ?_⟩
  rw [List.length_map]
  exact k _ F H (.refl e) (.int _)⟩
theorem c_listL {ds : List D} : Call1 X (.type "list") (.lst ds) (.ow ds) := ⟨_, call_list_of, fun F H v e hv Q k => by
  obtain ⟨p, xs, rfl, h1, h2⟩ := hv.lst e
  exact ⟨p, xs, rfl, .inl (SqL.of h1), fun l hl => k _ F _ (.own e hl) ⟨l, _, rfl, hl, e.free hl, upd_same, h2⟩⟩⟩
theorem c_listT {ds : List D} : Call1 X (.type "list") (.tup ds) (.ow ds) := ⟨_, call_list_of, fun F H v e hv Q k => by
  obtain ⟨p, xs, rfl, h1, h2⟩ := hv.tup e
  exact ⟨p, xs, rfl, .inr (SqT.of h1), fun l hl => k _ F _ (.own e hl) ⟨l, _, rfl, hl, e.free hl, upd_same, h2⟩⟩⟩
theorem c_tupL {ds : List D} : Call1 X (.type "tuple") (.lst ds) (.im (.tup ds)) := ⟨_, call_tuple_of, fun F H v e hv Q k => by
  obtain ⟨p, xs, rfl, h1, h2⟩ := hv.lst e
  exact ⟨p, xs, rfl, .inl ⟨SqL.of h1, fun l hl => let ⟨t, q⟩ := vr_tup e hl h2; k _ _ _ t q⟩⟩⟩
theorem c_tupT {ds : List D} : Call1 X (.type "tuple") (.tup ds) (.im (.tup ds)) := ⟨_, call_tuple_of, fun F H v e hv Q k => by
  have hv' : Dd X.K F v (.tup ds) := by
    rcases hv with hv | ⟨_, _, _, _, z, _⟩
    · exact hv
    · cases z
  obtain ⟨p, xs, rfl, h1, h2⟩ := hv.tup e
  exact ⟨p, xs, rfl, .inr ⟨SqT.of h1, k _ F H (.refl e) hv'⟩⟩⟩
theorem c_sum (hc : X.calm = true) {ns : List Int} : Call1 X (.builtin "sum") (.lst (ns.map D.int)) (.im (.int ns.sum)) := ⟨_, cr_sum hc, fun F H v e hv Q k => by
  obtain ⟨p, xs, rfl, h1, h2⟩ := hv.lst e
  have z := h2.ints
  subst z
  exact ⟨p, ns, rfl, SqL.of h1, k _ F H (.refl e) (.int _)⟩⟩
theorem c_all (hc : X.calm = true) {bs : List Bool} : Call1 X (.builtin "all") (.lst (bs.map D.bl)) (.im (.bl (bs.all id))) := ⟨_, cr_all hc, fun F H v e hv Q k => by
  obtain ⟨p, xs, rfl, h1, h2⟩ := hv.lst e
  have z := h2.bls
  subst z
  exact ⟨p, bs, rfl, SqL.of h1, k _ F H (.refl e) (.bl _)⟩⟩
theorem c_intB {k : Bool} : Call1 X (.type "int") (.bl k) (.im (.int (if k then 1 else 0))) := ⟨_, call_int1, fun F H v e hv Q q => .inr ⟨k, by rw [hv.bl], q _ F H (.refl e) (.int _)⟩⟩
theorem c_str {i : Int} (h : i.natAbs.log2 < 1920) : Call1 X (.type "str") (.int i) (.im (.str (toString i))) := ⟨_, call_str_int, fun F H v e hv Q q => ⟨i, by rw [hv.int], h, q _ F H (.refl e) (.str _)⟩⟩
theorem minI {ns : List Int} {m m' : Int} (h : m ∈ ns) (h' : m' ∈ ns) (a : ∀ y, y ∈ ns → m ≤ y) (b : ∀ y, y ∈ ns → m' ≤ y) : m = m' := Int.le_antisymm (a _ h') (b _ h)
theorem c_min (hc : X.calm = true) {ns : List Int} {m : Int} (hm : m ∈ ns) (hle : ∀ y, y ∈ ns → m ≤ y) : Call1 X (.builtin "min") (.lst (ns.map D.int)) (.im (.int m)) := ⟨_, cr_min hc, fun F H v e hv Q k => by
  obtain ⟨p, xs, rfl, h1, h2⟩ := hv.lst e
  have z := h2.ints
  subst z
  refine ⟨p, ns, rfl, SqL.of h1, List.length_pos_of_mem hm, fun m' h' b => ?_⟩
  rw [minI h' hm b hle]
  exact k _ F H (.refl e) (.int _)⟩
theorem c_sorted {ns ms : List Int} (h64 : ns.length < 64) (hs : ∀ ks : List Int, ks.Perm ns → ks.Pairwise (· ≤ ·) → ks = ms) : Call1 X (.builtin "sorted") (.lst (ns.map D.int)) (.ow (ms.map D.int)) := ⟨_, cr_sorted, fun F H v e hv Q k => by
  obtain ⟨p, xs, rfl, h1, h2⟩ := hv.lst e
  have z := h2.ints
  subst z
  refine ⟨p, ns, rfl, SqL.of h1, h64, fun ks l hp hw hl => ?_⟩
  rw [hs ks hp hw]
  exact k _ F _ (.own e hl) ⟨l, _, rfl, hl, e.free hl, upd_same, DdAll.of_ints⟩⟩
/-! two arguments -/
theorem xi_min2 {i j : Int} {n : Str} {p : Pos} (hc : X.calm = true) (ha : XW X a S (.int i)) (hb : XW X b S (.int j)) (hg : Gl X n) (hm : X.mg n = none) (hv : bootBuiltins n = some (.builtin "min")) (hn : n ≠ "__name__" := by decide) (hdb : (n == ("__debug__" : Str)) = false := by decide)
    (hs : starEach [a, b] X.env = (false, eval a X.env) :: starEach [b] X.env := by rfl) (hs2 : starEach [b] X.env = (false, eval b X.env) :: starEach [] X.env := by rfl) (he2 : (backTo pos (starEach [b] X.env)).any (·.1) = false := by rfl) : XI X (.Call (.Name n p) [a, b] [] pos) S (.int (min i j)) :=
  xe_of (pe_callB (call_min2 hc) hg hm hv (pa_cons pe_tW (pa_cons pe_tW pa_nil hs2) hs) hn hdb hs he2) fun σ H F w => tW_go ha w fun v F1 H1 t1 z1 => tW_go hb (w.step t1) fun u F2 H2 t2 z2 => by
    refine ⟨i, j, by rw [z1.int, z2.int], F2, t1.trans t2, ?_⟩
    have e : (if j < i then j else i) = min i j := by
      by_cases h : j < i
      · rw [if_pos h]; omega
      · rw [if_neg h]; omega
    rw [e]
    exact .int _
theorem xi_divmod {i j : Int} {n : Str} {p : Pos} (hd : CDiv i j) (ha : XW X a S (.int i)) (hb : XW X b S (.int j)) (hg : Gl X n) (hm : X.mg n = none) (hv : bootBuiltins n = some (.builtin "divmod")) (hn : n ≠ "__name__" := by decide) (hdb : (n == ("__debug__" : Str)) = false := by decide)
    (hs : starEach [a, b] X.env = (false, eval a X.env) :: starEach [b] X.env := by rfl) (hs2 : starEach [b] X.env = (false, eval b X.env) :: starEach [] X.env := by rfl) (he2 : (backTo pos (starEach [b] X.env)).any (·.1) = false := by rfl) : XI X (.Call (.Name n p) [a, b] [] pos) S (.tup [.int (i / j), .int (i % j)]) :=
  xe_of (pe_callB call_divmod hg hm hv (pa_cons pe_tW (pa_cons pe_tW pa_nil hs2) hs) hn hdb hs he2) fun σ H F w => tW_go ha w fun v F1 H1 t1 z1 => tW_go hb (w.step t1) fun u F2 H2 t2 z2 => by
    refine ⟨i, j, by rw [z1.int, z2.int], hd, fun q hq => ?_⟩
    obtain ⟨t, z⟩ := vr_tup t2.fh hq (ds := [.int (i / j), .int (i % j)]) (.cons (.int _) (.cons (.int _) .nil))
    exact ⟨_, (t1.trans t2).trans t, z⟩
/-- list(range(..)) -/
def rng (n : Int) : List Int := (List.range n.toNat).map fun (k : Nat) => (k : Int)
theorem rng_length (n : Int) : (rng n).length = n.toNat := by unfold rng; rw [List.length_map, List.length_range]
theorem map_rg {i j : Int} : rgV i j = ((List.range (j - i).toNat).map fun (k : Nat) => i + (k : Int)).map V.int := by
  unfold rgV
  rw [List.map_map]
  rfl
theorem xe_listR1 {n : Int} {p p' pos' : Pos} (hc : X.calm = true) (h0 : 0 ≤ n) (h1 : n ≤ 16777216) (ha : XW X a S (.int n)) (hg : Gl X "list") (hm : X.mg "list" = none) (hg2 : Gl X "range") (hm2 : X.mg "range" = none)
    (na : starEach [.Call (.Name "range" p') [a] [] pos'] X.env = (false, eval (.Call (.Name "range" p') [a] [] pos') X.env) :: starEach [] X.env := by rfl) (na2 : starEach [a] X.env = (false, eval a X.env) :: starEach [] X.env := by rfl) :
    XE X (.Call (.Name "list" p) [.Call (.Name "range" p') [a] [] pos'] [] pos) S (.ow ((rng n).map D.int)) :=
  xe_of (pe_listRg hc hg hm (prg_1 hg2 hm2 pe_tW na2) na) fun σ H F w => tW_go ha w fun v F1 H1 t1 z1 => by
    refine ⟨n, z1.int, RgOk.of_le (by omega) h1 (by omega) h0, fun q hq => ⟨F1, t1.trans (.own t1.fh hq), q, _, rfl, t1.hh.free hq, t1.fh.free hq, upd_same, ?_⟩⟩
    rw [map_rg, Int.sub_zero]
    have e : rng n = ((List.range n.toNat).map fun (k : Nat) => (0 : Int) + (k : Int)) := List.map_congr_left fun k _ => (Int.zero_add _).symm
    rw [e]
    exact DdAll.of_ints
theorem xi_tupR1 {n : Int} {p p' pos' : Pos} (hc : X.calm = true) (h0 : 0 ≤ n) (h1 : n ≤ 16777216) (ha : XW X a S (.int n)) (hg : Gl X "tuple") (hm : X.mg "tuple" = none) (hg2 : Gl X "range") (hm2 : X.mg "range" = none)
    (na : starEach [.Call (.Name "range" p') [a] [] pos'] X.env = (false, eval (.Call (.Name "range" p') [a] [] pos') X.env) :: starEach [] X.env := by rfl) (na2 : starEach [a] X.env = (false, eval a X.env) :: starEach [] X.env := by rfl) :
    XI X (.Call (.Name "tuple" p) [.Call (.Name "range" p') [a] [] pos'] [] pos) S (.tup ((rng n).map D.int)) :=
  xe_of (pe_tupRg hc hg hm (prg_1 hg2 hm2 pe_tW na2) na) fun σ H F w => tW_go ha w fun v F1 H1 t1 z1 => by
    refine ⟨n, z1.int, RgOk.of_le (by omega) h1 (by omega) h0, fun q hq => ?_⟩
    rw [map_rg, Int.sub_zero]
    have e : rng n = ((List.range n.toNat).map fun (k : Nat) => (0 : Int) + (k : Int)) := List.map_congr_left fun k _ => (Int.zero_add _).symm
    rw [e]
    obtain ⟨t, z⟩ := vr_tup t1.fh hq (DdAll.of_ints (K := X.K) (F := F1) (ns := (List.range n.toNat).map fun (k : Nat) => (0 : Int) + (k : Int)))
    exact ⟨_, t1.trans t, z⟩
/-! the same for lists and tuples of ints -/
theorem c_lenI {ns : List Int} : Call1 X (.builtin "len") (.lst (ns.map D.int)) (.im (.int (ns.length : Int))) := by
  have h := c_lenL (X := X) (ds := ns.map D.int)
  rw [List.length_map] at h
  exact h
theorem c_lenTI {ns : List Int} : Call1 X (.builtin "len") (.tup (ns.map D.int)) (.im (.int (ns.length : Int))) := by
  have h := c_lenT (X := X) (ds := ns.map D.int)
  rw [List.length_map] at h
  exact h
theorem cut_map {α β : Type} (f : α → β) (xs : List α) (lo hi : Option Int) : cut (xs.map f) lo hi = (cut xs lo hi).map f := by
  unfold cut
  rw [List.length_map, List.map_take, List.map_drop]
theorem xe_slI {ns : List Int} {lo hi : Option Expr} {p2 : Pos} {l h : Option Int} (ha : XW X a S (.lst (ns.map D.int))) (hl : XPt X lo S l) (hh : XPt X hi S h) : XE X (.Subscript a (.Slice lo hi none p2) pos) S (.ow ((cut ns l h).map D.int)) := by
  rw [← cut_map]
  exact xe_slL ha hl hh
theorem xi_slTI {ns : List Int} {lo hi : Option Expr} {p2 : Pos} {l h : Option Int} (ha : XI X a S (.tup (ns.map D.int))) (hl : XPt X lo S l) (hh : XPt X hi S h) : XI X (.Subscript a (.Slice lo hi none p2) pos) S (.tup ((cut ns l h).map D.int)) := by
  rw [← cut_map]
  exact xi_slT ha hl hh
theorem bin_catI {ns ms : List Int} (h : ns.length + ms.length ≤ 16777216) : BinD X .Add (.lst (ns.map D.int)) (.lst (ms.map D.int)) (.ow ((ns ++ ms).map D.int)) := by
  rw [List.map_append]
  exact bin_cat (by rw [List.length_map, List.length_map]; exact h)
theorem bin_catTI {ns ms : List Int} (h : ns.length + ms.length ≤ 16777216) : BinD X .Add (.tup (ns.map D.int)) (.tup (ms.map D.int)) (.im (.tup ((ns ++ ms).map D.int))) := by
  rw [List.map_append]
  exact bin_catT (by rw [List.length_map, List.length_map]; exact h)
theorem xe_revI {ns : List Int} {k : Nat} {p1 p2 p3 : Pos} (ha : XW X a S (.lst (ns.map D.int))) : XE X (.Subscript a (.Slice none none (some (.UnaryOp .USub (.Constant (.int 1) k p1) p2)) p3) pos) S (.ow (ns.reverse.map D.int)) := by
  rw [List.map_reverse]
  exact xe_revL ha
theorem bin_rep1I {n : Int} {k : Int} (h0 : 0 ≤ k) (h1 : k ≤ 16777216) : BinD X .Mult (.lst [.int n]) (.int k) (.ow ((List.replicate k.toNat n).map D.int)) := by
  rw [List.map_replicate]
  exact bin_rep1 h0 h1
theorem XT.eq {k k' : Bool} (h : XT X e S k) (q : k = k') : XT X e S k' := q ▸ h
end
end DL

set_option Elab.async false
set_option linter.all false
set_option maxRecDepth 100000
set_option maxHeartbeats 2000000
/-! DLc: statements, loops, comprehensions, defs. -/
namespace DL
open PySem L2

/-- what is wanted behind a block -/
structure Po where
  nx : Sg → Prop
  rt : Sl → Prop
  bk : Sg → Prop := fun _ => False
  ct : Sg → Prop := fun _ => False
def ends (X : Cx) (F0 H0 : Hp) (P : Po) : Ends where
  nx := fun σ H => ∃ F S, Wb X.K F0 H0 F H σ S ∧ S.length = X.N.length ∧ P.nx S
  rt := fun v H => ∃ F r, Tr F0 H0 F H ∧ VR X.K H0 F H v r ∧ P.rt r
  bk := fun σ H => ∃ F S, Wb X.K F0 H0 F H σ S ∧ S.length = X.N.length ∧ P.bk S
  ct := fun σ H => ∃ F S, Wb X.K F0 H0 F H σ S ∧ S.length = X.N.length ∧ P.ct S
section
variable (X : Cx)
def XSs (sts : List Stmt) (S : Sg) (P : Po) : Prop := ∀ (pins : List (Addr × Obj)) (s : Shared) (σ : St) (H F F0 H0 : Hp), Inv X pins σ H s → Wb X.K F0 H0 F H σ S → S.length = X.N.length →
  wpAny (model X.prog X.w) X.A (execs sts X.env) (SP X pins (ends X F0 H0 P)) X.xe s
/-- from one set of wishes to another -/
structure To (F0 H0 : Hp) (P : Po) (D : Ends) : Prop where
  nx : ∀ σ H F S, Wb X.K F0 H0 F H σ S → S.length = X.N.length → P.nx S → D.nx σ H
  rt : ∀ v H F r, Tr F0 H0 F H → VR X.K H0 F H v r → P.rt r → D.rt v H
  bk : ∀ σ H F S, Wb X.K F0 H0 F H σ S → S.length = X.N.length → P.bk S → D.bk σ H
  ct : ∀ σ H F S, Wb X.K F0 H0 F H σ S → S.length = X.N.length → P.ct S → D.ct σ H
def tS (sts : List Stmt) : TS := fun D σ H => ∃ S P F F0 H0, XSs X sts S P ∧ Wb X.K F0 H0 F H σ S ∧ S.length = X.N.length ∧ To X F0 H0 P D
end
section
variable {X : Cx} {S : Sg} {P : Po} {sts rest : List Stmt} {st : Stmt} {pos : Pos}
theorem SP_imp {pins : List (Addr × Obj)} {F0 H0 : Hp} {D : Ends} (k : To X F0 H0 P D) {f : Flow} {s' : Shared} (h : SP X pins (ends X F0 H0 P) f s') : SP X pins D f s' := by
  cases f with
  | next => obtain ⟨σ', H', I, F, S, w, l, q⟩ := h; exact ⟨σ', H', I, k.nx _ _ _ _ w l q⟩
  | brk => obtain ⟨σ', H', I, F, S, w, l, q⟩ := h; exact ⟨σ', H', I, k.bk _ _ _ _ w l q⟩
  | cont => obtain ⟨σ', H', I, F, S, w, l, q⟩ := h; exact ⟨σ', H', I, k.ct _ _ _ _ w l q⟩
  | ret u => obtain ⟨v, σ', H', I, r, F, z, t, w, q⟩ := h; exact ⟨v, σ', H', I, r, k.rt _ _ _ _ t w q⟩
theorem pss_tS : PSs X sts (tS X sts) := ⟨fun pins s σ H D I ⟨S, P, F, F0, H0, h, w, l, k⟩ => thn (h pins s σ H F F0 H0 I w l) fun f s' q => SP_imp k q⟩
theorem xs_of {t : TS} (p : PSs X sts t) (h : ∀ σ H F F0 H0, Wb X.K F0 H0 F H σ S → S.length = X.N.length → t (ends X F0 H0 P) σ H) : XSs X sts S P := fun pins s σ H F F0 H0 I w l => p.run pins s σ H _ I (h σ H F F0 H0 w l)
theorem To.self {F0 H0 : Hp} : To X F0 H0 P (ends X F0 H0 P) := ⟨fun σ H F S w l q => ⟨F, S, w, l, q⟩, fun v H F r t w q => ⟨F, r, t, w, q⟩, fun σ H F S w l q => ⟨F, S, w, l, q⟩, fun σ H F S w l q => ⟨F, S, w, l, q⟩⟩
theorem tS_go {σ : St} {H F F0 H0 : Hp} {D : Ends} (h : XSs X sts S P) (w : Wb X.K F0 H0 F H σ S) (l : S.length = X.N.length) (k : To X F0 H0 P D) : tS X sts D σ H := ⟨S, P, F, F0, H0, h, w, l, k⟩
theorem tS_self {σ : St} {H F F0 H0 : Hp} (h : XSs X sts S P) (w : Wb X.K F0 H0 F H σ S) (l : S.length = X.N.length) : tS X sts (ends X F0 H0 P) σ H := tS_go h w l .self
theorem XSs.imp {P' : Po} (h : XSs X sts S P) (k1 : ∀ S, P.nx S → P'.nx S) (k2 : ∀ r, P.rt r → P'.rt r) (k3 : ∀ S, P.bk S → P'.bk S) (k4 : ∀ S, P.ct S → P'.ct S) : XSs X sts S P' :=
  xs_of pss_tS fun σ H F F0 H0 w l => tS_go h w l ⟨fun σ H F S w l q => ⟨F, S, w, l, k1 _ q⟩, fun v H F r t w q => ⟨F, r, t, w, k2 _ q⟩, fun σ H F S w l q => ⟨F, S, w, l, k3 _ q⟩, fun σ H F S w l q => ⟨F, S, w, l, k4 _ q⟩⟩
theorem Wb.init {K : PySem.W.Frag} {F H : Hp} {σ : St} (w : Wf K F H σ S) (h : ∀ (i : Nat) (ds : List D), S[i]? ≠ some (Sl.ow ds)) (h2 : ∀ (i : Nat) (ks : List (List Int)), S[i]? ≠ some (Sl.od ks)) : Wb K F H F H σ S := ⟨w, .refl w.fh, fun {i ds l} a _ => absurd a (h i ds), fun {i ds l} a _ => absurd a (h2 i ds)⟩
theorem lt_N {i : Nat} {x : Str} (hi : X.N[i]? = some x) (l : S.length = X.N.length) : i < S.length := by rw [l]; exact lt_of_get hi
/-- an own list elsewhere is no new one -/
theorem Wb.other {K : PySem.W.Frag} {F0 H0 F H : Hp} {σ : St} (w : Wb K F0 H0 F H σ S) {p : Addr} (hp : H p = none) {j : Nat} {es : List D} {m : Addr} (a : S[j]? = some (.ow es)) (b : σ[j]? = some (some (.ref m))) : m ≠ p := fun z => by
  obtain ⟨l, xs, e1, _, e2, _⟩ := w.wf.ow a
  rw [b] at e1; cases e1
  rw [z, hp] at e2; cases e2

/-! ### plain statements -/
theorem xs_nil (h : P.nx S) : XSs X [] S P := xs_of pss_nil fun σ H F F0 H0 w l => ⟨F, S, w, l, h⟩
theorem xs_pass (h : XSs X rest S P) : XSs X (.Pass pos :: rest) S P := xs_of (pss_cons ps_pass pss_tS) fun σ H F F0 H0 w l => tS_self h w l
theorem xs_break (h : P.bk S) : XSs X (.Break pos :: rest) S P := xs_of (pss_cons ps_break pss_never) fun σ H F F0 H0 w l => ⟨F, S, w, l, h⟩
theorem xs_continue (h : P.ct S) : XSs X (.Continue pos :: rest) S P := xs_of (pss_cons ps_continue pss_never) fun σ H F F0 H0 w l => ⟨F, S, w, l, h⟩
variable {e a b c : Expr} {d x y z : D} {r : Sl} {ds : List D}
theorem VR.base {K : PySem.W.Frag} {F0 H0 F H F' H' : Hp} {v : V} (t : Tr F0 H0 F H) (h : VR K H F' H' v r) : VR K H0 F' H' v r := h.back (F := F0) t
theorem xs_ret (he : XE X e S r) (h : P.rt r) : XSs X (.Return (some e) pos :: rest) S P := xs_of (pss_cons (ps_ret pe_tE) pss_never) fun σ H F F0 H0 w l => tE_go he w.wf fun v F' H' t q => ⟨F', r, w.tr.trans t, q.base w.tr, h⟩
theorem xs_retN (h : P.rt (.im .non)) : XSs X (.Return none pos :: rest) S P := xs_of (pss_cons ps_retN pss_never) fun σ H F F0 H0 w l => ⟨F, .im .non, w.tr, .non, h⟩
/-- return of an own list -/
theorem xs_retO (i : Nat) {n : Str} {p : Pos} (hs : S[i]? = some (.ow ds)) (hN : X.N[i]? = some n) (hv : Vis X.env.scope n) (h : P.rt (.ow ds)) (hd : (n == ("__debug__" : Str)) = false := by decide) (hcd : (n == ("__classdict__" : Str)) = false := by decide) : XSs X (.Return (some (.Name n p)) pos :: rest) S P :=
  xs_of (pss_cons (ps_ret (pe_var hN hv hd hcd)) pss_never) fun σ H F F0 H0 w l => let ⟨m, xs, e1, e2, e3, e4⟩ := w.wf.ow hs; ⟨.ref m, e1, F, .ow ds, w.tr, ⟨m, xs, rfl, w.own hs e1, e2, e3, e4⟩, h⟩
theorem xs_set (i : Nat) {n : Str} {p' : Pos} (hN : X.N.Nodup) (hi : X.N[i]? = some n) (hx : Loc X.env.scope n) (he : XI X e S d) (k : XSs X rest (S.set i (.im d)) P) (hs : swapsWith e (some (.Name n p')) pos.line X.env = pure false := by rfl)
    (hf : X.fn n = true ∨ X.env.scope.names.lookup n = some .local := by first | exact .inl rfl | exact .inr rfl | assumption) : XSs X (.Assign [.Name n p'] e pos :: rest) S P :=
  xs_of (pss_cons (ps_set hN hi hx pe_tE hs hf) pss_tS) fun σ H F F0 H0 w l => tE_go he w.wf fun v F' H' t q => tS_self k ((w.step t).set_im (lt_N hi l) q) (by rw [List.length_set]; exact l)
theorem xs_setO (i : Nat) {n : Str} {p' : Pos} (hN : X.N.Nodup) (hi : X.N[i]? = some n) (hx : Loc X.env.scope n) (he : XE X e S (.ow ds)) (k : XSs X rest (S.set i (.ow ds)) P) (hs : swapsWith e (some (.Name n p')) pos.line X.env = pure false := by rfl)
    (hf : X.fn n = true ∨ X.env.scope.names.lookup n = some .local := by first | exact .inl rfl | exact .inr rfl | assumption) : XSs X (.Assign [.Name n p'] e pos :: rest) S P :=
  xs_of (pss_cons (ps_set hN hi hx pe_tE hs hf) pss_tS) fun σ H F F0 H0 w l => tE_go he w.wf fun v F' H' t ⟨p, xs, e1, e2, e3, e4, e5⟩ => by
    subst e1
    exact tS_self k ((w.step t).set_ow (lt_N hi l) (w.tr.hh.free e2) e3 e4 e5 fun a b => w.other e2 a b) (by rw [List.length_set]; exact l)
theorem xs_aug (i : Nat) {n : Str} {op : Operator} {f : Int → Int → Int} {p' : Pos} {u v : Int} (hs : S[i]? = some (.im (.int u))) (hN : X.N.Nodup) (hi : X.N[i]? = some n) (hx : Loc X.env.scope n) (ho : PIp X op (ipI f)) (he : XW X e S (.int v)) (k : XSs X rest (S.set i (.im (.int (f u v)))) P)
    (hf : X.fn n = true ∨ X.env.scope.names.lookup n = some .local := by first | exact .inl rfl | exact .inr rfl | assumption) : XSs X (.AugAssign (.Name n p') op e pos :: rest) S P :=
  xs_of (pss_cons (ps_aug hN hi hx pe_tW ho hf) pss_tS) fun σ H F F0 H0 w l => by
    obtain ⟨v', e1, e2⟩ := w.wf.im hs
    cases e2
    exact ⟨_, e1, tW_go he w.wf fun v F' H' t q => ⟨_, _, rfl, q.int, tS_self k ((w.step t).set_im (lt_N hi l) (.int _)) (by rw [List.length_set]; exact l)⟩⟩
/-- an expression as a statement -/
theorem xs_expr (he : XI X e S d) (k : XSs X rest S P) (hs : swapsWith e none pos.line X.env = pure false := by rfl) : XSs X (.Expr e pos :: rest) S P :=
  xs_of (pss_cons (ps_expr pe_tE hs) pss_tS) fun σ H F F0 H0 w l => tE_go he w.wf fun v F' H' t q => tS_self k (w.step t) l
/-- from now on the own list stays; a slot is forgotten -/
theorem xs_freeze (i : Nat) (hs : S[i]? = some (.ow ds)) (k : XSs X sts (S.set i (.im (.lst ds))) P) : XSs X sts S P :=
  xs_of pss_tS fun σ H F F0 H0 w l => by
    obtain ⟨F', w'⟩ := w.freeze hs
    exact tS_self k w' (by rw [List.length_set]; exact l)
theorem xs_drop (i : Nat) (k : XSs X sts (S.set i .no) P) : XSs X sts S P := xs_of pss_tS fun σ H F F0 H0 w l => tS_self k (w.drop i) (by rw [List.length_set]; exact l)

/-! ### own lists changed -/
theorem PE.name {i : Nat} {n : Str} {p : Pos} (hN : X.N[i]? = some n) (hv : Vis X.env.scope n) (hd : (n == ("__debug__" : Str)) = false := by decide) (hcd : (n == ("__classdict__" : Str)) = false := by decide) : PE X (.Name n p) (tVar i) := pe_var hN hv hd hcd
/-- xs.append(e) -/
theorem xs_append (i : Nat) {n : Str} {p p2 pos2 : Pos} (hs : S[i]? = some (.ow ds)) (hN : X.N[i]? = some n) (hv : Vis X.env.scope n) (he : XI X e S d) (hz : ds.length < 16777216) (k : XSs X rest (S.set i (.ow (ds ++ [d]))) P)
    (hd : (n == ("__debug__" : Str)) = false := by decide) (hcd : (n == ("__classdict__" : Str)) = false := by decide)
    (pe : ∀ {ta : TA}, PA X [e] ta → PE X (.Call (.Attribute (.Name n p) "append" p2) [e] [] pos2) (tBM X.K "list" rAppend (tVar i) ta) := by
      intro ta ha; exact pe_bm PySem.F.plainAttrs_list PySem.F.slot_list_append PySem.F.type_list_append mt_append (pv _) ha)
    (na : starEach [e] X.env = (false, eval e X.env) :: starEach [] X.env := by rfl)
    (hw : swapsWith (.Call (.Attribute (.Name n p) "append" p2) [e] [] pos2) none pos.line X.env = pure false := by rfl) : XSs X (.Expr (.Call (.Attribute (.Name n p) "append" p2) [e] [] pos2) pos :: rest) S P :=
  xs_of (pss_cons (ps_expr (pe (pa_cons pe_tE pa_nil na)) hw) pss_tS) fun σ H F F0 H0 w l => by
    obtain ⟨m, xs, e1, e2, e3, e4⟩ := w.wf.ow hs
    refine ⟨.ref m, e1, .inl ⟨rfl, xs, SqL.of e3⟩, tE_go he w.wf fun v F' H' t q => ?_⟩
    have w' := w.step t
    have h3 := t.hh _ _ e3
    exact ⟨m, xs, v, rfl, rfl, h3, szlt (by rw [e4.len]; exact hz), tS_self k (w'.put hs e1 ((e4.mono t.ff).app (.cons q .nil))) (by rw [List.length_set]; exact l)⟩
theorem ixN_nat {n : Nat} {j : Nat} (h : j < n) : ixN n (j : Int) = some j := by
  unfold ixN
  rw [if_pos (by omega), if_pos (by omega), Int.toNat_natCast]
/-- xs[i] = e -/
theorem xs_setItem (i : Nat) {n : Str} {p p2 : Pos} {j : Int} (hs : S[i]? = some (.ow ds)) (hN : X.N[i]? = some n) (hv : Vis X.env.scope n) (he : XI X e S d) (hj : XW X a S (.int j)) (h0 : 0 ≤ j) (h1 : j < ds.length) (k : XSs X rest (S.set i (.ow (ds.set j.toNat d))) P)
    (hd : (n == ("__debug__" : Str)) = false := by decide) (hcd : (n == ("__classdict__" : Str)) = false := by decide)
    (pe : ∀ {ti te : TE}, PE X a ti → PE X e te → PS X (.Assign [.Subscript (.Name n p) a p2] e pos) (tAsg te (gSub (tVar i) ti rSetL)) := by
      intro ti te h1 h2; exact ps_asg h2 (pg_sub (pv _) h1 set_list)) : XSs X (.Assign [.Subscript (.Name n p) a p2] e pos :: rest) S P :=
  xs_of (pss_cons (pe pe_tW pe_tE) pss_tS) fun σ H F F0 H0 w l => tE_go he w.wf fun v F1 H1 t1 q1 => by
    obtain ⟨m, xs, e1, e2, e3, e4⟩ := w.wf.ow hs
    refine ⟨.ref m, e1, tW_go hj (w.step t1).wf fun u F2 H2 t2 q2 => ?_⟩
    have w2 := (w.step t1).step t2
    have h3 := t2.hh _ _ (t1.hh _ _ e3)
    obtain ⟨jn, rfl⟩ : ∃ jn : Nat, j = jn := ⟨j.toNat, by omega⟩
    refine ⟨m, xs, (jn : Int), jn, rfl, q2.int, h3, ixN_nat (by rw [e4.len]; omega), ?_⟩
    exact tS_self k (w2.put hs e1 (DdAll.set (q1.mono t2.ff) jn ((e4.mono t1.ff).mono t2.ff))) (by rw [List.length_set]; exact l)
theorem xs_appendI (i : Nat) {ns : List Int} {v : Int} {n : Str} {p p2 pos2 : Pos} (hs : S[i]? = some (.ow (ns.map D.int))) (hN : X.N[i]? = some n) (hv : Vis X.env.scope n) (he : XI X e S (.int v)) (hz : ns.length < 16777216) (k : XSs X rest (S.set i (.ow ((ns ++ [v]).map D.int))) P)
    (hd : (n == ("__debug__" : Str)) = false := by decide) (hcd : (n == ("__classdict__" : Str)) = false := by decide)
    (pe : ∀ {ta : TA}, PA X [e] ta → PE X (.Call (.Attribute (.Name n p) "append" p2) [e] [] pos2) (tBM X.K "list" rAppend (tVar i) ta) := by
      intro ta ha; exact pe_bm PySem.F.plainAttrs_list PySem.F.slot_list_append PySem.F.type_list_append mt_append (pv _) ha)
    (na : starEach [e] X.env = (false, eval e X.env) :: starEach [] X.env := by rfl)
    (hw : swapsWith (.Call (.Attribute (.Name n p) "append" p2) [e] [] pos2) none pos.line X.env = pure false := by rfl) : XSs X (.Expr (.Call (.Attribute (.Name n p) "append" p2) [e] [] pos2) pos :: rest) S P :=
  xs_append i hs hN hv he (by rw [List.length_map]; exact hz) (by rw [List.map_append] at k; exact k) hd hcd pe na hw
theorem xs_setItemI (i : Nat) {ns : List Int} {v : Int} {n : Str} {p p2 : Pos} {j : Int} (hs : S[i]? = some (.ow (ns.map D.int))) (hN : X.N[i]? = some n) (hv : Vis X.env.scope n) (he : XI X e S (.int v)) (hj : XW X a S (.int j)) (h0 : 0 ≤ j) (h1 : j < ns.length) (k : XSs X rest (S.set i (.ow ((ns.set j.toNat v).map D.int))) P)
    (hd : (n == ("__debug__" : Str)) = false := by decide) (hcd : (n == ("__classdict__" : Str)) = false := by decide)
    (pe : ∀ {ti te : TE}, PE X a ti → PE X e te → PS X (.Assign [.Subscript (.Name n p) a p2] e pos) (tAsg te (gSub (tVar i) ti rSetL)) := by
      intro ti te h1 h2; exact ps_asg h2 (pg_sub (pv _) h1 set_list)) : XSs X (.Assign [.Subscript (.Name n p) a p2] e pos :: rest) S P :=
  xs_setItem i hs hN hv he hj h0 (by rw [List.length_map]; exact h1) (by rw [List.map_set] at k; exact k) hd hcd pe
/-- xs[i] += e, ints -/
def rGetL (K : PySem.W.Frag) : R2 := fun x y H Q => ∃ p xs i v, x = .ref p ∧ y = .int i ∧ SqL K H p xs ∧ 0 ≤ i ∧ xs[i.toNat]? = some v ∧ Q v H
theorem pget_list : PGet X (rGetL X.K) := by
  intro pins s σ H x y v u Q I rx ry h
  obtain ⟨p, xs, i, z, rfl, rfl, hq, h0, he, q⟩ := h
  cases rx
  obtain ⟨t, rfl⟩ := ry
  obtain ⟨its, r, pl, hz⟩ := I.list hq
  obtain ⟨w, ew, rw'⟩ := r.get he
  have hn := line63
  have hl := (List.getElem?_eq_some_iff.mp he).1
  exact wpAny_getItem_list pl.isList h0 (by omega) (by simpa using ew) ⟨z, H, I, rw', q⟩
theorem xs_augItem (i : Nat) {n : Str} {op : Operator} {f : Int → Int → Int} {p p2 : Pos} {j u v : Int} (hs : S[i]? = some (.ow ds)) (hN : X.N[i]? = some n) (hv : Vis X.env.scope n) (hj : XW X a S (.int j)) (h0 : 0 ≤ j) (hx : ds[j.toNat]? = some (.int u)) (ho : PIp X op (ipI f)) (he : XW X e S (.int v))
    (k : XSs X rest (S.set i (.ow (ds.set j.toNat (.int (f u v))))) P)
    (hd : (n == ("__debug__" : Str)) = false := by decide) (hcd : (n == ("__classdict__" : Str)) = false := by decide)
    (ha : ∀ ov iv new, augStore a ov iv new = (do holding [new, ov, iv] (setItem ov iv new); release [new, ov, iv] []; pure .next) := by intros; rfl) : XSs X (.AugAssign (.Subscript (.Name n p) a p2) op e pos :: rest) S P :=
  xs_of (pss_cons (ps_augS (PE.name hN hv hd hcd) pe_tW pget_list pe_tW ho set_list ha) pss_tS) fun σ H F F0 H0 w l => by
    obtain ⟨m, xs, e1, e2, e3, e4⟩ := w.wf.ow hs
    refine ⟨.ref m, e1, tW_go hj w.wf fun y F1 H1 t1 q1 => ?_⟩
    obtain ⟨x1, e5, e6⟩ := e4.get hx
    cases e6
    refine ⟨m, xs, j, .int u, rfl, q1.int, SqL.of (t1.hh _ _ e3), h0, e5, tW_go he (w.step t1).wf fun y2 F2 H2 t2 q2 => ?_⟩
    have w2 := (w.step t1).step t2
    have h3 := t2.hh _ _ (t1.hh _ _ e3)
    have hlt := lt_of_get e5
    obtain ⟨jn, rfl⟩ : ∃ jn : Nat, j = jn := ⟨j.toNat, by omega⟩
    refine ⟨u, v, rfl, q2.int, m, xs, (jn : Int), jn, rfl, q1.int, h3, ixN_nat (by simpa using hlt), ?_⟩
    exact tS_self k (w2.put hs e1 (DdAll.set (.int _) jn ((e4.mono t1.ff).mono t2.ff))) (by rw [List.length_set]; exact l)
/-- h = xs.pop(i) -/
theorem xs_pop (i jh : Nat) {n nh : Str} {p p2 p3 ph : Pos} {j : Int} (hij : i ≠ jh) (hs : S[i]? = some (.ow ds)) (hN : X.N[i]? = some n) (hv : Vis X.env.scope n) (hj : XW X a S (.int j)) (h0 : 0 ≤ j) (hx : ds[j.toNat]? = some d) (hsz : ds.length ≤ 16777216)
    (hNd : X.N.Nodup) (hi : X.N[jh]? = some nh) (hxl : Loc X.env.scope nh) (k : XSs X rest ((S.set i (.ow (ds.eraseIdx j.toNat))).set jh (.im d)) P)
    (hd : (n == ("__debug__" : Str)) = false := by decide) (hcd : (n == ("__classdict__" : Str)) = false := by decide)
    (pe : ∀ {ta : TA}, PA X [a] ta → PE X (.Call (.Attribute (.Name n p) "pop" p2) [a] [] p3) (tBM X.K "list" rPopAt (tVar i) ta) := by
      intro ta ha; exact pe_bm PySem.F.plainAttrs_list PySem.F.slot_list_pop PySem.F.type_list_pop mt_popAt (pv _) ha)
    (na : starEach [a] X.env = (false, eval a X.env) :: starEach [] X.env := by rfl)
    (hw : swapsWith (.Call (.Attribute (.Name n p) "pop" p2) [a] [] p3) (some (.Name nh ph)) pos.line X.env = pure false := by rfl)
    (hf : X.fn nh = true ∨ X.env.scope.names.lookup nh = some .local := by first | exact .inl rfl | exact .inr rfl | assumption) : XSs X (.Assign [.Name nh ph] (.Call (.Attribute (.Name n p) "pop" p2) [a] [] p3) pos :: rest) S P :=
  xs_of (pss_cons (ps_set hNd hi hxl (pe (pa_cons pe_tW pa_nil na)) hw hf) pss_tS) fun σ H F F0 H0 w l => by
    obtain ⟨m, xs, e1, e2, e3, e4⟩ := w.wf.ow hs
    refine ⟨.ref m, e1, .inl ⟨rfl, xs, SqL.of e3⟩, tW_go hj w.wf fun v F' H' t q => ?_⟩
    have w' := w.step t
    have h3 := t.hh _ _ e3
    obtain ⟨y, e5, e6⟩ := e4.get hx
    have hlt := lt_of_get e5
    have hls := e4.len
    obtain ⟨jn, rfl⟩ : ∃ jn : Nat, j = jn := ⟨j.toNat, by omega⟩
    have e5' : xs[jn]? = some y := by simpa using e5
    have hlt' : jn < xs.length := lt_of_get e5'
    refine ⟨m, xs, (jn : Int), jn, y, rfl, by rw [q.int], h3, by omega, by omega, (ixN_seq (ixN_nat hlt')).1, e5', ?_⟩
    refine tS_self k ((w'.put hs e1 ((e4.mono t.ff).erase jn)).set_im (by rw [List.length_set]; exact lt_N hi l) (e6.mono t.ff)) (by rw [List.length_set, List.length_set]; exact l)

theorem xs_augItemI (i : Nat) {ns : List Int} {n : Str} {op : Operator} {f : Int → Int → Int} {p p2 : Pos} {j v : Int} (hs : S[i]? = some (.ow (ns.map D.int))) (hN : X.N[i]? = some n) (hv : Vis X.env.scope n) (hj : XW X a S (.int j)) (h0 : 0 ≤ j) (h1 : j < ns.length) (ho : PIp X op (ipI f)) (he : XW X e S (.int v))
    (k : XSs X rest (S.set i (.ow ((ns.set j.toNat (f (ns.getD j.toNat 0) v)).map D.int))) P)
    (hd : (n == ("__debug__" : Str)) = false := by decide) (hcd : (n == ("__classdict__" : Str)) = false := by decide)
    (ha : ∀ ov iv new, augStore a ov iv new = (do holding [new, ov, iv] (setItem ov iv new); release [new, ov, iv] []; pure .next) := by intros; rfl) : XSs X (.AugAssign (.Subscript (.Name n p) a p2) op e pos :: rest) S P := by
  have hx : (ns.map D.int)[j.toNat]? = some (.int (ns.getD j.toNat 0)) := by
    have h : j.toNat < ns.length := by omega
    rw [List.getElem?_map, List.getElem?_eq_getElem h, List.getD_eq_getElem?_getD, List.getElem?_eq_getElem h]
    rfl
  exact xs_augItem i hs hN hv hj h0 hx ho he (by rw [List.map_set] at k; exact k) hd hcd ha
/-- h = xs.pop(i), ints -/
theorem xs_popI (i jh : Nat) {ns : List Int} {n nh : Str} {p p2 p3 ph : Pos} {j : Int} (hij : i ≠ jh) (hs : S[i]? = some (.ow (ns.map D.int))) (hN : X.N[i]? = some n) (hv : Vis X.env.scope n) (hj : XW X a S (.int j)) (h0 : 0 ≤ j) (h1 : j < ns.length) (hsz : ns.length ≤ 16777216)
    (hNd : X.N.Nodup) (hi : X.N[jh]? = some nh) (hxl : Loc X.env.scope nh) (k : XSs X rest ((S.set i (.ow ((ns.eraseIdx j.toNat).map D.int))).set jh (.im (.int (ns.getD j.toNat 0)))) P)
    (hd : (n == ("__debug__" : Str)) = false := by decide) (hcd : (n == ("__classdict__" : Str)) = false := by decide)
    (pe : ∀ {ta : TA}, PA X [a] ta → PE X (.Call (.Attribute (.Name n p) "pop" p2) [a] [] p3) (tBM X.K "list" rPopAt (tVar i) ta) := by
      intro ta ha; exact pe_bm PySem.F.plainAttrs_list PySem.F.slot_list_pop PySem.F.type_list_pop mt_popAt (pv _) ha)
    (na : starEach [a] X.env = (false, eval a X.env) :: starEach [] X.env := by rfl)
    (hw : swapsWith (.Call (.Attribute (.Name n p) "pop" p2) [a] [] p3) (some (.Name nh ph)) pos.line X.env = pure false := by rfl)
    (hf : X.fn nh = true ∨ X.env.scope.names.lookup nh = some .local := by first | exact .inl rfl | exact .inr rfl | assumption) : XSs X (.Assign [.Name nh ph] (.Call (.Attribute (.Name n p) "pop" p2) [a] [] p3) pos :: rest) S P := by
  have hx : (ns.map D.int)[j.toNat]? = some (.int (ns.getD j.toNat 0)) := by
    have h : j.toNat < ns.length := by omega
    rw [List.getElem?_map, List.getElem?_eq_getElem h, List.getD_eq_getElem?_getD, List.getElem?_eq_getElem h]
    rfl
  have em : (ns.map D.int).eraseIdx j.toNat = (ns.eraseIdx j.toNat).map D.int := by
    generalize j.toNat = m
    clear hx h0 h1 hs hsz k
    induction ns generalizing m with
    | nil => rfl
    | cons x xs ih =>
      cases m with
      | zero => rfl
      | succ m => show D.int x :: (xs.map D.int).eraseIdx m = D.int x :: (xs.eraseIdx m).map D.int; rw [ih]
  exact xs_pop i jh hij hs hN hv hj h0 hx (by rw [List.length_map]; exact hsz) hNd hi hxl (by rw [em]; exact k) hd hcd pe na hw hf

/-! ### if, while -/
theorem xs_if {k : Bool} {M : Sg → Prop} {sa sb : List Stmt} (hc : XT X c S k) (ha : k = true → XSs X sa S { P with nx := M }) (hb : k = false → XSs X sb S { P with nx := M }) (hk : ∀ S', M S' → XSs X rest S' P) : XSs X (.If c sa sb pos :: rest) S P :=
  xs_of (pss_cons (ps_if pt_tT pss_tS pss_tS) pss_tS) fun σ H F F0 H0 w l => tT_go hc w.wf fun F1 H1 t1 => by
    have z : To X F0 H0 { P with nx := M } { ends X F0 H0 P with nx := tS X rest (ends X F0 H0 P) } :=
      ⟨fun σ H F S w l q => tS_self (hk S q) w l, fun v H F r t w q => ⟨F, r, t, w, q⟩, fun σ H F S w l q => ⟨F, S, w, l, q⟩, fun σ H F S w l q => ⟨F, S, w, l, q⟩⟩
    cases k with
    | true => exact iteT (tS_go (ha rfl) (w.step t1) l z)
    | false => exact iteF (tS_go (hb rfl) (w.step t1) l z)
/-- if that leaves where it holds -/
theorem xs_ifr {k : Bool} {sa : List Stmt} (hc : XT X c S k) (ha : k = true → XSs X sa S { P with nx := fun _ => False }) (hk : k = false → XSs X rest S P) : XSs X (.If c sa [] pos :: rest) S P :=
  xs_if (M := fun S' => k = false ∧ S' = S) hc (fun h => (ha h).imp (fun _ z => z.elim) (fun _ z => z) (fun _ z => z) (fun _ z => z)) (fun h => xs_nil ⟨h, rfl⟩) (fun S' ⟨h, e⟩ => e ▸ hk h)
theorem xs_while {M : Sg → Prop} {body : List Stmt} (I : Nat → Sg → Prop) (m0 : Nat) (h0 : I m0 S)
    (hs : ∀ m S', I m S' → ∃ k, XT X c S' k ∧ (k = true → XSs X body S' { nx := fun S2 => ∃ m', m' < m ∧ I m' S2, rt := P.rt, bk := M, ct := fun S2 => ∃ m', m' < m ∧ I m' S2 }) ∧ (k = false → M S'))
    (hk : ∀ S', M S' → XSs X rest S' P) (hp : PassesOwn (model X.prog X.w) X.A X.env X.xe := by exact PassesOwn.never) : XSs X (.While c body [] pos :: rest) S P :=
  xs_of (pss_cons (ps_while hp pt_tT pss_tS) pss_tS) fun σ H F F0 H0 w l => by
    refine ⟨fun m σ' H' => ∃ F' S', Wb X.K F0 H0 F' H' σ' S' ∧ S'.length = X.N.length ∧ I m S', ⟨m0, F, S, w, l, h0⟩, ?_⟩
    rintro m σ' H' ⟨F', S', w', l', i'⟩
    obtain ⟨k, hc, h1, h2⟩ := hs m S' i'
    refine tT_go hc w'.wf fun F1 H1 t1 => ?_
    cases k with
    | true =>
      refine iteT ⟨fun σ2 H2 => ∃ F2 S2, Wb X.K F0 H0 F2 H2 σ2 S2 ∧ S2.length = X.N.length ∧ ∃ m', m' < m ∧ I m' S2, fun σ2 H2 ⟨F2, S2, w2, l2, m', hm, i2⟩ => ⟨m', hm, F2, S2, w2, l2, i2⟩, ?_⟩
      exact tS_go (h1 rfl) (w'.step t1) l' ⟨fun σ H F S w l q => ⟨F, S, w, l, q⟩, fun v H F r t w q => ⟨F, r, t, w, q⟩, fun σ H F S w l q => tS_self (hk S q) w l, fun σ H F S w l q => ⟨F, S, w, l, q⟩⟩
    | false => exact iteF (tS_self (hk S' (h2 rfl)) (w'.step t1) l')

/-! ### targets -/
/-- the target takes the data gd a: u tells the slots behind -/
def XG {α : Type} (X : Cx) (tg : Expr) (gd : α → D) (u : α → Sg → Sg) : Prop := ∃ g, PG X tg g ∧ ∀ (a : α) (v : V) (σ : St) (H F F0 H0 : Hp) (S : Sg), Wb X.K F0 H0 F H σ S → S.length = X.N.length → Dd X.K F v (gd a) →
  (u a S).length = X.N.length ∧ ∀ Q : St → Hp → Prop, (∀ σ2, Wb X.K F0 H0 F H σ2 (u a S) → Q σ2 H) → g v σ H Q
theorem xg_name {α : Type} {gd : α → D} (j : Nat) {n : Str} {p : Pos} (hN : X.N.Nodup) (hi : X.N[j]? = some n) (hx : Loc X.env.scope n) (hf : X.fn n = true ∨ X.env.scope.names.lookup n = some .local := by first | exact .inl rfl | exact .inr rfl | assumption) :
    XG X (.Name n p) gd (fun a S => S.set j (.im (gd a))) :=
  ⟨gName j, pg_name hN hi hx hf, fun a v σ H F F0 H0 S w l h => ⟨by rw [List.length_set]; exact l, fun Q q => q _ (w.set_im (lt_N hi l) h)⟩⟩
theorem xg_pair {α : Type} {d1 d2 : α → D} (j1 j2 : Nat) {n1 n2 : Str} {p1 p2 p : Pos} {x1} (hc : X.calm = true) (hN : X.N.Nodup) (hi1 : X.N[j1]? = some n1) (hi2 : X.N[j2]? = some n2) (hx1 : Loc X.env.scope n1) (hx2 : Loc X.env.scope n2)
    (pg : PG X (.Tuple [.Name n1 p1, .Name n2 p2] x1 p) (gTup X.K 2 (gCons (gName j1) (gCons (gName j2) gNil)))) :
    XG X (.Tuple [.Name n1 p1, .Name n2 p2] x1 p) (fun a => .tup [d1 a, d2 a]) (fun a S => (S.set j1 (.im (d1 a))).set j2 (.im (d2 a))) :=
  ⟨_, pg, fun a v σ H F F0 H0 S w l h => ⟨by rw [List.length_set, List.length_set]; exact l, fun Q q => by
    cases h with
    | tup h1 h2 =>
      cases h2 with
      | cons a1 h2 =>
        cases h2 with
        | cons a2 h2 =>
          cases h2
          refine ⟨_, _, rfl, SqT.of (w.wf.fh _ _ h1), rfl, _, _, rfl, _, _, rfl, rfl, ?_⟩
          exact q _ ((w.set_im (lt_N hi1 l) a1).set_im (by rw [List.length_set]; exact lt_N hi2 l) a2)⟩⟩
theorem xg_three {α : Type} {d1 d2 d3 : α → D} (j1 j2 j3 : Nat) {n1 n2 n3 : Str} {p1 p2 p3 p : Pos} {x1} (hc : X.calm = true) (hN : X.N.Nodup) (hi1 : X.N[j1]? = some n1) (hi2 : X.N[j2]? = some n2) (hi3 : X.N[j3]? = some n3)
    (pg : PG X (.Tuple [.Name n1 p1, .Name n2 p2, .Name n3 p3] x1 p) (gTup X.K 3 (gCons (gName j1) (gCons (gName j2) (gCons (gName j3) gNil))))) :
    XG X (.Tuple [.Name n1 p1, .Name n2 p2, .Name n3 p3] x1 p) (fun a => .tup [d1 a, d2 a, d3 a]) (fun a S => ((S.set j1 (.im (d1 a))).set j2 (.im (d2 a))).set j3 (.im (d3 a))) :=
  ⟨_, pg, fun a v σ H F F0 H0 S w l h => ⟨by rw [List.length_set, List.length_set, List.length_set]; exact l, fun Q q => by
    cases h with
    | tup h1 h2 =>
      cases h2 with
      | cons a1 h2 =>
        cases h2 with
        | cons a2 h2 =>
          cases h2 with
          | cons a3 h2 =>
            cases h2
            refine ⟨_, _, rfl, SqT.of (w.wf.fh _ _ h1), rfl, _, _, rfl, _, _, rfl, _, _, rfl, rfl, ?_⟩
            exact q _ (((w.set_im (lt_N hi1 l) a1).set_im (by rw [List.length_set]; exact lt_N hi2 l) a2).set_im (by rw [List.length_set, List.length_set]; exact lt_N hi3 l) a3)⟩⟩
/-- tg = e, the value a tuple that is there -/
theorem xs_asg {tg : Expr} {gd : Unit → D} {u : Unit → Sg → Sg} (he : XI X e S (gd ())) (hg : XG X tg gd u) (k : XSs X rest (u () S) P) (hs : swapsWithSole [tg] e pos.line X.env = pure false := by rfl) (hw : swappedStores [tg] e X.env = pure none := by rfl)
    (h1 : (assignEach [tg] X.env).map (·.2) = [assign tg X.env] := by rfl) : XSs X (.Assign [tg] e pos :: rest) S P := by
  obtain ⟨g, pg, hg⟩ := hg
  refine xs_of (pss_cons (ps_asg pe_tE pg hs hw h1) pss_tS) fun σ H F F0 H0 w l => tE_go he w.wf fun v F' H' t q => ?_
  obtain ⟨l2, k2⟩ := hg () v σ H' F' F0 H0 S (w.step t) l q
  exact k2 _ fun σ2 w2 => tS_self k w2 l2
/-- a, b = x, y -/
theorem xs_par (i j : Nat) {n m : Str} {px py pt : Pos} {kt k2 pt2} (hc : X.calm = true) (hN : X.N.Nodup) (hi : X.N[i]? = some n) (hj : X.N[j]? = some m) (hij : i ≠ j)
    (hx : X.env.scope.names.lookup n = some .local) (hy : X.env.scope.names.lookup m = some .local) (ha : XA X [a, b] S [x, y]) (k : XSs X rest ((S.set i (.im x)).set j (.im y)) P)
    (hw : swappedStores [.Tuple [.Name n px, .Name m py] kt pt] (.Tuple [a, b] k2 pt2) X.env = pure (some [n, m]) := by rfl)
    (hs : swapsWithSole [.Tuple [.Name n px, .Name m py] kt pt] (.Tuple [a, b] k2 pt2) pos.line X.env = pure false := by rfl) :
    XSs X (.Assign [.Tuple [.Name n px, .Name m py] kt pt] (.Tuple [a, b] k2 pt2) pos :: rest) S P :=
  xs_of (pss_cons (ps_par hc hN hi hj hij hx hy pa_tA hw hs) pss_tS) fun σ H F F0 H0 w l => tA_go ha w.wf fun vs F' H' t q => by
    cases q with
    | cons a1 q =>
      cases q with
      | cons a2 q =>
        cases q
        exact ⟨_, _, rfl, tS_self k (((w.step t).set_im (lt_N hi l) a1).set_im (by rw [List.length_set]; exact lt_N hj l) a2) (by rw [List.length_set, List.length_set]; exact l)⟩

/-! ### what is walked -/
/-- the walk J over as, from the frozen part F1 on -/
structure Wk {α : Type} (X : Cx) (F1 : Hp) (J : It) (g : TG) (as : List α) (u : α → Sg → Sg) : Prop where
  stop : ∀ (H F : Hp), Same F1 F → Same F H → ∀ i, i = as.length → J.stop i H
  go : ∀ (H F : Hp), Same F1 F → Same F H → ∀ i, i < as.length → J.go i H
  yld : ∀ (i : Nat) (a : α) (σ : St) (H F F0 H0 : Hp) (S : Sg) (x : V) (H' : Hp), as[i]? = some a → Same F1 F → Wb X.K F0 H0 F H σ S → S.length = X.N.length → J.yld i H x H' →
    (u a S).length = X.N.length ∧ ∀ Q : St → Hp → Prop, (∀ σ2 F2 H2, Tr F H F2 H2 → Wb X.K F0 H0 F2 H2 σ2 (u a S) → Q σ2 H2) → g x σ H' Q
def XF {α : Type} (X : Cx) (tg iter : Expr) (S : Sg) (as : List α) (u : α → Sg → Sg) : Prop := ∃ wi g, PI X tg iter wi ∧ PG X tg g ∧ ∀ (σ : St) (H F : Hp), Wf X.K F H σ S → ∀ R : It → Hp → Prop,
  (∀ J F1 H1, Tr F H F1 H1 → Wk X F1 J g as u → R J H1) → wi σ H R
theorem Wk.list {α : Type} {F1 : Hp} {p : Addr} {xs : List V} {as : List α} {gd : α → D} {u : α → Sg → Sg} {g : TG} (h1 : F1 p = some (.lst xs)) (h2 : DdAll X.K F1 xs (as.map gd))
    (hg : ∀ (a : α) (v : V) (σ : St) (H F F0 H0 : Hp) (S : Sg), Wb X.K F0 H0 F H σ S → S.length = X.N.length → Dd X.K F v (gd a) → (u a S).length = X.N.length ∧ ∀ Q : St → Hp → Prop, (∀ σ2, Wb X.K F0 H0 F H σ2 (u a S) → Q σ2 H) → g v σ H Q) : Wk X F1 (Itl X.K p) g as u := by
  have ln : xs.length = as.length := by rw [h2.len, List.length_map]
  refine ⟨fun H F e1 e2 i hi => ⟨xs, SqL.of (e2 _ _ (e1 _ _ h1)), by omega⟩, fun H F e1 e2 i hi => ⟨xs, xs[i], SqL.of (e2 _ _ (e1 _ _ h1)), by simp [ln, hi]⟩, fun i a σ H F F0 H0 S x H' ha e1 w l y => ?_⟩
  obtain ⟨rfl, y⟩ := y
  have hx := y xs (SqL.of (w.wf.fh _ _ (e1 _ _ h1)))
  obtain ⟨d, hd, hv⟩ := h2.get' hx
  rw [List.getElem?_map, ha] at hd
  cases hd
  obtain ⟨l2, k2⟩ := hg a x σ H' F F0 H0 S w l (hv.mono e1)
  exact ⟨l2, fun Q q => k2 Q fun σ2 w2 => q σ2 F H' (.refl w.wf.fh) w2⟩
theorem Wk.tup {α : Type} {F1 : Hp} {p : Addr} {xs : List V} {as : List α} {gd : α → D} {u : α → Sg → Sg} {g : TG} (h1 : F1 p = some (.tup xs)) (h2 : DdAll X.K F1 xs (as.map gd))
    (hg : ∀ (a : α) (v : V) (σ : St) (H F F0 H0 : Hp) (S : Sg), Wb X.K F0 H0 F H σ S → S.length = X.N.length → Dd X.K F v (gd a) → (u a S).length = X.N.length ∧ ∀ Q : St → Hp → Prop, (∀ σ2, Wb X.K F0 H0 F H σ2 (u a S) → Q σ2 H) → g v σ H Q) : Wk X F1 (Itt X.K p) g as u := by
  have ln : xs.length = as.length := by rw [h2.len, List.length_map]
  refine ⟨fun H F e1 e2 i hi => ⟨xs, SqT.of (e2 _ _ (e1 _ _ h1)), by omega⟩, fun H F e1 e2 i hi => ⟨xs, xs[i], SqT.of (e2 _ _ (e1 _ _ h1)), by simp [ln, hi]⟩, fun i a σ H F F0 H0 S x H' ha e1 w l y => ?_⟩
  obtain ⟨rfl, y⟩ := y
  have hx := y xs (SqT.of (w.wf.fh _ _ (e1 _ _ h1)))
  obtain ⟨d, hd, hv⟩ := h2.get' hx
  rw [List.getElem?_map, ha] at hd
  cases hd
  obtain ⟨l2, k2⟩ := hg a x σ H' F F0 H0 S w l (hv.mono e1)
  exact ⟨l2, fun Q q => k2 Q fun σ2 w2 => q σ2 F H' (.refl w.wf.fh) w2⟩
theorem xf_list {α : Type} {tg iter : Expr} {as : List α} {gd : α → D} {u : α → Sg → Sg} (h : XI X iter S (.lst (as.map gd))) (hg : XG X tg gd u) : XF X tg iter S as u := by
  obtain ⟨g, pg, hg⟩ := hg
  refine ⟨_, g, pi_list pe_tE, pg, fun σ H F w R k => tE_go h w fun v F1 H1 t1 z1 => ?_⟩
  have z1 : Dd X.K F1 v (.lst (as.map gd)) := z1
  cases z1 with
  | lst h1 h2 => exact ⟨_, rfl, ⟨_, SqL.of (t1.fh _ _ h1)⟩, k _ F1 H1 t1 (.list h1 h2 hg)⟩
theorem xf_tup {α : Type} {tg iter : Expr} {as : List α} {gd : α → D} {u : α → Sg → Sg} (h : XI X iter S (.tup (as.map gd))) (hg : XG X tg gd u) : XF X tg iter S as u := by
  obtain ⟨g, pg, hg⟩ := hg
  refine ⟨_, g, pi_tup pe_tE, pg, fun σ H F w R k => tE_go h w fun v F1 H1 t1 z1 => ?_⟩
  have z1 : Dd X.K F1 v (.tup (as.map gd)) := z1
  cases z1 with
  | tup h1 h2 => exact ⟨_, rfl, ⟨_, SqT.of (t1.fh _ _ h1)⟩, k _ F1 H1 t1 (.tup h1 h2 hg)⟩
theorem Wk.range {F1 : Hp} {lo : Int} {n : Nat} {u : Nat → Sg → Sg} {g : TG}
    (hg : ∀ (a : Nat) (v : V) (σ : St) (H F F0 H0 : Hp) (S : Sg), Wb X.K F0 H0 F H σ S → S.length = X.N.length → Dd X.K F v (.int (lo + (a : Int))) → (u a S).length = X.N.length ∧ ∀ Q : St → Hp → Prop, (∀ σ2, Wb X.K F0 H0 F H σ2 (u a S) → Q σ2 H) → g v σ H Q) : Wk X F1 (Itr lo n) g (List.range n) u := by
  refine ⟨fun H F e1 e2 i hi => by show n ≤ i; rw [hi, List.length_range]; exact Nat.le_refl _, fun H F e1 e2 i hi => by show i < n; rw [List.length_range] at hi; exact hi, fun i a σ H F F0 H0 S x H' ha e1 w l y => ?_⟩
  obtain ⟨rfl, rfl⟩ := y
  have ea : i = a := by
    have := List.getElem?_eq_some_iff.mp ha
    obtain ⟨q, e⟩ := this
    rw [List.getElem_range] at e
    exact e
  subst ea
  obtain ⟨l2, k2⟩ := hg i _ σ H' F F0 H0 S w l (.int _)
  exact ⟨l2, fun Q q => k2 Q fun σ2 w2 => q σ2 F H' (.refl w.wf.fh) w2⟩
theorem xf_range1 {tg : Expr} {n : Int} {u : Nat → Sg → Sg} {p : Pos} (ha : XW X a S (.int n)) (hb : n < 2 ^ 62) (hb0 : -(2 ^ 62) ≤ n) (hg : XG X tg (fun k : Nat => D.int (k : Int)) u) (hgl : Gl X "range") (hm : X.mg "range" = none)
    (na : starEach [a] X.env = [(false, eval a X.env)] := by rfl) : XF X tg (.Call (.Name "range" p) [a] [] pos) S (List.range n.toNat) u := by
  obtain ⟨g, pg, hg⟩ := hg
  refine ⟨_, g, pi_range1 hgl hm (pa_cons pe_tW pa_nil na) na, pg, fun σ H F w R k => tW_go ha w fun v F1 H1 t1 z1 => ?_⟩
  exact ⟨n, by rw [z1.int], hb0, hb, k _ F1 H1 t1 (.range fun a v σ H F F0 H0 S w l h => hg a v σ H F F0 H0 S w l (by rw [Int.zero_add] at h; exact h))⟩
theorem xf_range2 {tg : Expr} {lo n : Int} {u : Nat → Sg → Sg} {p : Pos} (ha : XW X a S (.int lo)) (hb : XW X b S (.int n)) (h1 : -(2 ^ 62) ≤ lo ∧ lo < 2 ^ 62 ∧ -(2 ^ 62) ≤ n ∧ n < 2 ^ 62) (hg : XG X tg (fun k : Nat => D.int (lo + (k : Int))) u) (hgl : Gl X "range") (hm : X.mg "range" = none)
    (na : starEach [a, b] X.env = [(false, eval a X.env), (false, eval b X.env)] := by rfl) (nb : starEach [b] X.env = [(false, eval b X.env)] := by rfl) : XF X tg (.Call (.Name "range" p) [a, b] [] pos) S (List.range (n - lo).toNat) u := by
  obtain ⟨g, pg, hg⟩ := hg
  refine ⟨_, g, pi_range2 hgl hm (pa_cons pe_tW (pa_cons pe_tW pa_nil nb) (na.trans (by rw [nb]))) na nb, pg, fun σ H F w R k => tW_go ha w fun v F1 H1 t1 z1 => tW_go hb (w.step t1) fun v2 F2 H2 t2 z2 => ?_⟩
  exact ⟨lo, n, by rw [z1.int, z2.int], h1, k _ F2 H2 (t1.trans t2) (.range hg)⟩
/-- the base may take in what stays since -/
theorem Wb.rebase {K : PySem.W.Frag} {F0 H0 F1 F H : Hp} {σ : St} (w : Wb K F0 H0 F H σ S) (e0 : Same F0 F1) (e1 : Same F1 F) : Wb K F1 H0 F H σ S :=
  ⟨w.wf, ⟨e1, w.tr.hh, w.tr.fh, fun a o h => (w.tr.nw a o h).imp (e0 a o) id⟩, w.own, w.ond⟩
theorem Wb.unbase {K : PySem.W.Frag} {F0 H0 F1 H1 F H : Hp} {σ : St} (w : Wb K F1 H0 F H σ S) (t : Tr F0 H0 F1 H1) : Wb K F0 H0 F H σ S :=
  ⟨w.wf, ⟨t.ff.trans w.tr.ff, w.tr.hh, w.tr.fh, fun a o h => (w.tr.nw a o h).elim (fun z => t.nw a o z) .inr⟩, w.own, w.ond⟩
theorem xs_for {α : Type} {M : Sg → Prop} {tg iter : Expr} {body : List Stmt} {as : List α} {u : α → Sg → Sg} (hf : XF X tg iter S as u) (I : Nat → Sg → Prop) (h0 : I 0 S)
    (hs : ∀ (i : Nat) (a : α) (S' : Sg), as[i]? = some a → I i S' → XSs X body (u a S') { nx := I (i + 1), rt := P.rt, bk := M, ct := I (i + 1) }) (hd : ∀ S', I as.length S' → M S') (hk : ∀ S', M S' → XSs X rest S' P) (hc : X.calm = true)
    (hp : PassesOwn (model X.prog X.w) X.A X.env X.xe := by exact PassesOwn.never) (hfs : ∀ x, foldedSetIterable iter X.env x = pure x := by intro _; rfl) : XSs X (.For tg iter body [] pos :: rest) S P := by
  obtain ⟨wi, g, pi, pg, hw⟩ := hf
  refine xs_of (pss_cons (ps_for hp hc pi pg pss_tS hfs) pss_tS) fun σ H F F0 H0 w l => hw σ H F w.wf _ fun J F1 H1 t1 wk => ?_
  have w1 := w.step t1
  have t01 := w1.tr
  refine ⟨fun i m σ' H' => m = as.length - i ∧ i ≤ as.length ∧ ∃ F' S', Wb X.K F1 H0 F' H' σ' S' ∧ S'.length = X.N.length ∧ I i S', ⟨_, rfl, Nat.zero_le _, F1, S, w1.rebase t01.ff (Same.refl _), l, h0⟩, ?_⟩
  rintro i m σ' H' ⟨rfl, hi, F', S', w', l', i'⟩
  by_cases hlt : i < as.length
  · refine .inr ⟨wk.go H' F' w'.tr.ff w'.wf.fh i hlt, fun σ2 H2 => ∃ F2 S2, Wb X.K F1 H0 F2 H2 σ2 S2 ∧ S2.length = X.N.length ∧ I (i + 1) S2, fun σ2 H2 q => ⟨as.length - (i + 1), by omega, rfl, hlt, q⟩, fun x H2 y => ?_⟩
    obtain ⟨l2, k2⟩ := wk.yld i as[i] σ' H' F' F1 H0 S' x H2 (by simp) w'.tr.ff w' l' y
    refine k2 _ fun σ3 F3 H3 t3 w3 => ?_
    exact tS_go (hs i as[i] S' (by simp) i') w3 l2 ⟨fun σ H F S w l q => ⟨F, S, w, l, q⟩, fun v H F r t w q => ⟨F, r, ⟨t01.ff.trans t.ff, t.hh, t.fh, fun a o h => (t.nw a o h).elim (fun z => t01.nw a o z) .inr⟩, w, q⟩,
      fun σ H F S w l q => tS_self (hk S q) (w.unbase t01) l, fun σ H F S w l q => ⟨F, S, w, l, q⟩⟩
  · have e : i = as.length := by omega
    subst e
    exact .inl ⟨wk.stop H' F' w'.tr.ff w'.wf.fh _ rfl, tS_self (hk S' (hd S' i')) (w'.unbase t01) l'⟩
end
end DL

set_option Elab.async false
set_option linter.all false
set_option maxRecDepth 100000
set_option maxHeartbeats 2000000
/-! DLd: list comprehensions; defs and their promises. -/
namespace DL
open PySem L2
section
variable {X : Cx} {S : Sg} {P : Po} {sts rest : List Stmt} {st : Stmt} {pos : Pos} {e a b c : Expr} {d x y z : D} {r : Sl} {ds : List D}

/-! ### [elt for tg in iter if ..] -/
/-- the block's own names are forgotten -/
def fgt (S : Sg) : List Nat → Sg
  | [] => S
  | j :: js => (fgt S js).set j .no
theorem Wf.drop {K : PySem.W.Frag} {F H : Hp} {σ : St} (w : Wf K F H σ S) (j : Nat) : Wf K F H (σ.set j none) (S.set j .no) where
  fh := w.fh
  len := by rw [List.length_set, List.length_set]; exact w.len
  im := fun {i e} q => by
    rcases set_get q with ⟨rfl, z⟩ | ⟨n, z⟩
    · cases z
    · rw [List.getElem?_set_ne n]; exact w.im z
  ow := fun {i e} q => by
    rcases set_get q with ⟨rfl, z⟩ | ⟨n, z⟩
    · cases z
    · rw [List.getElem?_set_ne n]; exact w.ow z
  sep := fun {i k ds es l} a b c d => by
    rcases set_get a with ⟨rfl, z⟩ | ⟨n, z⟩
    · cases z
    · rcases set_get b with ⟨rfl, z'⟩ | ⟨n', z'⟩
      · cases z'
      · rw [List.getElem?_set_ne n] at c; rw [List.getElem?_set_ne n'] at d; exact w.sep z z' c d
  od := fun {i e} q => by
    rcases set_get q with ⟨rfl, z⟩ | ⟨n, z⟩
    · cases z
    · rw [List.getElem?_set_ne n]; exact w.od z
  sed := fun {i k ds es l} a b c d => by
    rcases set_get a with ⟨rfl, z⟩ | ⟨n, z⟩
    · cases z
    · rcases set_get b with ⟨rfl, z'⟩ | ⟨n', z'⟩
      · cases z'
      · rw [List.getElem?_set_ne n] at c; rw [List.getElem?_set_ne n'] at d; exact w.sed z z' c d
theorem Wf.wipe {K : PySem.W.Frag} {F H : Hp} {σ : St} (w : Wf K F H σ S) : ∀ vs : List Nat, Wf K F H (L2.wipe σ vs) (fgt S vs)
  | [] => w
  | j :: vs => by
    show Wf K F H ((L2.wipe σ vs).set j none) ((fgt S vs).set j .no)
    exact (Wf.wipe w vs).drop j
theorem fgt_length : ∀ vs : List Nat, (fgt S vs).length = S.length
  | [] => rfl
  | j :: vs => by
    show ((fgt S vs).set j .no).length = S.length
    rw [List.length_set, fgt_length vs]
/-- what holds in every block of the comprehension -/
abbrev Blk (X : Cx) (scope : Scope) (Φ : Cx → Prop) : Prop := ∀ (s : Shared) (H : Hp) (C : Addr) (cl : List (Str × Addr)) (fp : List Addr), Φ (X.blk s H scope (compEnvC scope cl C X.env) fp)
def mE (X : Cx) (scope : Scope) (e : Expr) : TE := fun σ H Q => Blk X scope fun Y => tE Y e σ H Q
def mT (X : Cx) (scope : Scope) (e : Expr) : TT := fun σ H Q => Blk X scope fun Y => tT Y e σ H Q
theorem pe_mE {scope : Scope} {e : Expr} (s : Shared) (H : Hp) (C : Addr) (cl : List (Str × Addr)) (fp : List Addr) : PE (X.blk s H scope (compEnvC scope cl C X.env) fp) e (mE X scope e) :=
  ⟨fun pins s' σ H' Q I h => pe_tE.run pins s' σ H' Q I (h s H C cl fp)⟩
theorem pt_mT {scope : Scope} {e : Expr} (s : Shared) (H : Hp) (C : Addr) (cl : List (Str × Addr)) (fp : List Addr) : PT (X.blk s H scope (compEnvC scope cl C X.env) fp) e (mT X scope e) :=
  ⟨fun pins s' σ H' Q I h => pt_tT.run pins s' σ H' Q I (h s H C cl fp)⟩
/-- the element in every block, the context let go: one reading's meet needs that all have the same end -/
theorem mE_go {scope : Scope} {σ : St} {H F : Hp} {Q : VK} (h : Blk X scope fun Y => XE Y e S r) (w : Wf X.K F H σ S) (k : ∀ v F' H', Tr F H F' H' → VR X.K H F' H' v r → Q v H') : mE X scope e σ H Q := fun s H1 C cl fp => tE_go (h s H1 C cl fp) w k
theorem mT_go {scope : Scope} {σ : St} {H F : Hp} {k : Bool} {Q : Bool → Hp → Prop} (h : Blk X scope fun Y => XT Y e S k) (w : Wf X.K F H σ S) (q : ∀ F' H', Tr F H F' H' → Q k H') : mT X scope e σ H Q := fun s H1 C cl fp => tT_go (h s H1 C cl fp) w q

/-- what a comprehension walks: the same walks, the target in the block -/
structure Wc {α : Type} (X : Cx) (F1 : Hp) (J : It) (g : TG) (vs : List Nat) (as : List α) (u : α → Sg → Sg) : Prop where
  stop : ∀ (H : Hp), Same F1 H → ∀ i, i = as.length → J.stop i H
  go : ∀ (H : Hp), Same F1 H → ∀ i, i < as.length → J.go i H
  yld : ∀ (i : Nat) (a : α) (σ : St) (H F : Hp) (S : Sg) (x : V) (H' : Hp), as[i]? = some a → Same F1 F → Wf X.K F H σ S → S.length = X.N.length → J.yld i H x H' →
    ∀ Q : St → Hp → Prop, (∀ σ2 F2 H2, Tr F H F2 H2 → Wf X.K F2 H2 σ2 (u a S) → L2.wipe σ2 vs = L2.wipe σ vs → Q σ2 H2) → g x σ H' Q
/-- [elt for ..]: the list made -/
theorem lc_go {α : Type} {scope : Scope} {elt : Expr} {tt : TT} {wi : TI} {g : TG} {vs : List Nat} {as : List α} {u : α → Sg → Sg} {p : α → Bool} {f : α → D} {σ : St} {H F : Hp} {Q : VK}
    (w : Wf X.K F H σ S) (l : S.length = X.N.length) (hsz : as.length < 16777216)
    (hw : ∀ R : It → Hp → Prop, (∀ J F1 H1, Tr F H F1 H1 → Wc X F1 J g vs as u → R J H1) → wi σ H R)
    (ht : ∀ a ∈ as, ∀ (σ : St) (H F : Hp), Wf X.K F H σ (u a (fgt S vs)) → ∀ Q : Bool → Hp → Prop, (∀ F' H', Tr F H F' H' → Q (p a) H') → tt σ H Q)
    (he : ∀ a ∈ as, p a = true → Blk X scope fun Y => XI Y elt (u a (fgt S vs)) (f a))
    (hvs : ∀ σ' : St, L2.wipe (L2.wipe σ' vs) vs = L2.wipe σ' vs)
    (k : ∀ v F' H', Tr F H F' H' → VR X.K H F' H' v (.ow ((as.filter p).map f)) → Q v H') : tLc wi g tt (mE X scope elt) vs σ H Q := by
  refine hw _ fun J F1 H1 t1 wk D hD => ?_
  refine ⟨fun i m H' => m = as.length - i ∧ i ≤ as.length ∧ ∃ F', Tr F1 H1 F' H' ∧ F' D = none ∧ ∃ xs, H' D = some (.lst xs) ∧ DdAll X.K F' xs (((as.take i).filter p).map f), ⟨_, rfl, Nat.zero_le _, F1, .own t1.fh hD, t1.fh.free hD, [], upd_same, .nil⟩, ?_⟩
  rintro i m H' ⟨rfl, hi, F', t', fD, xs, hx, hxs⟩
  by_cases hlt : i < as.length
  · refine .inr ⟨wk.go H' (t'.ff.trans t'.fh) i hlt, fun H2 => i + 1 ≤ as.length ∧ ∃ F2, Tr F1 H1 F2 H2 ∧ F2 D = none ∧ ∃ xs, H2 D = some (.lst xs) ∧ DdAll X.K F2 xs (((as.take (i + 1)).filter p).map f), fun H2 q => ⟨as.length - (i + 1), by omega, rfl, q⟩, fun x H2 y => ?_⟩
    have w1 : Wf X.K F' H' σ S := (w.step t1).step t'
    have w2 := Wf.wipe w1 vs
    refine wk.yld i as[i] (L2.wipe σ vs) H' F' (fgt S vs) x H2 (by simp) t'.ff w2 (by rw [fgt_length]; exact l) y _ fun σ2 F2 H3 t2 w3 ew => ⟨by rw [ew]; exact hvs σ, ?_⟩
    have hm : as[i] ∈ as := List.getElem_mem hlt
    have tk : as.take (i + 1) = as.take i ++ [as[i]] := List.take_succ_eq_append_getElem hlt
    refine ht _ hm σ2 H3 F2 w3 _ fun F3 H4 t3 => ?_
    cases hp : p as[i] with
    | true =>
      refine iteT (mE_go (he _ hm hp) (w3.step t3) fun v F4 H5 t4 q4 => ?_)
      have t5 := ((t2.trans t3).trans t4)
      refine ⟨xs, t5.hh _ _ hx, ?_, hlt, F4, ?_, t5.out hx fD, _, upd_same, ?_⟩
      · have e1 := hxs.len
        rw [List.length_map] at e1
        have e2 : ((as.take i).filter p).length ≤ (as.take i).length := List.length_filter_le _ _
        rw [List.length_take] at e2
        exact szlt (by omega)
      · have t6 := t'.trans t5
        have fl := t5.out hx fD
        refine ⟨t6.ff, fun b o q => ?_, fun b o q => ?_, t6.nw⟩
        · have n : b ≠ D := fun z => by rw [z, hD] at q; cases q
          rw [upd_ne n]; exact t6.hh _ _ q
        · have n : b ≠ D := fun z => by rw [z, fl] at q; cases q
          rw [upd_ne n]; exact t6.fh _ _ q
      · rw [tk, List.filter_append, List.map_append, List.filter_cons, if_pos hp, List.filter_nil]
        exact (hxs.mono t5.ff).app (.cons q4 .nil)
    | false =>
      have t5 := t2.trans t3
      refine iteF ⟨hlt, F3, t'.trans t5, t5.out hx fD, xs, t5.hh _ _ hx, ?_⟩
      rw [tk, List.filter_append, List.map_append, List.filter_cons, hp, if_neg Bool.false_ne_true, List.filter_nil]
      simpa using hxs.mono t5.ff
  · have e : i = as.length := by omega
    subst e
    rw [List.take_length] at hxs
    exact .inl ⟨wk.stop H' (t'.ff.trans t'.fh) _ rfl, k _ F' H' (t1.trans t') ⟨D, xs, rfl, t1.hh.free hD, fD, hx, hxs⟩⟩
/-! the targets of a comprehension: names of the block -/
def XGc {α : Type} (X : Cx) (scope : Scope) (tg : Expr) (gd : α → D) (vs : List Nat) (u : α → Sg → Sg) : Prop := ∃ g, (Blk X scope fun Y => PG Y tg g) ∧ ∀ (a : α) (v : V) (σ : St) (H F : Hp) (S : Sg), Wf X.K F H σ S → S.length = X.N.length → Dd X.K F v (gd a) →
  ∀ Q : St → Hp → Prop, (∀ σ2, Wf X.K F H σ2 (u a S) → L2.wipe σ2 vs = L2.wipe σ vs → Q σ2 H) → g v σ H Q
theorem wipe_set {σ : St} {j : Nat} {v : Option V} : ∀ {vs : List Nat}, j ∈ vs → L2.wipe (σ.set j v) vs = L2.wipe σ vs
  | [], h => by cases h
  | i :: vs, h => by
    show (L2.wipe (σ.set j v) vs).set i none = (L2.wipe σ vs).set i none
    by_cases hm : j ∈ vs
    · rw [wipe_set hm]
    · have e : j = i := by
        rcases List.mem_cons.mp h with q | q
        · exact q
        · exact absurd q hm
      subst e
      have z : ∀ (τ : St) (vs : List Nat), j ∉ vs → (L2.wipe (τ.set j v) vs) = (L2.wipe τ vs).set j v := by
        intro τ vs
        induction vs with
        | nil => intro _; rfl
        | cons q vs ih =>
          intro hn
          have h1 : j ≠ q := fun y => hn (by rw [y]; exact List.mem_cons_self)
          have h2 : j ∉ vs := fun y => hn (List.mem_cons_of_mem _ y)
          show (L2.wipe (τ.set j v) vs).set q none = ((L2.wipe τ vs).set q none).set j v
          rw [ih h2, List.set_comm _ _ h1]
      rw [z σ vs hm, List.set_set]
theorem xgc_name {α : Type} {scope : Scope} {gd : α → D} (j : Nat) {n : Str} {p : Pos} {vs : List Nat} (hj : j ∈ vs) (hi : X.N[j]? = some n) (pg : Blk X scope fun Y => PG Y (.Name n p) (gName j)) : XGc X scope (.Name n p) gd vs (fun a S => S.set j (.im (gd a))) :=
  ⟨gName j, pg, fun a v σ H F S w l h Q q => q _ (w.set_im (lt_N hi l) h) (wipe_set hj)⟩
theorem xgc_pair {α : Type} {scope : Scope} {d1 d2 : α → D} (j1 j2 : Nat) {n1 n2 : Str} {tg : Expr} {vs : List Nat} (hj1 : j1 ∈ vs) (hj2 : j2 ∈ vs) (hi1 : X.N[j1]? = some n1) (hi2 : X.N[j2]? = some n2) (pg : Blk X scope fun Y => PG Y tg (gTup X.K 2 (gCons (gName j1) (gCons (gName j2) gNil)))) :
    XGc X scope tg (fun a => .tup [d1 a, d2 a]) vs (fun a S => (S.set j1 (.im (d1 a))).set j2 (.im (d2 a))) :=
  ⟨_, pg, fun a v σ H F S w l h Q q => by
    cases h with
    | tup h1 h2 =>
      cases h2 with
      | cons a1 h2 =>
        cases h2 with
        | cons a2 h2 =>
          cases h2
          refine ⟨_, _, rfl, SqT.of (w.fh _ _ h1), rfl, _, _, rfl, _, _, rfl, rfl, ?_⟩
          exact q _ ((w.set_im (lt_N hi1 l) a1).set_im (by rw [List.length_set]; exact lt_N hi2 l) a2) (by rw [wipe_set hj2, wipe_set hj1])⟩
theorem xgc_three {α : Type} {scope : Scope} {d1 d2 d3 : α → D} (j1 j2 j3 : Nat) {n1 n2 n3 : Str} {tg : Expr} {vs : List Nat} (hj1 : j1 ∈ vs) (hj2 : j2 ∈ vs) (hj3 : j3 ∈ vs) (hi1 : X.N[j1]? = some n1) (hi2 : X.N[j2]? = some n2) (hi3 : X.N[j3]? = some n3)
    (pg : Blk X scope fun Y => PG Y tg (gTup X.K 3 (gCons (gName j1) (gCons (gName j2) (gCons (gName j3) gNil))))) :
    XGc X scope tg (fun a => .tup [d1 a, d2 a, d3 a]) vs (fun a S => ((S.set j1 (.im (d1 a))).set j2 (.im (d2 a))).set j3 (.im (d3 a))) :=
  ⟨_, pg, fun a v σ H F S w l h Q q => by
    cases h with
    | tup h1 h2 =>
      cases h2 with
      | cons a1 h2 =>
        cases h2 with
        | cons a2 h2 =>
          cases h2 with
          | cons a3 h2 =>
            cases h2
            refine ⟨_, _, rfl, SqT.of (w.fh _ _ h1), rfl, _, _, rfl, _, _, rfl, _, _, rfl, rfl, ?_⟩
            exact q _ (((w.set_im (lt_N hi1 l) a1).set_im (by rw [List.length_set]; exact lt_N hi2 l) a2).set_im (by rw [List.length_set, List.length_set]; exact lt_N hi3 l) a3) (by rw [wipe_set hj3, wipe_set hj2, wipe_set hj1])⟩
/-- what is walked by a comprehension -/
def XFc {α : Type} (X : Cx) (scope : Scope) (tg iter : Expr) (S : Sg) (vs : List Nat) (as : List α) (u : α → Sg → Sg) : Prop := ∃ wi g, PI X tg iter wi ∧ (Blk X scope fun Y => PG Y tg g) ∧ ∀ (σ : St) (H F : Hp), Wf X.K F H σ S → ∀ R : It → Hp → Prop,
  (∀ J F1 H1, Tr F H F1 H1 → Wc X F1 J g vs as u → R J H1) → wi σ H R
theorem Wc.list {α : Type} {F1 : Hp} {p : Addr} {xs : List V} {as : List α} {gd : α → D} {u : α → Sg → Sg} {g : TG} {vs : List Nat} (h1 : F1 p = some (.lst xs)) (h2 : DdAll X.K F1 xs (as.map gd))
    (hg : ∀ (a : α) (v : V) (σ : St) (H F : Hp) (S : Sg), Wf X.K F H σ S → S.length = X.N.length → Dd X.K F v (gd a) → ∀ Q : St → Hp → Prop, (∀ σ2, Wf X.K F H σ2 (u a S) → L2.wipe σ2 vs = L2.wipe σ vs → Q σ2 H) → g v σ H Q) : Wc X F1 (Itl X.K p) g vs as u := by
  have ln : xs.length = as.length := by rw [h2.len, List.length_map]
  refine ⟨fun H e i hi => ⟨xs, SqL.of (e _ _ h1), by omega⟩, fun H e i hi => ⟨xs, xs[i], SqL.of (e _ _ h1), by simp [ln, hi]⟩, fun i a σ H F S x H' ha e1 w l y Q q => ?_⟩
  obtain ⟨rfl, y⟩ := y
  have hx := y xs (SqL.of (w.fh _ _ (e1 _ _ h1)))
  obtain ⟨d, hd, hv⟩ := h2.get' hx
  rw [List.getElem?_map, ha] at hd
  cases hd
  exact hg a x σ H' F S w l (hv.mono e1) Q fun σ2 w2 ew => q σ2 F H' (.refl w.fh) w2 ew
theorem Wc.tup {α : Type} {F1 : Hp} {p : Addr} {xs : List V} {as : List α} {gd : α → D} {u : α → Sg → Sg} {g : TG} {vs : List Nat} (h1 : F1 p = some (.tup xs)) (h2 : DdAll X.K F1 xs (as.map gd))
    (hg : ∀ (a : α) (v : V) (σ : St) (H F : Hp) (S : Sg), Wf X.K F H σ S → S.length = X.N.length → Dd X.K F v (gd a) → ∀ Q : St → Hp → Prop, (∀ σ2, Wf X.K F H σ2 (u a S) → L2.wipe σ2 vs = L2.wipe σ vs → Q σ2 H) → g v σ H Q) : Wc X F1 (Itt X.K p) g vs as u := by
  have ln : xs.length = as.length := by rw [h2.len, List.length_map]
  refine ⟨fun H e i hi => ⟨xs, SqT.of (e _ _ h1), by omega⟩, fun H e i hi => ⟨xs, xs[i], SqT.of (e _ _ h1), by simp [ln, hi]⟩, fun i a σ H F S x H' ha e1 w l y Q q => ?_⟩
  obtain ⟨rfl, y⟩ := y
  have hx := y xs (SqT.of (w.fh _ _ (e1 _ _ h1)))
  obtain ⟨d, hd, hv⟩ := h2.get' hx
  rw [List.getElem?_map, ha] at hd
  cases hd
  exact hg a x σ H' F S w l (hv.mono e1) Q fun σ2 w2 ew => q σ2 F H' (.refl w.fh) w2 ew
theorem Wc.range {F1 : Hp} {lo : Int} {n : Nat} {u : Nat → Sg → Sg} {g : TG} {vs : List Nat}
    (hg : ∀ (a : Nat) (v : V) (σ : St) (H F : Hp) (S : Sg), Wf X.K F H σ S → S.length = X.N.length → Dd X.K F v (.int (lo + (a : Int))) → ∀ Q : St → Hp → Prop, (∀ σ2, Wf X.K F H σ2 (u a S) → L2.wipe σ2 vs = L2.wipe σ vs → Q σ2 H) → g v σ H Q) : Wc X F1 (Itr lo n) g vs (List.range n) u := by
  refine ⟨fun H e i hi => by show n ≤ i; rw [hi, List.length_range]; exact Nat.le_refl _, fun H e i hi => by show i < n; rw [List.length_range] at hi; exact hi, fun i a σ H F S x H' ha e1 w l y Q q => ?_⟩
  obtain ⟨rfl, rfl⟩ := y
  have ea : i = a := by
    obtain ⟨q, e⟩ := List.getElem?_eq_some_iff.mp ha
    rw [List.getElem_range] at e
    exact e
  subst ea
  exact hg i _ σ H' F S w l (.int _) Q fun σ2 w2 ew => q σ2 F H' (.refl w.fh) w2 ew
theorem xfc_list {α : Type} {scope : Scope} {tg iter : Expr} {as : List α} {gd : α → D} {vs : List Nat} {u : α → Sg → Sg} (h : XI X iter S (.lst (as.map gd))) (hg : XGc X scope tg gd vs u) : XFc X scope tg iter S vs as u := by
  obtain ⟨g, pg, hg⟩ := hg
  refine ⟨_, g, pi_list pe_tE, pg, fun σ H F w R k => tE_go h w fun v F1 H1 t1 z1 => ?_⟩
  have z1 : Dd X.K F1 v (.lst (as.map gd)) := z1
  cases z1 with
  | lst h1 h2 => exact ⟨_, rfl, ⟨_, SqL.of (t1.fh _ _ h1)⟩, k _ F1 H1 t1 (.list h1 h2 hg)⟩
theorem xfc_tup {α : Type} {scope : Scope} {tg iter : Expr} {as : List α} {gd : α → D} {vs : List Nat} {u : α → Sg → Sg} (h : XI X iter S (.tup (as.map gd))) (hg : XGc X scope tg gd vs u) : XFc X scope tg iter S vs as u := by
  obtain ⟨g, pg, hg⟩ := hg
  refine ⟨_, g, pi_tup pe_tE, pg, fun σ H F w R k => tE_go h w fun v F1 H1 t1 z1 => ?_⟩
  have z1 : Dd X.K F1 v (.tup (as.map gd)) := z1
  cases z1 with
  | tup h1 h2 => exact ⟨_, rfl, ⟨_, SqT.of (t1.fh _ _ h1)⟩, k _ F1 H1 t1 (.tup h1 h2 hg)⟩
theorem xfc_range1 {scope : Scope} {tg : Expr} {n : Int} {vs : List Nat} {u : Nat → Sg → Sg} {p : Pos} (ha : XW X a S (.int n)) (hb : n < 2 ^ 62) (hb0 : -(2 ^ 62) ≤ n) (hg : XGc X scope tg (fun k : Nat => D.int (k : Int)) vs u) (hgl : Gl X "range") (hm : X.mg "range" = none)
    (na : starEach [a] X.env = [(false, eval a X.env)] := by rfl) : XFc X scope tg (.Call (.Name "range" p) [a] [] pos) S vs (List.range n.toNat) u := by
  obtain ⟨g, pg, hg⟩ := hg
  refine ⟨_, g, pi_range1 hgl hm (pa_cons pe_tW pa_nil na) na, pg, fun σ H F w R k => tW_go ha w fun v F1 H1 t1 z1 => ?_⟩
  exact ⟨n, by rw [z1.int], hb0, hb, k _ F1 H1 t1 (.range fun a v σ H F S w l h => hg a v σ H F S w l (by rw [Int.zero_add] at h; exact h))⟩
theorem xfc_range2 {scope : Scope} {tg : Expr} {lo n : Int} {vs : List Nat} {u : Nat → Sg → Sg} {p : Pos} (ha : XW X a S (.int lo)) (hb : XW X b S (.int n)) (h1 : -(2 ^ 62) ≤ lo ∧ lo < 2 ^ 62 ∧ -(2 ^ 62) ≤ n ∧ n < 2 ^ 62) (hg : XGc X scope tg (fun k : Nat => D.int (lo + (k : Int))) vs u) (hgl : Gl X "range") (hm : X.mg "range" = none)
    (na : starEach [a, b] X.env = [(false, eval a X.env), (false, eval b X.env)] := by rfl) (nb : starEach [b] X.env = [(false, eval b X.env)] := by rfl) : XFc X scope tg (.Call (.Name "range" p) [a, b] [] pos) S vs (List.range (n - lo).toNat) u := by
  obtain ⟨g, pg, hg⟩ := hg
  refine ⟨_, g, pi_range2 hgl hm (pa_cons pe_tW (pa_cons pe_tW pa_nil nb) (na.trans (by rw [nb]))) na nb, pg, fun σ H F w R k => tW_go ha w fun v F1 H1 t1 z1 => tW_go hb (w.step t1) fun v2 F2 H2 t2 z2 => ?_⟩
  exact ⟨lo, n, by rw [z1.int, z2.int], h1, k _ F2 H2 (t1.trans t2) (.range hg)⟩
theorem wipe_twice (vs : List Nat) (σ : St) : L2.wipe (L2.wipe σ vs) vs = L2.wipe σ vs := by
  have z : ∀ (us : List Nat), (∀ j ∈ us, j ∈ vs) → ∀ τ : St, L2.wipe (L2.wipe τ us) vs = L2.wipe τ vs := by
    intro us
    induction us with
    | nil => intro _ τ; rfl
    | cons j us ih =>
      intro h τ
      show L2.wipe ((L2.wipe τ us).set j none) vs = L2.wipe τ vs
      rw [wipe_set (h j List.mem_cons_self)]
      exact ih (fun i hi => h i (List.mem_cons_of_mem _ hi)) τ
  exact z vs (fun _ h => h) σ
theorem xe_lc {α : Type} {elt tg iter : Expr} {scope : Scope} {own : List (Str × Nat)} {as : List α} {u : α → Sg → Sg} (f : α → D) (l : S.length = X.N.length) (hc : X.calm = true) (hN : X.N.Nodup) (hf : XFc X scope tg iter S (own.map (·.2)) as u) (ok : BlkOk X.N X.env.scope scope own) (hsz : as.length < 16777216)
    (he : ∀ a ∈ as, Blk X scope fun Y => XI Y elt (u a (fgt S (own.map (·.2)))) (f a)) (hfs : ∀ x, foldedSetIterable iter X.env x = pure x := by intro _; rfl) : XE X (.ListComp elt [⟨tg, iter, [], 0⟩] scope pos) S (.ow (as.map f)) := by
  obtain ⟨wi, g, pi, pg, hw⟩ := hf
  refine xe_of (pe_lc hc hN pi ok pg (fun _ _ _ _ _ => pts_nil) pe_mE hfs) fun σ H F w => ?_
  refine lc_go (p := fun _ => true) (f := f) w l hsz (hw σ H F w) (fun a _ σ H F w Q q => q F H (.refl w.fh)) (fun a ha _ => he a ha) (wipe_twice _) fun v F' H' t q => ⟨F', t, ?_⟩
  have e : as.filter (fun _ => true) = as := List.filter_eq_self.mpr fun _ _ => rfl
  rw [e] at q
  exact q
theorem xe_lcIf {α : Type} {elt tg iter t1 : Expr} {scope : Scope} {own : List (Str × Nat)} {as : List α} {u : α → Sg → Sg} (p : α → Bool) (f : α → D) (l : S.length = X.N.length) (hc : X.calm = true) (hN : X.N.Nodup) (hf : XFc X scope tg iter S (own.map (·.2)) as u) (ok : BlkOk X.N X.env.scope scope own) (hsz : as.length < 16777216)
    (ht : ∀ a ∈ as, Blk X scope fun Y => XT Y t1 (u a (fgt S (own.map (·.2)))) (p a))
    (he : ∀ a ∈ as, p a = true → Blk X scope fun Y => XI Y elt (u a (fgt S (own.map (·.2)))) (f a)) (hfs : ∀ x, foldedSetIterable iter X.env x = pure x := by intro _; rfl) : XE X (.ListComp elt [⟨tg, iter, [t1], 0⟩] scope pos) S (.ow ((as.filter p).map f)) := by
  obtain ⟨wi, g, pi, pg, hw⟩ := hf
  refine xe_of (pe_lc hc hN pi ok pg (fun s H C cl fp => pts_one (pt_mT s H C cl fp)) pe_mE hfs) fun σ H F w => ?_
  exact lc_go (p := p) (f := f) w l hsz (hw σ H F w) (fun a ha σ H F w Q q => mT_go (ht a ha) w q) he (wipe_twice _) fun v F' H' t q => ⟨F', t, q⟩
/-- y = [..] -/
theorem xs_lc {α : Type} {elt tg iter : Expr} {scope : Scope} {own : List (Str × Nat)} {as : List α} {u : α → Sg → Sg} (i : Nat) {y : Str} {py : Pos} {p2 : Pos} (f : α → D) (l : S.length = X.N.length) (hc : X.calm = true) (hN : X.N.Nodup) (hy : X.N[i]? = some y) (hyl : X.env.scope.names.lookup y = some .local)
    (hf : XFc X scope tg iter S (own.map (·.2)) as u) (ok : BlkOk X.N X.env.scope scope own) (hsz : as.length < 16777216)
    (he : ∀ a ∈ as, Blk X scope fun Y => XI Y elt (u a (fgt S (own.map (·.2)))) (f a)) (k : XSs X rest (S.set i (.ow (as.map f))) P)
    (hsw : swapsWith (.ListComp elt [⟨tg, iter, [], 0⟩] scope p2) (some (.Name y py)) pos.line X.env = pure true) (hfs : ∀ x, foldedSetIterable iter X.env x = pure x := by intro _; rfl) : XSs X (.Assign [.Name y py] (.ListComp elt [⟨tg, iter, [], 0⟩] scope p2) pos :: rest) S P := by
  obtain ⟨wi, g, pi, pg, hw⟩ := hf
  refine xs_of (pss_cons (ps_setLc hc hN hy hyl hsw pi ok pg (fun _ _ _ _ _ => pts_nil) pe_mE hfs) pss_tS) fun σ H F F0 H0 w l => ?_
  show tLc wi g tYes (mE X scope elt) (own.map (·.2)) σ H fun x H1 => tS X rest (ends X F0 H0 P) (σ.set i (some x)) H1
  refine lc_go (p := fun _ => true) (f := f) w.wf l hsz (hw σ H F w.wf) (fun a _ σ H F w Q q => q F H (.refl w.fh)) (fun a ha _ => he a ha) (wipe_twice _) fun v F' H' t q => ?_
  have e : as.filter (fun _ => true) = as := List.filter_eq_self.mpr fun _ _ => rfl
  rw [e] at q
  obtain ⟨p, xs, e1, e2, e3, e4, e5⟩ := q
  subst e1
  exact tS_self k ((w.step t).set_ow (lt_N hy l) (w.tr.hh.free e2) e3 e4 e5 fun a b => w.other e2 a b) (by rw [List.length_set]; exact l)
theorem xs_lcIf {α : Type} {elt tg iter t1 : Expr} {scope : Scope} {own : List (Str × Nat)} {as : List α} {u : α → Sg → Sg} (i : Nat) {y : Str} {py : Pos} {p2 : Pos} (p : α → Bool) (f : α → D) (l : S.length = X.N.length) (hc : X.calm = true) (hN : X.N.Nodup) (hy : X.N[i]? = some y) (hyl : X.env.scope.names.lookup y = some .local)
    (hf : XFc X scope tg iter S (own.map (·.2)) as u) (ok : BlkOk X.N X.env.scope scope own) (hsz : as.length < 16777216)
    (ht : ∀ a ∈ as, Blk X scope fun Y => XT Y t1 (u a (fgt S (own.map (·.2)))) (p a))
    (he : ∀ a ∈ as, p a = true → Blk X scope fun Y => XI Y elt (u a (fgt S (own.map (·.2)))) (f a)) (k : XSs X rest (S.set i (.ow ((as.filter p).map f))) P)
    (hsw : swapsWith (.ListComp elt [⟨tg, iter, [t1], 0⟩] scope p2) (some (.Name y py)) pos.line X.env = pure true) (hfs : ∀ x, foldedSetIterable iter X.env x = pure x := by intro _; rfl) : XSs X (.Assign [.Name y py] (.ListComp elt [⟨tg, iter, [t1], 0⟩] scope p2) pos :: rest) S P := by
  obtain ⟨wi, g, pi, pg, hw⟩ := hf
  refine xs_of (pss_cons (ps_setLc hc hN hy hyl hsw pi ok pg (fun s H C cl fp => pts_one (pt_mT s H C cl fp)) pe_mE hfs) pss_tS) fun σ H F F0 H0 w l => ?_
  show tLc wi g (mT X scope t1) (mE X scope elt) (own.map (·.2)) σ H fun x H1 => tS X rest (ends X F0 H0 P) (σ.set i (some x)) H1
  refine lc_go (p := p) (f := f) w.wf l hsz (hw σ H F w.wf) (fun a ha σ H F w Q q => mT_go (ht a ha) w q) he (wipe_twice _) fun v F' H' t ⟨p, xs, e1, e2, e3, e4, e5⟩ => ?_
  subst e1
  exact tS_self k ((w.step t).set_ow (lt_N hy l) (w.tr.hh.free e2) e3 e4 e5 fun a b => w.other e2 a b) (by rw [List.length_set]; exact l)

/-! of ints -/
theorem xe_lcI {α : Type} {elt tg iter : Expr} {scope : Scope} {own : List (Str × Nat)} {as : List α} {u : α → Sg → Sg} (f : α → Int) (l : S.length = X.N.length) (hc : X.calm = true) (hN : X.N.Nodup) (hf : XFc X scope tg iter S (own.map (·.2)) as u) (ok : BlkOk X.N X.env.scope scope own) (hsz : as.length < 16777216)
    (he : ∀ a ∈ as, Blk X scope fun Y => XI Y elt (u a (fgt S (own.map (·.2)))) (.int (f a))) (hfs : ∀ x, foldedSetIterable iter X.env x = pure x := by intro _; rfl) : XE X (.ListComp elt [⟨tg, iter, [], 0⟩] scope pos) S (.ow ((as.map f).map D.int)) := by
  rw [List.map_map]
  exact xe_lc _ l hc hN hf ok hsz he hfs
theorem xe_lcB {α : Type} {elt tg iter : Expr} {scope : Scope} {own : List (Str × Nat)} {as : List α} {u : α → Sg → Sg} (f : α → Bool) (l : S.length = X.N.length) (hc : X.calm = true) (hN : X.N.Nodup) (hf : XFc X scope tg iter S (own.map (·.2)) as u) (ok : BlkOk X.N X.env.scope scope own) (hsz : as.length < 16777216)
    (he : ∀ a ∈ as, Blk X scope fun Y => XI Y elt (u a (fgt S (own.map (·.2)))) (.bl (f a))) (hfs : ∀ x, foldedSetIterable iter X.env x = pure x := by intro _; rfl) : XE X (.ListComp elt [⟨tg, iter, [], 0⟩] scope pos) S (.ow ((as.map f).map D.bl)) := by
  rw [List.map_map]
  exact xe_lc _ l hc hN hf ok hsz he hfs
theorem xe_lcIfI {α : Type} {elt tg iter t1 : Expr} {scope : Scope} {own : List (Str × Nat)} {as : List α} {u : α → Sg → Sg} (p : α → Bool) (f : α → Int) (l : S.length = X.N.length) (hc : X.calm = true) (hN : X.N.Nodup) (hf : XFc X scope tg iter S (own.map (·.2)) as u) (ok : BlkOk X.N X.env.scope scope own) (hsz : as.length < 16777216)
    (ht : ∀ a ∈ as, Blk X scope fun Y => XT Y t1 (u a (fgt S (own.map (·.2)))) (p a))
    (he : ∀ a ∈ as, p a = true → Blk X scope fun Y => XI Y elt (u a (fgt S (own.map (·.2)))) (.int (f a))) (hfs : ∀ x, foldedSetIterable iter X.env x = pure x := by intro _; rfl) : XE X (.ListComp elt [⟨tg, iter, [t1], 0⟩] scope pos) S (.ow (((as.filter p).map f).map D.int)) := by
  rw [List.map_map]
  exact xe_lcIf _ _ l hc hN hf ok hsz ht he hfs
theorem xs_lcI {α : Type} {elt tg iter : Expr} {scope : Scope} {own : List (Str × Nat)} {as : List α} {u : α → Sg → Sg} (i : Nat) {y : Str} {py : Pos} {p2 : Pos} (f : α → Int) (l : S.length = X.N.length) (hc : X.calm = true) (hN : X.N.Nodup) (hy : X.N[i]? = some y) (hyl : X.env.scope.names.lookup y = some .local)
    (hf : XFc X scope tg iter S (own.map (·.2)) as u) (ok : BlkOk X.N X.env.scope scope own) (hsz : as.length < 16777216)
    (he : ∀ a ∈ as, Blk X scope fun Y => XI Y elt (u a (fgt S (own.map (·.2)))) (.int (f a))) (k : XSs X rest (S.set i (.ow ((as.map f).map D.int))) P)
    (hsw : swapsWith (.ListComp elt [⟨tg, iter, [], 0⟩] scope p2) (some (.Name y py)) pos.line X.env = pure true) (hfs : ∀ x, foldedSetIterable iter X.env x = pure x := by intro _; rfl) : XSs X (.Assign [.Name y py] (.ListComp elt [⟨tg, iter, [], 0⟩] scope p2) pos :: rest) S P := by
  rw [List.map_map] at k
  exact xs_lc i _ l hc hN hy hyl hf ok hsz he k hsw hfs
theorem xs_lcIfI {α : Type} {elt tg iter t1 : Expr} {scope : Scope} {own : List (Str × Nat)} {as : List α} {u : α → Sg → Sg} (i : Nat) {y : Str} {py : Pos} {p2 : Pos} (p : α → Bool) (f : α → Int) (l : S.length = X.N.length) (hc : X.calm = true) (hN : X.N.Nodup) (hy : X.N[i]? = some y) (hyl : X.env.scope.names.lookup y = some .local)
    (hf : XFc X scope tg iter S (own.map (·.2)) as u) (ok : BlkOk X.N X.env.scope scope own) (hsz : as.length < 16777216)
    (ht : ∀ a ∈ as, Blk X scope fun Y => XT Y t1 (u a (fgt S (own.map (·.2)))) (p a))
    (he : ∀ a ∈ as, p a = true → Blk X scope fun Y => XI Y elt (u a (fgt S (own.map (·.2)))) (.int (f a))) (k : XSs X rest (S.set i (.ow (((as.filter p).map f).map D.int))) P)
    (hsw : swapsWith (.ListComp elt [⟨tg, iter, [t1], 0⟩] scope p2) (some (.Name y py)) pos.line X.env = pure true) (hfs : ∀ x, foldedSetIterable iter X.env x = pure x := by intro _; rfl) : XSs X (.Assign [.Name y py] (.ListComp elt [⟨tg, iter, [t1], 0⟩] scope p2) pos :: rest) S P := by
  rw [List.map_map] at k
  exact xs_lcIf i _ _ l hc hN hy hyl hf ok hsz ht he k hsw hfs

/-! ### defs -/
/-- the promise: from the data ds on, what is handed back is one of R -/
abbrev Pr := List D → (Sl → Prop) → Prop
def spD (K : PySem.W.Frag) (Φ : Pr) : Sp := fun vs H Q _ => ∃ (F : Hp) (ds : List D) (R : Sl → Prop), Same F H ∧ DdAll K F vs ds ∧ Φ ds R ∧ ∀ v F' H' r, Tr F H F' H' → VR K H F' H' v r → R r → Q v H'
theorem xe_call {k : Nat} {f : Addr} {fd : FuncData} {ps : List Str} {n : Str} {Φ : Pr} {es : List Expr} {p : Pos} (F : FnOk X.prog X.w X.K X.mg X.base CX0 k f fd ps (spD X.K Φ)) (hr : Room k X.A) (hm : X.mg n = some (.ref f)) (hk : PySem.W.keepIn X.K (.ref f) = true) (hb : Binds X.K fd ps []) (hg : Gl X n)
    (ha : XA X (e :: es) S ds) (h : Φ ds (fun r' => r' = r)) (hdb : (n == ("__debug__" : Str)) = false := by decide) (he : starEach (e :: es) X.env = (false, eval e X.env) :: starEach es X.env := by rfl) (hpl : (backTo pos (starEach es X.env)).any (·.1) = false := by rfl) : XE X (.Call (.Name n p) (e :: es) [] pos) S r :=
  xe_of (pe_call F hr hg hm hk hb .nil pass0 pa_tA hdb he hpl) fun σ H F w => tA_go ha w fun vs F1 H1 t1 z1 => by
    show spD X.K Φ (vs ++ []) H1 _ E0
    rw [List.append_nil]
    refine ⟨F1, ds, _, t1.fh, z1, h, fun v F' H' r' t q e => ?_⟩
    subst e
    exact ⟨F', t1.trans t, q.back t1⟩
theorem ims_get : ∀ (ds : List D) {i : Nat} {d : D}, (ds.map Sl.im)[i]? = some (.im d) → ds[i]? = some d := fun ds i d h => by
  rw [List.getElem?_map] at h
  cases q : ds[i]? with
  | none => rw [q] at h; cases h
  | some u => rw [q] at h; cases h; rfl
theorem wf_start {K : PySem.W.Frag} {F H : Hp} {vs : List V} {ds : List D} {N : List Str} (fh : Same F H) (h : DdAll K F vs ds) : Wf K F H (L2.start N vs) (ds.map Sl.im ++ List.replicate (N.length - ds.length) .no) := by
  have hl := h.len
  have no : ∀ {i : Nat} {s : Sl}, (ds.map Sl.im ++ List.replicate (N.length - ds.length) Sl.no)[i]? = some s → (∃ d, s = .im d ∧ ds[i]? = some d) ∨ s = .no := by
    intro i s q
    by_cases hi : i < ds.length
    · rw [List.getElem?_append_left (by rw [List.length_map]; exact hi), List.getElem?_map] at q
      cases z : ds[i]? with
      | none => rw [z] at q; cases q
      | some u => rw [z] at q; cases q; exact .inl ⟨u, rfl, rfl⟩
    · rw [List.getElem?_append_right (by rw [List.length_map]; omega), List.getElem?_replicate] at q
      split at q
      · cases q; exact .inr rfl
      · cases q
  refine ⟨fh, by unfold L2.start; simp [hl], fun {i d} q => ?_, fun {i es} q => ?_, fun {i j es fs l} q => ?_, fun {i es} q => ?_, fun {i j es fs l} q => ?_⟩
  · rcases no q with ⟨d', e, z⟩ | e
    · cases e
      obtain ⟨v, h1, h2⟩ := h.get z
      refine ⟨v, ?_, h2⟩
      unfold L2.start
      rw [List.getElem?_append_left (by rw [List.length_map]; exact lt_of_get h1), List.getElem?_map, h1]
      rfl
    · cases e
  · rcases no q with ⟨d', e, z⟩ | e <;> cases e
  · rcases no q with ⟨d', e, z⟩ | e <;> cases e
  · rcases no q with ⟨d', e, z⟩ | e <;> cases e
  · rcases no q with ⟨d', e, z⟩ | e <;> cases e
theorem fun_ok {P : Program} {w : World} {K : PySem.W.Frag} {mg : Str → Option Value} {base : Heap} {n qual : Str} {st : Stmt} {f : Addr} {fd : FuncData} {N ps : List Str} {k : Nat} {Φ : Pr} (Fn : Fun K n qual st f fd) (Sc : FnScope N ps (defScope st)) (len : ∀ ds R, Φ ds R → ds.length = ps.length) (hps : ps.length ≤ N.length)
    (body : ∀ (cdv : Value) (A : Around) (outer : List Env) (s : Shared) (H : Hp) (E : XK), Room k (A.deeper (PyProof.Rows.envOfC qual (defScope st) s.heap.objs.size f cdv)) → ∀ ds R, Φ ds R →
      XSs (cxOf CX0 P w K mg base N qual (defScope st) f cdv A outer s H E).nox (defBody st) (ds.map Sl.im ++ List.replicate (N.length - ds.length) .no) { nx := fun _ => R (.im .non), rt := R }) : FnOk P w K mg base CX0 (k + 1) f fd ps (spD K Φ) := by
  refine Fn.ok Sc (fun vs H Q E ⟨F, ds, R, _, h, q, _⟩ => by rw [h.len]; exact len ds R q) fun cdv A outer s H vs Q E hr ⟨F, ds, R, fh, h, q, k⟩ => ⟨_, pss_tS, ?_⟩
  have hl := len ds R q
  refine tS_go (body cdv A outer s H E hr ds R q) (Wb.init (wf_start (N := N) fh h) ?_ ?_) (by show (ds.map Sl.im ++ List.replicate (N.length - ds.length) Sl.no).length = N.length; rw [List.length_append, List.length_map, List.length_replicate]; omega) ⟨fun σ H2 F S w l q => k .non F H2 (.im .non) w.tr Dd.non q, fun v H2 F r t w q => k v F H2 r t w q, fun σ H F S w l q => q.elim, fun σ H F S w l q => q.elim⟩
  · intro i es z
    by_cases hi : i < ds.length
    · rw [List.getElem?_append_left (by rw [List.length_map]; exact hi), List.getElem?_map] at z
      cases y : ds[i]? with
      | none => rw [y] at z; cases z
      | some u => rw [y] at z; cases z
    · rw [List.getElem?_append_right (by rw [List.length_map]; omega), List.getElem?_replicate] at z
      split at z <;> cases z
  · intro i es z
    by_cases hi : i < ds.length
    · rw [List.getElem?_append_left (by rw [List.length_map]; exact hi), List.getElem?_map] at z
      cases y : ds[i]? with
      | none => rw [y] at z; cases z
      | some u => rw [y] at z; cases z
    · rw [List.getElem?_append_right (by rw [List.length_map]; omega), List.getElem?_replicate] at z
      split at z <;> cases z
end
end DL

set_option Elab.async false
set_option linter.all false
set_option maxRecDepth 100000
set_option maxHeartbeats 2000000
/-! DLe: a def by its name; isinstance; lemmas about data. -/
namespace DL
open PySem L2
/-- the def of the name n, its promise -/
structure Df (P : Program) (w : World) (K : PySem.W.Frag) (mg : Str → Option Value) (base : Heap) (k : Nat) (n : Str) (ps : List Str) (Φ : Pr) : Prop where
  ex : ∃ f fd, FnOk P w K mg base CX0 k f fd ps (spD K Φ) ∧ mg n = some (.ref f) ∧ PySem.W.keepIn K (.ref f) = true ∧ Binds K fd ps []
section
variable {X : Cx} {S : Sg} {pos : Pos} {e a b : Expr} {d x y : D} {r : Sl} {ds : List D}
theorem xe_callD {k : Nat} {ps : List Str} {n : Str} {Φ : Pr} {es : List Expr} {p : Pos} (G : Df X.prog X.w X.K X.mg X.base k n ps Φ) (hr : Room k X.A) (hg : Gl X n)
    (ha : XA X (e :: es) S ds) (h : Φ ds (fun r' => r' = r)) (hdb : (n == ("__debug__" : Str)) = false := by decide) (he : starEach (e :: es) X.env = (false, eval e X.env) :: starEach es X.env := by rfl) (hpl : (backTo pos (starEach es X.env)).any (·.1) = false := by rfl) : XE X (.Call (.Name n p) (e :: es) [] pos) S r := by
  obtain ⟨f, fd, F, hm, hk, hb⟩ := G.ex
  exact xe_call F hr hm hk hb hg ha h hdb he hpl

/-! isinstance -/
def kitD (T : String) : D → Bool
  | .non => T == "NoneType"
  | .bl _ => T == "bool" || T == "int"
  | .int _ => T == "int"
  | .str _ => T == "str"
  | .lst _ => T == "list"
  | .tup _ => T == "tuple"
  | .scr _ => T == "list"
  | .dic _ => T == "dict"
def KitOk (T : String) : Prop := kitB "NoneType" T = some (T == "NoneType") ∧ kitB "bool" T = some (T == "bool" || T == "int") ∧ kitB "int" T = some (T == "int") ∧ kitB "str" T = some (T == "str") ∧ kitB "list" T = some (T == "list") ∧ kitB "tuple" T = some (T == "tuple") ∧ kitB "dict" T = some (T == "dict")
theorem kit_int : KitOk "int" := by refine ⟨?_, ?_, ?_, ?_, ?_, ?_, ?_⟩ <;> decide +kernel
theorem kit_str : KitOk "str" := by refine ⟨?_, ?_, ?_, ?_, ?_, ?_, ?_⟩ <;> decide +kernel
theorem kit_list : KitOk "list" := by refine ⟨?_, ?_, ?_, ?_, ?_, ?_, ?_⟩ <;> decide +kernel
theorem kit_tuple : KitOk "tuple" := by refine ⟨?_, ?_, ?_, ?_, ?_, ?_, ?_⟩ <;> decide +kernel
theorem kit_bool : KitOk "bool" := by refine ⟨?_, ?_, ?_, ?_, ?_, ?_, ?_⟩ <;> decide +kernel
theorem VW.ty {K : PySem.W.Frag} {F H : Hp} (e : Same F H) {v : V} (h : VW K F H v d) (hs : ∀ ns, d ≠ .scr ns) : ∃ t : String, TyX K H v (.type t) ∧ ∀ {T : String}, KitOk T → PySem.W.kitOne K (.type t) (.type T) = some (kitD T d) := by
  rcases h with h | ⟨l, xs, ds, rfl, rfl, _, h2, _⟩
  · cases h with
    | non => exact ⟨_, .base .non, fun k => kit_ty k.1⟩
    | bl b => exact ⟨_, .base (.bl b), fun k => kit_ty k.2.1⟩
    | int i => exact ⟨_, .base (.int i), fun k => kit_ty k.2.2.1⟩
    | str z => exact ⟨_, .base (.str z), fun k => kit_ty k.2.2.2.1⟩
    | lst h1 h2 => exact ⟨_, .base (.lst (e _ _ h1)), fun k => kit_ty k.2.2.2.2.1⟩
    | tup h1 h2 => exact ⟨_, .base (.tup (e _ _ h1)), fun k => kit_ty k.2.2.2.2.2.1⟩
    | dic h1 => exact ⟨_, .base (.dK (e _ _ h1)), fun k => kit_ty k.2.2.2.2.2.2⟩
    | scr h1 => exact absurd rfl (hs _)
  · exact ⟨_, .base (.lst h2), fun k => kit_ty k.2.2.2.2.1⟩
theorem xi_isi {T : String} {n m : Str} {p q : Pos} (hk : KitOk T) (ha : XW X a S x) (hg : Gl X n) (hm : X.mg n = none) (hg2 : Gl X m) (hm2 : X.mg m = none) (hv2 : bootBuiltins m = some (.type T)) (hv : bootBuiltins n = some (.builtin "isinstance")) (hs : ∀ ns, x ≠ .scr ns) (hn : n ≠ "__name__" := by decide) (hdb : (n == ("__debug__" : Str)) = false := by decide)
    (hn2 : m ≠ "__name__" := by decide) (hdb2 : (m == ("__debug__" : Str)) = false := by decide)
    (he : starEach [a, .Name m q] X.env = (false, eval a X.env) :: starEach [.Name m q] X.env := by rfl) (he2 : starEach [.Name m q] X.env = (false, eval (.Name m q) X.env) :: starEach [] X.env := by rfl) (he3 : (backTo pos (starEach [.Name m q] X.env)).any (·.1) = false := by rfl) :
    XI X (.Call (.Name n p) [a, .Name m q] [] pos) S (.bl (kitD T x)) :=
  xe_of (pe_callB call_isi hg hm hv (pa_cons pe_tW (pa_cons (pe_bltn (v := .ty T) hg2 hm2 hv2 rfl hn2 hdb2) pa_nil he2) he) hn hdb he he3) fun σ H F w => tW_go ha w fun v F1 H1 t1 z1 => by
    obtain ⟨t, h1, h2⟩ := z1.ty t1.fh hs
    exact ⟨v, .ty T, .type t, .type T, _, rfl, .ty T, h1, h2 hk, F1, t1, .bl _⟩

/-! ### lemmas about data -/
theorem at_ints {ns : List Int} {i : Int} (h0 : 0 ≤ i) (h1 : i < ns.length) : atI (ns.map D.int) i = some (.int (ns.getD i.toNat 0)) := by
  refine atI_pos h0 ?_
  have h : i.toNat < ns.length := by omega
  rw [List.getElem?_map, List.getElem?_eq_getElem h, List.getD_eq_getElem?_getD, List.getElem?_eq_getElem h]
  rfl
theorem at_scr {ns : List Int} {i : Int} (h0 : 0 ≤ i) (h1 : i < ns.length) : atI ns i = some (ns.getD i.toNat 0) := by
  refine atI_pos h0 ?_
  have h : i.toNat < ns.length := by omega
  rw [List.getElem?_eq_getElem h, List.getD_eq_getElem?_getD, List.getElem?_eq_getElem h]
  rfl
theorem at_gen {ds : List D} {i : Int} (h0 : 0 ≤ i) (h1 : i < ds.length) : atI ds i = some (ds.getD i.toNat .non) := by
  refine atI_pos h0 ?_
  have h : i.toNat < ds.length := by omega
  rw [List.getElem?_eq_getElem h, List.getD_eq_getElem?_getD, List.getElem?_eq_getElem h]
  rfl
theorem at_lastI {ns : List Int} (h : 0 < ns.length) : atI (ns.map D.int) (-1) = some (.int (ns.getD (ns.length - 1) 0)) := by
  refine atI_neg (by omega) (by rw [List.length_map]; omega) ?_
  rw [List.length_map]
  have e : (-1 + (ns.length : Int)).toNat = ns.length - 1 := by omega
  have h' : ns.length - 1 < ns.length := by omega
  rw [e, List.getElem?_map, List.getElem?_eq_getElem h', List.getD_eq_getElem?_getD, List.getElem?_eq_getElem h']
  rfl
theorem pys_ints : ∀ ns : List Int, D.pys (ns.map D.int) = ns.map PyData.int
  | [] => rfl
  | n :: ns => by
    show D.py (.int n) :: D.pys (ns.map D.int) = _
    rw [pys_ints ns]
    rfl
theorem eqvAll_ints : ∀ ns ms : List Int, PyData.eqvAll (ns.map PyData.int) (ms.map PyData.int) = decide (ns = ms)
  | [], [] => rfl
  | [], m :: ms => rfl
  | n :: ns, [] => rfl
  | n :: ns, m :: ms => by
    show (PyData.eqv (.int n) (.int m) && PyData.eqvAll (ns.map PyData.int) (ms.map PyData.int)) = _
    rw [eqvAll_ints ns ms]
    have e : PyData.eqv (.int n) (.int m) = decide (n = m) := by simp only [PyData.eqv]; rfl
    rw [e]
    by_cases h : n = m
    · subst h
      by_cases h2 : ns = ms
      · subst h2; simp
      · simp [h2]
    · simp [h]
theorem eqv_ints (ns ms : List Int) : D.eqv (.lst (ns.map D.int)) (.lst (ms.map D.int)) = decide (ns = ms) := by
  unfold D.eqv
  simp only [D.py, PyData.eqv, pys_ints]
  exact eqvAll_ints ns ms
theorem eqv_tints (ns ms : List Int) : D.eqv (.tup (ns.map D.int)) (.tup (ms.map D.int)) = decide (ns = ms) := by
  unfold D.eqv
  simp only [D.py, PyData.eqv, pys_ints]
  exact eqvAll_ints ns ms
theorem okEs_ints : ∀ ns : List Int, D.okEs (ns.map D.int) = true
  | [] => rfl
  | n :: ns => by
    show (D.okE (.int n) && D.okEs (ns.map D.int)) = true
    rw [okEs_ints ns]
    rfl
theorem depthAll_ints : ∀ ns : List Int, PyData.depthAll (ns.map PyData.int) ≤ 1
  | [] => by simp [PyData.depthAll]
  | n :: ns => by
    have := depthAll_ints ns
    simp only [List.map_cons, PyData.depthAll, PyData.depth]
    omega
theorem okQ_ints (ns : List Int) : D.okQ (.lst (ns.map D.int)) := by
  refine ⟨okEs_ints ns, ?_⟩
  simp only [D.py, pys_ints, PyData.depth]
  have := depthAll_ints ns
  omega
theorem okQ_tints (ns : List Int) : D.okQ (.tup (ns.map D.int)) := by
  refine ⟨okEs_ints ns, ?_⟩
  simp only [D.py, pys_ints, PyData.depth]
  have := depthAll_ints ns
  omega
theorem okQ_nil : D.okQ (.lst []) := okQ_ints []
theorem okQ_nilT : D.okQ (.tup []) := okQ_tints []
theorem range_ints (n : Nat) : ((List.range n).map fun (k : Nat) => D.int (k : Int)) = ((List.range n).map fun (k : Nat) => (k : Int)).map D.int := by
  rw [List.map_map]; rfl
/-- the law's end: the script, then True -/
def pr_law : Pr := fun ds R => ∃ ns : List Int, ds = [.scr ns] ∧ ns.length ≤ 63 ∧ R (.im (.bl true))
theorem law_sp {K : PySem.W.Frag} {H : Hp} {a : Addr} {ns : List Int} (hl : ns.length ≤ 63) (hs : SqL K H a (ns.map V.int)) : spD K pr_law [.ref a] H (fun v _ => v = .bl true) fun _ _ _ => False :=
  ⟨H, [.scr ns], fun r => r = .im (.bl true), Same.refl H, .cons (.scr hs) .nil, ⟨ns, rfl, hl, rfl⟩, fun v F' H' r t q e => by
    subst e
    exact (show VW K F' H' v (.bl true) from .inl q).bl⟩
end
end DL

set_option Elab.async false
set_option linter.all false
set_option maxRecDepth 100000
set_option maxHeartbeats 2000000
/-! DLf: tuples turned about, tuples times a number; data of a depth; a pop that is taken apart. -/
namespace DL
open PySem L2 PyProof.Rows
section
variable {prog : Program} {w : World} {A : Around} {E : Value → Shared → Prop} {s : Shared}
theorem rev_places (n : Nat) : Builtin.Slice.slicePlaces ((n : Int) - 1) (-1) (-1) = n := by
  unfold Builtin.Slice.slicePlaces
  have h1 : ¬ ((-1 : Int) > 0) := by decide
  by_cases h : (n : Int) - 1 > -1
  · rw [if_neg h1, if_pos h]
    have e : ((n : Int) - 1 - -1 - 1) / (- -1) + 1 = n := by rw [show (- -1 : Int) = 1 by decide, Int.ediv_one]; omega
    rw [e, Int.toNat_natCast]
  · rw [if_neg h1, if_neg h]; show 0 = n; omega
theorem rev_pick (xs : Array Value) : ((List.range xs.size).filterMap fun (m : Nat) => xs[(((xs.size : Int) - 1) + (m : Int) * -1).toNat]?).toArray = xs.toList.reverse.toArray := by
  congr 1
  apply List.ext_getElem?
  intro i
  have key : ∀ n, n ≤ xs.size → (List.range n).filterMap (fun (m : Nat) => xs[(((xs.size : Int) - 1) + (m : Int) * -1).toNat]?) = xs.toList.reverse.take n := by
    intro n
    induction n with
    | zero => intro _; rfl
    | succ n ih =>
      intro hn
      have h1 : (((xs.size : Int) - 1) + (n : Int) * -1).toNat = xs.size - 1 - n := by omega
      have h2 : xs.size - 1 - n < xs.size := by omega
      have h3 : n < xs.toList.reverse.length := by rw [List.length_reverse, Array.length_toList]; omega
      rw [List.range_succ, List.filterMap_append, ih (by omega), List.take_succ_eq_append_getElem h3]
      congr 1
      simp only [List.filterMap_cons, List.filterMap_nil]
      rw [h1, Array.getElem?_eq_getElem h2]
      simp only [List.getElem_reverse, Array.length_toList, Array.getElem_toList]
  rw [key xs.size (Nat.le_refl _), List.take_of_length_le (by rw [List.length_reverse, Array.length_toList]; exact Nat.le_refl _)]
theorem applied_rev {sl : Addr} {vl vu vs : Value} {n : Nat} {Q : Int × Int × Nat → Shared → Prop} (hs : s.heap.IsSliceOf sl vl vu vs) (pl : IsPart vl none) (pu : IsPart vu none) (ps : IsPart vs (some (-1)))
    (h : Q ((n : Int) - 1, -1, n) s) : wpAny (model prog w) A (Builtin.Slice.sliceApplied (.ref sl) (pure (n : Int))) Q E s := by
  obtain ⟨os, ho, hc, hd⟩ := id hs
  unfold Builtin.Slice.sliceApplied Builtin.Slice.sliceFields
  refine wpAny_bind (wpAny_bind (wpAny_field ho hd (x := vl) rfl (wpAny_bind (wpAny_field ho hd (x := vu) rfl (wpAny_bind (wpAny_field ho hd (x := vs) rfl (wpAny_pure ?_)))))))
  refine wpAny_bind (HT.slicePart_ ps ?_); show wpAny _ _ (if ((-1 : Int) == 0) = true then _ else _) _ _ s; rw [if_neg (by decide)]
  refine wpAny_bind (HT.slicePart_ pl (wpAny_bind (HT.slicePart_ pu (wpAny_bind (wpAny_pure ?_))))); show wpAny _ _ (pure ((n : Int) - 1, (-1 : Int), Builtin.Slice.slicePlaces ((n : Int) - 1) (-1) (-1))) _ _ s
  rw [rev_places]; exact wpAny_pure h
theorem tuple_rev {t sl : Addr} {its : Array Value} {vl vu vs : Value} {Q : Value → Shared → Prop} (ht : IsTup s.heap t its) (hs : s.heap.IsSliceOf sl vl vu vs) (pl : IsPart vl none) (pu : IsPart vu none) (ps : IsPart vs (some (-1)))
    (h : Q (.ref s.heap.objs.size) { s with heap := s.heap.push { cls := .type "tuple", data := .seq its.toList.reverse.toArray } }) (hz : its.size ≤ sizeLine) : wpAny (model prog w) A (getItem (.ref t) (.ref sl)) Q E s := by
  have hk : sizeOk (.seq its.toList.reverse.toArray) := by show its.toList.reverse.toArray.size ≤ sizeLine; rw [List.size_toArray, List.length_reverse, Array.length_toList]; exact hz
  obtain ⟨os, ho, hc, hd⟩ := id hs; have hT : s.TypeIs (.ref sl) "slice" := ⟨os, ho, hc⟩
  unfold getItem; try with_reducible refine wpAny_holding ?_
  first | refine wpAny_bind (wpAny_pure ?_) | skip
  refine wpAny_bind (wpAny_sequenceKey ht.typeIs (by decide) ?_)
  refine wpAny_bind (wpAny_callSpecial?_slot (name := Str.ofString "__getitem__") ht.typeIs slot_tuple_getitem (wpAny_call_entry slot_tuple_getitem ht.typeIs entry_tuple_getitem ?_ (args_tuple_getitem _ _)))
  show wpAny _ _ (Builtin.Tuple.tupleItemsOf (.ref t) >>= _) _ _ s; refine wpAny_bind (tupleItemsOf_ ht ?_); refine wpAny_bind (wpAny_typeOf hT ?_); rw [if_pos (by decide)]
  refine wpAny_bind (applied_rev hs pl pu ps ?_)
  have no : ¬ ((((its.size : Int) - 1) == 0 && (-1 : Int) == 1 && its.size == its.size) = true) := by
    intro q; rw [Bool.and_eq_true, Bool.and_eq_true] at q
    exact absurd q.1.2 (by decide)
  show wpAny _ _ (if (((its.size : Int) - 1) == 0 && (-1 : Int) == 1 && its.size == its.size) = true then _ else _) _ _ s; rw [if_neg no, rev_pick]
  first
    | exact wpAny_bind (m := Builtin.Tuple.tupleExact _) (wpAny_newObj_type (wpAny_pure ⟨_, rfl, wpAny_pure h⟩) hk)
    | exact wpAny_bind (m := Builtin.Tuple.tupleExact _) (wpAny_newObj_type (wpAny_bind (wpAny_pure (wpAny_pure ⟨_, rfl, wpAny_pure h⟩))) hk)
    | exact wpAny_bind (wpAny_bind (m := Builtin.Tuple.tupleExact _) (wpAny_newObj_type (wpAny_pure (wpAny_pure ⟨_, rfl, wpAny_pure h⟩)) hk))
    | exact wpAny_bind (wpAny_bind (m := Builtin.Tuple.tupleExact _) (wpAny_newObj_type (wpAny_pure ⟨_, rfl, wpAny_pure h⟩) hk))
end
section
variable {X : Cx} {S : Sg} {pos : Pos} {e a b : Expr} {d x y : D} {r : Sl} {ds : List D}
def tRevT (K : PySem.W.Frag) (te : TE) : TE := fun σ H Q => te σ H fun x H1 => ∃ a xs, x = .ref a ∧ SqT K H1 a xs ∧ ∀ p, H1 p = none → Q (.ref p) (upd H1 p (.tup xs.reverse))
theorem pe_revT {te : TE} {k : Nat} {p1 p2 p3 : Pos} (he : PE X e te) : PE X (.Subscript e (.Slice none none (some (.UnaryOp .USub (.Constant (.int 1) k p1) p2)) p3) pos) (tRevT X.K te) := by
  refine ⟨fun pins s σ H Q I h => ?_⟩
  refine Subscript_ (thn (he.run pins s σ H _ I h) fun v s1 ⟨x, H1, I1, r1, a, xs, ex, hx, q⟩ => ?_)
  subst ex
  cases r1
  have st : PO X (some (.UnaryOp .USub (.Constant (.int 1) k p1) p2)) (tPart (tUn (rU fun i => .int (-i)) (tC (.int 1)))) := po_some (pe_un un_neg pe_int)
  refine wpAny_Slice (thn (po_none.run pins s1 σ H1 (fun o H2 => o = none ∧ H2 = H1) I1 ⟨rfl, rfl⟩) fun vl s2 ⟨l, H2, I2, pl, el, e2⟩ => ?_); subst el e2
  refine thn (po_none.run pins s2 σ H2 (fun o H3 => o = none ∧ H3 = H2) I2 ⟨rfl, rfl⟩) fun vu s3 ⟨u, H3, I3, pu, eu, e3⟩ => ?_; subst eu e3
  refine thn (st.run pins s3 σ H3 (fun o H4 => o = some (-1) ∧ H4 = H3) I3 ⟨1, rfl, -1, rfl, rfl, rfl⟩) fun vs s4 ⟨o, H4, I4, ps, eo, e4⟩ => ?_; subst eo e4
  have I5 : Inv X pins σ H4 { s4 with heap := s4.heap.push { cls := .type "slice", data := .fields #[vl, vu, vs] } } := I4.kept (t' := s4.toks) fun b ob q => Heap.get?_push_of_some _ q
  obtain ⟨its, r, ht, hz⟩ := I5.tuple hx
  have hl := r.length
  show wpAny (model X.prog X.w) X.A (subscriptTail e (.Slice none none (some (.UnaryOp .USub (.Constant (.int 1) k p1) p2)) p3) (.ref a) (.ref s4.heap.objs.size)) (EP X pins σ Q) X.xe _
  refine tail_any (ops := [.ref a, .ref s4.heap.objs.size]) ht.typeIs slot_tuple_getitem.lookup ?_ (by with_unfolding_all rfl)
  refine tuple_rev ht (Heap.IsSliceOf.new _ vl vu vs) pl pu ps ?_ (by rw [List.size_toArray]; omega)
  refine ⟨.ref _, _, I5.laid (t' := s4.toks) (o := .tup xs.reverse) (fun b ob q => Heap.get?_push_of_some _ q) (Nat.le_refl _) ?_, rfl, q _ (I5.hok.fresh (Nat.le_refl _))⟩
  exact ⟨by rw [List.length_reverse]; exact hz, its.reverse, r.reverse, _, Heap.get?_push_size _ rfl, rfl, _, rfl⟩
theorem DdAll.rev {K : PySem.W.Frag} {F : Hp} : ∀ {vs : List V} {ds : List D}, DdAll K F vs ds → DdAll K F vs.reverse ds.reverse
  | _, _, .nil => .nil
  | _, _, .cons h t => by rw [List.reverse_cons, List.reverse_cons]; exact (DdAll.rev t).app (.cons h .nil)
theorem xi_revT {k : Nat} {p1 p2 p3 : Pos} (ha : XW X a S (.tup ds)) : XI X (.Subscript a (.Slice none none (some (.UnaryOp .USub (.Constant (.int 1) k p1) p2)) p3) pos) S (.tup ds.reverse) :=
  xe_of (pe_revT pe_tW) fun σ H F w => tW_go ha w fun v F1 H1 t1 z1 => by
    obtain ⟨p, xs, rfl, h1, h2⟩ := z1.tup t1.fh
    refine ⟨p, xs, rfl, SqT.of h1, fun q hq => ?_⟩
    obtain ⟨t, z⟩ := vr_tup t1.fh hq h2.rev
    exact ⟨_, t1.trans t, z⟩
theorem xi_revTI {ns : List Int} {k : Nat} {p1 p2 p3 : Pos} (ha : XW X a S (.tup (ns.map D.int))) : XI X (.Subscript a (.Slice none none (some (.UnaryOp .USub (.Constant (.int 1) k p1) p2)) p3) pos) S (.tup (ns.reverse.map D.int)) := by
  rw [List.map_reverse]
  exact xi_revT ha
/-! t * k -/
theorem tuple_mul1 (l : Addr) (its : Array Value) (n : Nat) (dd : Option Addr) (sl : Array (Option Value)) (u : Tok) :
    Meets (Builtin.«tuple.__mul__» ⟨[.ref l, .int 1 u], []⟩) (fun _ R s => s.heap.get? l = some { cls := .type "tuple", dict := dd, data := .seq its n, slots := sl } ∧ R (.ok (.ret (.ref l))) s) :=
  .of_wp fun prog w A R s h => by
    obtain ⟨hp, g, d, tk, os⟩ := s; have hl := h.1; have h := h.2; have f1 := AutoSeq1.idx_int
    wp_walk using wpAny_loadPart' hl
    exact ⟨_, rfl, h⟩
def rRepOne (K : PySem.W.Frag) : R2 := fun x y H Q => ∃ l xs, x = .ref l ∧ y = .int 1 ∧ SqT K H l xs ∧ Q (.ref l) H
theorem op_repOne : OpR X (binaryOp .Mult) (rRepOne X.K) := by
  intro pins s σ H x y v u Q I rx ry h
  obtain ⟨l, xs, rfl, rfl, hT, q⟩ := h
  cases rx; obtain ⟨t, rfl⟩ := ry
  obtain ⟨its, r, ⟨⟨cls, dd, data, sl⟩, ho, hc, n, hd⟩, hs⟩ := I.tuple hT
  simp only at hc hd; subst hc hd
  exact wpAny_binaryOp_repeat_ref (T := "tuple") (U := "int") (by decide) ⟨_, ho, rfl⟩ (fun s' => typeIs_int s' 1 t) noFill_tuple_mul PySem.F.fills_int_mul PySem.F.slot_int_rmul repeat_tuple PySem.F.slot_int_index.lookup
    (call_meets PySem.F.slot_int_rmul (typeIs_int s 1 t) PySem.F.entry_int_rmul (PySem.F.args_int_rmul_2 _ _) (int_rmul_tuple 1 t l its.toArray n dd sl) ⟨ho, rfl, ⟨_, ho, rfl⟩, call_meets PySem.F.slot_tuple_mul ⟨_, ho, rfl⟩ PySem.F.entry_tuple_mul (PySem.F.args_tuple_mul_2 _ _) (tuple_mul1 l its.toArray n dd sl t) ⟨ho, ⟨.ref l, H, I, rfl, q⟩⟩⟩)
theorem bin_repT1 {d : D} {k : Int} (h0 : 1 ≤ k) (h1 : k ≤ 1000) : BinD X .Mult (.tup [d]) (.int k) (.im (.tup (List.replicate k.toNat d))) := by
  by_cases hk : k = 1
  · subst hk
    refine ⟨_, op_repOne, fun F H v u e hv hu Q kk => ?_⟩
    have hv' : Dd X.K F v (.tup [d]) := by
      rcases hv with hv | ⟨_, _, _, _, z, _⟩
      · exact hv
      · cases z
    obtain ⟨p, xs, rfl, h2, h3⟩ := hv.tup e
    exact ⟨p, xs, rfl, hu.int, SqT.of h2, kk _ F H (.refl e) hv'⟩
  · refine ⟨_, op_repT, fun F H v u e hv hu Q kk => ?_⟩
    obtain ⟨p, xs, rfl, h2, h3⟩ := hv.tup e
    have hl := h3.len
    refine ⟨p, k, xs, rfl, hu.int, SqT.of h2, ?_, by omega, h1, by rw [hl]; show 1 ≤ 1000; decide, fun l hn => ?_⟩
    · intro z; rw [z] at hl; cases hl
    · have m : ∀ n : Nat, DdAll X.K F (List.replicate n xs).flatten (List.replicate n d) := by
        intro n
        induction n with
        | zero => exact .nil
        | succ n ih => rw [List.replicate_succ, List.flatten_cons, List.replicate_succ]; exact h3.app ih
      obtain ⟨t, z⟩ := vr_tup e hn (m k.toNat)
      exact kk _ _ _ t z
theorem bin_repT1I {n k : Int} (h0 : 1 ≤ k) (h1 : k ≤ 1000) : BinD X .Mult (.tup [.int n]) (.int k) (.im (.tup ((List.replicate k.toNat n).map D.int))) := by
  rw [List.map_replicate]
  exact bin_repT1 h0 h1
/-! data of a depth -/
def okD (n : Nat) (d : D) : Prop := d.okE = true ∧ d.py.depth ≤ n
theorem okD.q {n : Nat} (h : okD n d) (hn : n ≤ 64 := by decide) : d.okQ := ⟨h.1, Nat.le_trans h.2 hn⟩
theorem okD.up {n m : Nat} (h : okD n d) (hn : n ≤ m) : okD m d := ⟨h.1, Nat.le_trans h.2 hn⟩
theorem okD_all : ∀ {n : Nat} {ds : List D}, (∀ d ∈ ds, okD n d) → D.okEs ds = true ∧ PyData.depthAll (D.pys ds) ≤ n
  | n, [], _ => ⟨rfl, by simp [D.pys, PyData.depthAll]⟩
  | n, d :: ds, h => by
    obtain ⟨h1, h2⟩ := okD_all fun e he => h e (List.mem_cons_of_mem _ he)
    obtain ⟨h3, h4⟩ := h d List.mem_cons_self
    refine ⟨?_, ?_⟩
    · show (d.okE && D.okEs ds) = true
      rw [h3, h1]
      rfl
    · simp only [D.pys, PyData.depthAll]
      omega
theorem okD_lst {n : Nat} (h : ∀ d ∈ ds, okD n d) : okD (n + 1) (.lst ds) := by
  obtain ⟨h1, h2⟩ := okD_all h
  refine ⟨h1, ?_⟩
  simp only [D.py, PyData.depth]
  omega
theorem okD_tup {n : Nat} (h : ∀ d ∈ ds, okD n d) : okD (n + 1) (.tup ds) := by
  obtain ⟨h1, h2⟩ := okD_all h
  refine ⟨h1, ?_⟩
  simp only [D.py, PyData.depth]
  omega
theorem okD_int (i : Int) : okD 1 (.int i) := ⟨rfl, by simp [D.py, PyData.depth]⟩
theorem okD_bl (b : Bool) : okD 1 (.bl b) := ⟨rfl, by simp [D.py, PyData.depth]⟩
theorem okD_non : okD 1 .non := ⟨rfl, by simp [D.py, PyData.depth]⟩
theorem okD_str {z : Str} (h : PyData.canLay0 (.str z) = true) : okD 1 (.str z) := ⟨h, by simp [D.py, PyData.depth]⟩
theorem okD_ints (ns : List Int) : okD 2 (.lst (ns.map D.int)) := okD_lst fun d hd => by
  obtain ⟨i, _, rfl⟩ := List.mem_map.mp hd
  exact okD_int i
theorem okD_tints (ns : List Int) : okD 2 (.tup (ns.map D.int)) := okD_tup fun d hd => by
  obtain ⟨i, _, rfl⟩ := List.mem_map.mp hd
  exact okD_int i
theorem eqv_nil : D.eqv (.lst ds) (.lst []) = decide (ds = []) := by
  cases ds with
  | nil => rfl
  | cons d ds => rfl
theorem eqv_nilT : D.eqv (.tup ds) (.tup []) = decide (ds = []) := by
  cases ds with
  | nil => rfl
  | cons d ds => rfl
/-- tg = xs.pop(i) -/
theorem xs_popG {rest : List Stmt} {P : Po} {tg : Expr} {gd : Unit → D} {u : Unit → Sg → Sg} (i : Nat) {n : Str} {p p2 p3 : Pos} {j : Int} (hs : S[i]? = some (.ow ds)) (hN : X.N[i]? = some n) (hv : Vis X.env.scope n) (hj : XW X a S (.int j)) (h0 : 0 ≤ j) (hx : ds[j.toNat]? = some (gd ())) (hsz : ds.length ≤ 16777216)
    (hg : XG X tg gd u) (k : XSs X rest (u () (S.set i (.ow (ds.eraseIdx j.toNat)))) P)
    (pe : ∀ {ta : TA}, PA X [a] ta → PE X (.Call (.Attribute (.Name n p) "pop" p2) [a] [] p3) (tBM X.K "list" rPopAt (tVar i) ta) := by
      intro ta ha; exact pe_bm PySem.F.plainAttrs_list PySem.F.slot_list_pop PySem.F.type_list_pop mt_popAt (pv _) ha)
    (na : starEach [a] X.env = (false, eval a X.env) :: starEach [] X.env := by rfl)
    (hs1 : swapsWithSole [tg] (.Call (.Attribute (.Name n p) "pop" p2) [a] [] p3) pos.line X.env = pure false := by rfl) (hw : swappedStores [tg] (.Call (.Attribute (.Name n p) "pop" p2) [a] [] p3) X.env = pure none := by rfl)
    (h1 : (assignEach [tg] X.env).map (·.2) = [assign tg X.env] := by rfl) : XSs X (.Assign [tg] (.Call (.Attribute (.Name n p) "pop" p2) [a] [] p3) pos :: rest) S P := by
  obtain ⟨g, pg, hg⟩ := hg
  refine xs_of (pss_cons (ps_asg (pe (pa_cons pe_tW pa_nil na)) pg hs1 hw h1) pss_tS) fun σ H F F0 H0 w l => ?_
  obtain ⟨m, xs, e1, e2, e3, e4⟩ := w.wf.ow hs
  refine ⟨.ref m, e1, .inl ⟨rfl, xs, SqL.of e3⟩, tW_go hj w.wf fun v F' H' t q => ?_⟩
  have w' := w.step t
  have h3 := t.hh _ _ e3
  obtain ⟨y, e5, e6⟩ := e4.get hx
  have hlt := lt_of_get e5
  have hls := e4.len
  obtain ⟨jn, rfl⟩ : ∃ jn : Nat, j = jn := ⟨j.toNat, by omega⟩
  have e5' : xs[jn]? = some y := by simpa using e5
  refine ⟨m, xs, (jn : Int), jn, y, rfl, by rw [q.int], h3, by omega, by omega, (ixN_seq (ixN_nat (lt_of_get e5'))).1, e5', ?_⟩
  have w2 := w'.put hs e1 ((e4.mono t.ff).erase jn)
  obtain ⟨l2, k2⟩ := hg () y σ _ F' F0 H0 _ w2 (by rw [List.length_set]; exact l) (e6.mono t.ff)
  exact k2 _ fun σ2 w3 => tS_self k w3 l2
/-! a def whose last parameter is by its name alone, with a default -/
structure Dk (P : Program) (w : World) (K : PySem.W.Frag) (mg : Str → Option Value) (base : Heap) (k : Nat) (n : Str) (ps : List Str) (np : Nat) (ks : List Str) (dv : V) (Φ : Pr) : Prop where
  ex : ∃ f fd ds, FnOk P w K mg base CX0 k f fd ps (spD K Φ) ∧ mg n = some (.ref f) ∧ PySem.W.keepIn K (.ref f) = true ∧ KBn K fd ps np ks (fun us ws => us ++ ws) (fun vs zs => vs ++ zs) ∧ Vals [dv] ds ∧ Binds K fd ps ds
theorem xe_callKd {k np : Nat} {ps ks : List Str} {n : Str} {Φ : Pr} {es : List Expr} {p : Pos} {dv : V} {dd : D} (G : Dk X.prog X.w X.K X.mg X.base k n ps np ks dv Φ) (hdv : ∀ F, Dd X.K F dv dd) (hr : Room k X.A) (hg : Gl X n)
    (ha : XA X (e :: es) S ds) (h : Φ (ds ++ [dd]) (fun r' => r' = r)) (hdb : (n == ("__debug__" : Str)) = false := by decide) (he : starEach (e :: es) X.env = (false, eval e X.env) :: starEach es X.env := by rfl) (hpl : (backTo pos (starEach es X.env)).any (·.1) = false := by rfl) : XE X (.Call (.Name n p) (e :: es) [] pos) S r := by
  obtain ⟨f, fd, dss, F, hm, hk, _, hv, hb⟩ := G.ex
  refine xe_of (pe_call F hr hg hm hk hb hv pass0 pa_tA hdb he hpl) fun σ H F w => tA_go ha w fun vs F1 H1 t1 z1 => ?_
  refine ⟨F1, ds ++ [dd], _, t1.fh, z1.app (.cons (hdv F1) .nil), h, fun v F' H' r' t q e => ?_⟩
  subst e
  exact ⟨F', t1.trans t, q.back t1⟩
theorem xe_callKw {k np : Nat} {ps ks : List Str} {n : Str} {Φ : Pr} {es : List Expr} {p kpos : Pos} {nm : Option Str} {v : Expr} {dv : V} (G : Dk X.prog X.w X.K X.mg X.base k n ps np ks dv Φ) (hr : Room k X.A) (hg : Gl X n)
    (ha : XA X (e :: es) S ds) (hl : ds.length = np) (hkl : ks.length = 1) (hv : XI X v S d) (h : Φ (ds ++ [d]) (fun r' => r' = r)) (hdb : (n == ("__debug__" : Str)) = false := by decide) (he : starEach (e :: es) X.env = (false, eval e X.env) :: starEach es X.env := by rfl)
    (hall : (backToKw pos (keywordEach [⟨nm, v, kpos⟩] X.env)).all (·.1.isSome) = true := by rfl) (hks : (backToKw pos (keywordEach [⟨nm, v, kpos⟩] X.env)).filterMap (·.1) = ks := by rfl)
    (hpl : ((backTo pos (starEach (e :: es) X.env)).any (·.1) || (backToKw pos (keywordEach [⟨nm, v, kpos⟩] X.env)).any (·.1.isNone)) = false := by rfl) : XE X (.Call (.Name n p) (e :: es) [⟨nm, v, kpos⟩] pos) S r := by
  obtain ⟨f, fd, dss, F, hm, hk, hb, _, _⟩ := G.ex
  refine xe_of (pe_callN F hr hg hm hk hb pass0 pa_tA (pk_cons pe_tE pk_nil) hall hks hdb he hpl) fun σ H F w => tA_go ha w fun vs F1 H1 t1 z1 => tE_go hv (w.step t1) fun u F2 H2 t2 z2 => ?_
  refine ⟨by rw [z1.len]; exact hl, by rw [hkl]; rfl, F2, ds ++ [d], _, t2.fh, (z1.mono t2.ff).app (.cons z2 .nil), h, fun v F' H' r' t q e => ?_⟩
  subst e
  exact ⟨F', (t1.trans t2).trans t, q.back (t1.trans t2)⟩
theorem dk_mk {P : Program} {w : World} {K : PySem.W.Frag} {mg : Str → Option Value} {base : Heap} {k np : Nat} {n kn : Str} {st : Stmt} {ps : List Str} {dv : V} {u : Value} {Φ : Pr} {f Dd : Addr} {oc doc pm cdv ct : Value} {od an : Option Addr} {sl : Array (Option Value)}
    (l : K.lookup f = some ⟨oc, od, .func (PySem.W.fnOf n n (defArgs st) (defBody st) (defScope st) .none (.ref Dd) doc pm an cdv ct), sl⟩) (c : PySem.W.codeIn K cdv n = true) (hk : PySem.W.keepIn K (.ref f) = true) (hm : mg n = some (.ref f))
    (hd : PySem.W.nsIn K Dd kn = some (some u)) (hu : RelV dv u) (hn : np + 1 = ps.length)
    (F : FnOk P w K mg base CX0 k f (PySem.W.fnOf n n (defArgs st) (defBody st) (defScope st) .none (.ref Dd) doc pm an cdv ct) ps (spD K Φ))
    (h1 : ∀ (us : List Value) (z : Value), us.length = np → bindArgs (PySem.W.fnOf n n (defArgs st) (defBody st) (defScope st) .none (.ref Dd) doc pm an cdv ct) ⟨us, [(kn, z)]⟩ = pure (ps.zip (us ++ [z])))
    (h2 : ∀ (D : Addr) (doc pm : Value) (an : Option Addr) (cdv ct : Value) (us ks : List Value), us.length = np → ks.length = 1 → KwChain D ([kn].zip ks) (bindArgs (PySem.W.fnOf n n (defArgs st) (defBody st) (defScope st) .none (.ref D) doc pm an cdv ct) ⟨us, []⟩) (ps.zip (us ++ ks))) :
    Dk P w K mg base k n ps np [kn] dv Φ := by
  have FD : FunD K n n (defArgs st) (defBody st) (defScope st) [] [(kn, dv)] f (PySem.W.fnOf n n (defArgs st) (defBody st) (defScope st) .none (.ref Dd) doc pm an cdv ct) :=
    ⟨⟨_, _, _, _, _, _, _, _, _, _, rfl, l, c, .inl ⟨rfl, rfl⟩, .inr ⟨Dd, rfl, fun q hq => by
      rw [List.mem_singleton.mp hq]
      exact ⟨u, hd, hu⟩⟩⟩, hk⟩
  obtain ⟨ds, v1, v2⟩ := FD.binds0 (ps := ps) np (by intro z; cases z) hn h2
  refine ⟨f, _, ds, F, hm, hk, ⟨fun s us ws _ l1 l2 => ?_, fun r1 r2 => r1.append r2⟩, v1, v2⟩
  match ws, l2 with
  | [z], _ => exact .of_eq (h1 us z l1)
/-! xs.index(v), ints -/
theorem eqV_int (m n : Int) : eqV (.int m) (.int n) = decide (m = n) := by
  show (m == n) = decide (m = n)
  rfl
theorem xi_indexI {ns : List Int} {v : Int} {j : Nat} {p2 : Pos} (ha : XW X a S (.lst (ns.map D.int))) (hb : XW X b S (.int v)) (hj : ns[j]? = some v) (hf : ∀ m : Nat, m < j → ns[m]? ≠ some v)
    (na : starEach [b] X.env = (false, eval b X.env) :: starEach [] X.env := by rfl)
    (pe : ∀ {to ta : TE}, PE X a to → PE X b ta → PE X (.Call (.Attribute a "index" p2) [b] [] pos) (tBM X.K "list" (rIndex X.K) to (tCons ta tNil)) := by
      intro to ta h1 h2; exact pe_bm PySem.F.plainAttrs_list PySem.F.slot_list_index PySem.F.type_list_index mt_index h1 (pa_cons h2 pa_nil)) : XI X (.Call (.Attribute a "index" p2) [b] [] pos) S (.int (j : Int)) :=
  xe_of (pe pe_tW pe_tW) fun σ H F w => tW_go ha w fun v1 F1 H1 t1 z1 => by
    obtain ⟨p, xs, rfl, h1, h2⟩ := z1.lst t1.fh
    refine ⟨.inl ⟨rfl, xs, SqL.of h1⟩, tW_go hb (w.step t1) fun v2 F2 H2 t2 z2 => ?_⟩
    have e := h2.ints
    subst e
    have flat : ∀ l : List Int, (l.map V.int).all flatV = true := by
      intro l
      induction l with
      | nil => rfl
      | cons x l ih => rw [List.map_cons, List.all_cons, ih]; rfl
    refine ⟨p, ns.map V.int, .int v, j, .int v, rfl, by rw [z2.int], SqL.of (t2.hh _ _ h1), rfl, flat ns, by rw [List.getElem?_map, hj]; rfl, by rw [eqV_int]; simp, fun m z' hm hz => ?_, F2, t1.trans t2, .int _⟩
    rw [List.getElem?_map] at hz
    cases q : ns[m]? with
    | none => rw [q] at hz; cases hz
    | some u =>
      rw [q] at hz
      cases hz
      rw [eqV_int]
      refine decide_eq_false fun e => hf m hm ?_
      rw [q, e]
end
end DL

set_option Elab.async false
set_option linter.all false
set_option maxRecDepth 100000
set_option maxHeartbeats 2000000
/-! DLg: walks whose items are new pairs: enumerate(list), zip of two. -/
namespace DL
open PySem L2
section
variable {X : Cx} {S : Sg} {P : Po} {sts rest : List Stmt} {st : Stmt} {pos : Pos} {e a b c : Expr} {d x y z : D} {r : Sl} {ds : List D}
theorem Wk.pairs {β : Type} {F1 : Hp} {J : It} {as : List β} {d1 d2 : β → D} {u : β → Sg → Sg} {g : TG}
    (hst : ∀ H : Hp, Same F1 H → J.stop as.length H) (hgo : ∀ H : Hp, Same F1 H → ∀ i, i < as.length → J.go i H)
    (hy : ∀ (i : Nat) (b : β) (H H' : Hp) (x : V), as[i]? = some b → Same F1 H → J.yld i H x H' → ∃ T v1 v2, x = .ref T ∧ H T = none ∧ H' = upd H T (.tup [v1, v2]) ∧ Dd X.K F1 v1 (d1 b) ∧ Dd X.K F1 v2 (d2 b))
    (hg : ∀ (a : β) (v : V) (σ : St) (H F F0 H0 : Hp) (S : Sg), Wb X.K F0 H0 F H σ S → S.length = X.N.length → Dd X.K F v (.tup [d1 a, d2 a]) → (u a S).length = X.N.length ∧ ∀ Q : St → Hp → Prop, (∀ σ2, Wb X.K F0 H0 F H σ2 (u a S) → Q σ2 H) → g v σ H Q) : Wk X F1 J g as u := by
  refine ⟨fun H F e1 e2 i hi => hi ▸ hst H (e1.trans e2), fun H F e1 e2 i hi => hgo H (e1.trans e2) i hi, fun i a σ H F F0 H0 S x H' ha e1 w l y => ?_⟩
  obtain ⟨T, v1, v2, rfl, hT, rfl, q1, q2⟩ := hy i a H H' x ha (e1.trans w.wf.fh) y
  have t := Tr.new (o := .tup [v1, v2]) w.wf.fh hT
  have w2 := w.step t
  have e3 := e1.trans t.ff
  have z : Dd X.K (upd F T (.tup [v1, v2])) (.ref T) (.tup [d1 a, d2 a]) := .tup upd_same (.cons (q1.mono e3) (.cons (q2.mono e3) .nil))
  obtain ⟨l2, k2⟩ := hg a _ σ _ _ F0 H0 S w2 l z
  exact ⟨l2, fun Q q => k2 Q fun σ2 w3 => q σ2 _ _ t w3⟩
theorem Wc.pairs {β : Type} {F1 : Hp} {J : It} {as : List β} {d1 d2 : β → D} {u : β → Sg → Sg} {g : TG} {vs : List Nat}
    (hst : ∀ H : Hp, Same F1 H → J.stop as.length H) (hgo : ∀ H : Hp, Same F1 H → ∀ i, i < as.length → J.go i H)
    (hy : ∀ (i : Nat) (b : β) (H H' : Hp) (x : V), as[i]? = some b → Same F1 H → J.yld i H x H' → ∃ T v1 v2, x = .ref T ∧ H T = none ∧ H' = upd H T (.tup [v1, v2]) ∧ Dd X.K F1 v1 (d1 b) ∧ Dd X.K F1 v2 (d2 b))
    (hg : ∀ (a : β) (v : V) (σ : St) (H F : Hp) (S : Sg), Wf X.K F H σ S → S.length = X.N.length → Dd X.K F v (.tup [d1 a, d2 a]) → ∀ Q : St → Hp → Prop, (∀ σ2, Wf X.K F H σ2 (u a S) → L2.wipe σ2 vs = L2.wipe σ vs → Q σ2 H) → g v σ H Q) : Wc X F1 J g vs as u := by
  refine ⟨fun H e i hi => hi ▸ hst H e, fun H e i hi => hgo H e i hi, fun i a σ H F S x H' ha e1 w l y Q q => ?_⟩
  obtain ⟨T, v1, v2, rfl, hT, rfl, q1, q2⟩ := hy i a H H' x ha (e1.trans w.fh) y
  have t := Tr.new (o := .tup [v1, v2]) w.fh hT
  have w2 := w.step t
  have e3 := e1.trans t.ff
  have z : Dd X.K (upd F T (.tup [v1, v2])) (.ref T) (.tup [d1 a, d2 a]) := .tup upd_same (.cons (q1.mono e3) (.cons (q2.mono e3) .nil))
  exact hg a _ σ _ _ S w2 l z Q fun σ2 w3 ew => q σ2 _ _ t w3 ew
/-! what each turn of enumerate and zip gives -/
theorem zi_get {α : Type} {as : List α} {i : Nat} {b : α × Nat} (h : as.zipIdx[i]? = some b) : as[i]? = some b.1 ∧ b.2 = i := by
  rw [List.getElem?_zipIdx] at h
  cases q : as[i]? with
  | none => rw [q] at h; cases h
  | some y => rw [q] at h; cases h; exact ⟨rfl, Nat.zero_add _⟩
theorem zp_get {α γ : Type} {as : List α} {cs : List γ} {i : Nat} {b : α × γ} (h : (as.zip cs)[i]? = some b) : as[i]? = some b.1 ∧ cs[i]? = some b.2 := by
  rw [List.getElem?_zip_eq_some] at h
  exact h
theorem it_enum {α : Type} {F1 : Hp} {p : Addr} {xs : List V} {as : List α} {gd : α → D} (h1 : F1 p = some (.lst xs)) (h2 : DdAll X.K F1 xs (as.map gd)) :
    (∀ H : Hp, Same F1 H → (Ite X.K p).stop as.zipIdx.length H) ∧ (∀ H : Hp, Same F1 H → ∀ i, i < as.zipIdx.length → (Ite X.K p).go i H) ∧
    ∀ (i : Nat) (b : α × Nat) (H H' : Hp) (x : V), as.zipIdx[i]? = some b → Same F1 H → (Ite X.K p).yld i H x H' → ∃ T v1 v2, x = .ref T ∧ H T = none ∧ H' = upd H T (.tup [v1, v2]) ∧ Dd X.K F1 v1 (.int (b.2 : Int)) ∧ Dd X.K F1 v2 (gd b.1) := by
  have ln : xs.length = as.length := by rw [h2.len, List.length_map]
  refine ⟨fun H e => ⟨xs, SqL.of (e _ _ h1), by rw [List.length_zipIdx]; omega⟩, fun H e i hi => ?_, fun i b H H' x hb e y => ?_⟩
  · rw [List.length_zipIdx] at hi
    exact ⟨xs, xs[i], SqL.of (e _ _ h1), by simp [ln, hi]⟩
  · obtain ⟨ha, rfl⟩ := zi_get hb
    obtain ⟨T, v, rfl, hT, rfl, hv⟩ := y
    obtain ⟨d, hd, hv⟩ := h2.get' (hv xs (SqL.of (e _ _ h1)))
    rw [List.getElem?_map, ha] at hd
    cases hd
    exact ⟨T, _, _, rfl, hT, rfl, .int _, hv⟩
theorem it_zip {α γ : Type} {F1 : Hp} {p q : Addr} {xs ys : List V} {as : List α} {cs : List γ} {g1 : α → D} {g2 : γ → D} (h1 : F1 p = some (.lst xs)) (h2 : DdAll X.K F1 xs (as.map g1)) (h3 : F1 q = some (.lst ys)) (h4 : DdAll X.K F1 ys (cs.map g2)) :
    (∀ H : Hp, Same F1 H → (Itz X.K p q).stop (as.zip cs).length H) ∧ (∀ H : Hp, Same F1 H → ∀ i, i < (as.zip cs).length → (Itz X.K p q).go i H) ∧
    ∀ (i : Nat) (b : α × γ) (H H' : Hp) (x : V), (as.zip cs)[i]? = some b → Same F1 H → (Itz X.K p q).yld i H x H' → ∃ T v1 v2, x = .ref T ∧ H T = none ∧ H' = upd H T (.tup [v1, v2]) ∧ Dd X.K F1 v1 (g1 b.1) ∧ Dd X.K F1 v2 (g2 b.2) := by
  have ln : xs.length = as.length := by rw [h2.len, List.length_map]
  have ln2 : ys.length = cs.length := by rw [h4.len, List.length_map]
  refine ⟨fun H e => ⟨xs, ys, SqL.of (e _ _ h1), SqL.of (e _ _ h3), by rw [List.length_zip]; omega⟩, fun H e i hi => ?_, fun i b H H' x hb e y => ?_⟩
  · rw [List.length_zip] at hi
    have i1 : i < xs.length := by omega
    have i2 : i < ys.length := by omega
    exact ⟨xs, ys, xs[i], ys[i], SqL.of (e _ _ h1), SqL.of (e _ _ h3), by simp [i1], by simp [i2]⟩
  · obtain ⟨ha, hc⟩ := zp_get hb
    obtain ⟨T, v, v', rfl, hT, rfl, hv, hv'⟩ := y
    obtain ⟨d, hd, hv⟩ := h2.get' (hv xs (SqL.of (e _ _ h1)))
    rw [List.getElem?_map, ha] at hd
    cases hd
    obtain ⟨d, hd, hv'⟩ := h4.get' (hv' ys (SqL.of (e _ _ h3)))
    rw [List.getElem?_map, hc] at hd
    cases hd
    exact ⟨T, _, _, rfl, hT, rfl, hv, hv'⟩
theorem it_zipT {α γ : Type} {F1 : Hp} {p q : Addr} {xs ys : List V} {as : List α} {cs : List γ} {g1 : α → D} {g2 : γ → D} (h1 : F1 p = some (.tup xs)) (h2 : DdAll X.K F1 xs (as.map g1)) (h3 : F1 q = some (.tup ys)) (h4 : DdAll X.K F1 ys (cs.map g2)) :
    (∀ H : Hp, Same F1 H → (RZ.ItzT X.K p q).stop (as.zip cs).length H) ∧ (∀ H : Hp, Same F1 H → ∀ i, i < (as.zip cs).length → (RZ.ItzT X.K p q).go i H) ∧
    ∀ (i : Nat) (b : α × γ) (H H' : Hp) (x : V), (as.zip cs)[i]? = some b → Same F1 H → (RZ.ItzT X.K p q).yld i H x H' → ∃ T v1 v2, x = .ref T ∧ H T = none ∧ H' = upd H T (.tup [v1, v2]) ∧ Dd X.K F1 v1 (g1 b.1) ∧ Dd X.K F1 v2 (g2 b.2) := by
  have ln : xs.length = as.length := by rw [h2.len, List.length_map]
  have ln2 : ys.length = cs.length := by rw [h4.len, List.length_map]
  refine ⟨fun H e => ⟨xs, ys, SqT.of (e _ _ h1), SqT.of (e _ _ h3), by rw [List.length_zip]; omega⟩, fun H e i hi => ?_, fun i b H H' x hb e y => ?_⟩
  · rw [List.length_zip] at hi
    have i1 : i < xs.length := by omega
    have i2 : i < ys.length := by omega
    exact ⟨xs, ys, xs[i], ys[i], SqT.of (e _ _ h1), SqT.of (e _ _ h3), by simp [i1], by simp [i2]⟩
  · obtain ⟨ha, hc⟩ := zp_get hb
    obtain ⟨T, v, v', rfl, hT, rfl, hv, hv'⟩ := y
    obtain ⟨d, hd, hv⟩ := h2.get' (hv xs (SqT.of (e _ _ h1)))
    rw [List.getElem?_map, ha] at hd
    cases hd
    obtain ⟨d, hd, hv'⟩ := h4.get' (hv' ys (SqT.of (e _ _ h3)))
    rw [List.getElem?_map, hc] at hd
    cases hd
    exact ⟨T, _, _, rfl, hT, rfl, hv, hv'⟩
/-! the walks -/
theorem xf_enumL {α : Type} {elts : List Expr} {kk : Nat} {tpos p pos : Pos} {it : Expr} {as : List α} {gd : α → D} {u : α × Nat → Sg → Sg} (h : XI X it S (.lst (as.map gd))) (hg : XG X (.Tuple elts kk tpos) (fun a : α × Nat => .tup [.int (a.2 : Int), gd a.1]) u)
    (hgl : Gl X "enumerate") (hm : X.mg "enumerate" = none) (hs : starEach [it] X.env = [(false, eval it X.env)] := by rfl) : XF X (.Tuple elts kk tpos) (.Call (.Name "enumerate" p) [it] [] pos) S as.zipIdx u := by
  obtain ⟨g, pg, hg⟩ := hg
  refine ⟨_, g, pi_enum hgl hm (pa_cons pe_tE pa_nil hs) hs, pg, fun σ H F w R k => tE_go h w fun v F1 H1 t1 z1 => ?_⟩
  have z1 : Dd X.K F1 v (.lst (as.map gd)) := z1
  cases z1 with
  | lst h1 h2 =>
    obtain ⟨a, b, c⟩ := it_enum h1 h2
    exact ⟨_, _, rfl, SqL.of (t1.fh _ _ h1), k _ F1 H1 t1 (.pairs a b c hg)⟩
theorem xfc_enumL {α : Type} {scope : Scope} {elts : List Expr} {kk : Nat} {tpos p pos : Pos} {it : Expr} {vs : List Nat} {as : List α} {gd : α → D} {u : α × Nat → Sg → Sg} (h : XI X it S (.lst (as.map gd))) (hg : XGc X scope (.Tuple elts kk tpos) (fun a : α × Nat => .tup [.int (a.2 : Int), gd a.1]) vs u)
    (hgl : Gl X "enumerate") (hm : X.mg "enumerate" = none) (hs : starEach [it] X.env = [(false, eval it X.env)] := by rfl) : XFc X scope (.Tuple elts kk tpos) (.Call (.Name "enumerate" p) [it] [] pos) S vs as.zipIdx u := by
  obtain ⟨g, pg, hg⟩ := hg
  refine ⟨_, g, pi_enum hgl hm (pa_cons pe_tE pa_nil hs) hs, pg, fun σ H F w R k => tE_go h w fun v F1 H1 t1 z1 => ?_⟩
  have z1 : Dd X.K F1 v (.lst (as.map gd)) := z1
  cases z1 with
  | lst h1 h2 =>
    obtain ⟨a, b, c⟩ := it_enum h1 h2
    exact ⟨_, _, rfl, SqL.of (t1.fh _ _ h1), k _ F1 H1 t1 (.pairs a b c hg)⟩
section
variable {α γ : Type} {scope : Scope} {elts : List Expr} {kk : Nat} {tpos p : Pos} {i1 i2 : Expr} {vs : List Nat} {as : List α} {cs : List γ} {g1 : α → D} {g2 : γ → D} {u : α × γ → Sg → Sg}
theorem xf_zipLL (h : XI X i1 S (.lst (as.map g1))) (h' : XI X i2 S (.lst (cs.map g2))) (hg : XG X (.Tuple elts kk tpos) (fun a : α × γ => .tup [g1 a.1, g2 a.2]) u)
    (hgl : Gl X "zip") (hm : X.mg "zip" = none) (hs : starEach [i1, i2] X.env = (false, eval i1 X.env) :: starEach [i2] X.env := by rfl) (hs2 : starEach [i2] X.env = [(false, eval i2 X.env)] := by rfl) (hpl : (backTo pos (starEach [i2] X.env)).any (·.1) = false := by rfl) :
    XF X (.Tuple elts kk tpos) (.Call (.Name "zip" p) [i1, i2] [] pos) S (as.zip cs) u := by
  obtain ⟨g, pg, hg⟩ := hg
  refine ⟨_, g, pi_zip hgl hm (pa_cons pe_tE (pa_cons pe_tE pa_nil hs2) hs) hs hpl, pg, fun σ H F w R k => tE_go h w fun v F1 H1 t1 z1 => tE_go h' (w.step t1) fun v2 F2 H2 t2 z2 => ?_⟩
  have z1 : Dd X.K F1 v (.lst (as.map g1)) := z1
  have z2 : Dd X.K F2 v2 (.lst (cs.map g2)) := z2
  cases z1 with
  | lst h1 h2 =>
    cases z2 with
    | lst h3 h4 =>
      obtain ⟨a, b, c⟩ := it_zip (t2.ff _ _ h1) (h2.mono t2.ff) h3 h4
      exact ⟨_, _, _, _, rfl, SqL.of (t2.fh _ _ (t2.ff _ _ h1)), SqL.of (t2.fh _ _ h3), k _ F2 H2 (t1.trans t2) (.pairs a b c hg)⟩
theorem xfc_zipLL (h : XI X i1 S (.lst (as.map g1))) (h' : XI X i2 S (.lst (cs.map g2))) (hg : XGc X scope (.Tuple elts kk tpos) (fun a : α × γ => .tup [g1 a.1, g2 a.2]) vs u)
    (hgl : Gl X "zip") (hm : X.mg "zip" = none) (hs : starEach [i1, i2] X.env = (false, eval i1 X.env) :: starEach [i2] X.env := by rfl) (hs2 : starEach [i2] X.env = [(false, eval i2 X.env)] := by rfl) (hpl : (backTo pos (starEach [i2] X.env)).any (·.1) = false := by rfl) :
    XFc X scope (.Tuple elts kk tpos) (.Call (.Name "zip" p) [i1, i2] [] pos) S vs (as.zip cs) u := by
  obtain ⟨g, pg, hg⟩ := hg
  refine ⟨_, g, pi_zip hgl hm (pa_cons pe_tE (pa_cons pe_tE pa_nil hs2) hs) hs hpl, pg, fun σ H F w R k => tE_go h w fun v F1 H1 t1 z1 => tE_go h' (w.step t1) fun v2 F2 H2 t2 z2 => ?_⟩
  have z1 : Dd X.K F1 v (.lst (as.map g1)) := z1
  have z2 : Dd X.K F2 v2 (.lst (cs.map g2)) := z2
  cases z1 with
  | lst h1 h2 =>
    cases z2 with
    | lst h3 h4 =>
      obtain ⟨a, b, c⟩ := it_zip (t2.ff _ _ h1) (h2.mono t2.ff) h3 h4
      exact ⟨_, _, _, _, rfl, SqL.of (t2.fh _ _ (t2.ff _ _ h1)), SqL.of (t2.fh _ _ h3), k _ F2 H2 (t1.trans t2) (.pairs a b c hg)⟩
theorem xf_zipTT (h : XI X i1 S (.tup (as.map g1))) (h' : XI X i2 S (.tup (cs.map g2))) (hg : XG X (.Tuple elts kk tpos) (fun a : α × γ => .tup [g1 a.1, g2 a.2]) u)
    (hgl : Gl X "zip") (hm : X.mg "zip" = none) (hs : starEach [i1, i2] X.env = (false, eval i1 X.env) :: starEach [i2] X.env := by rfl) (hs2 : starEach [i2] X.env = [(false, eval i2 X.env)] := by rfl) (hpl : (backTo pos (starEach [i2] X.env)).any (·.1) = false := by rfl) :
    XF X (.Tuple elts kk tpos) (.Call (.Name "zip" p) [i1, i2] [] pos) S (as.zip cs) u := by
  obtain ⟨g, pg, hg⟩ := hg
  refine ⟨_, g, RZ.pi_zipA hgl hm (pa_cons pe_tE (pa_cons pe_tE pa_nil hs2) hs) hs hpl, pg, fun σ H F w R k => tE_go h w fun v F1 H1 t1 z1 => tE_go h' (w.step t1) fun v2 F2 H2 t2 z2 => ?_⟩
  have z1 : Dd X.K F1 v (.tup (as.map g1)) := z1
  have z2 : Dd X.K F2 v2 (.tup (cs.map g2)) := z2
  cases z1 with
  | tup h1 h2 =>
    cases z2 with
    | tup h3 h4 =>
      obtain ⟨a, b, c⟩ := it_zipT (t2.ff _ _ h1) (h2.mono t2.ff) h3 h4
      exact ⟨_, _, _, _, rfl, .inr ⟨SqT.of (t2.fh _ _ (t2.ff _ _ h1)), SqT.of (t2.fh _ _ h3), k _ F2 H2 (t1.trans t2) (.pairs a b c hg)⟩⟩
theorem xfc_zipTT (h : XI X i1 S (.tup (as.map g1))) (h' : XI X i2 S (.tup (cs.map g2))) (hg : XGc X scope (.Tuple elts kk tpos) (fun a : α × γ => .tup [g1 a.1, g2 a.2]) vs u)
    (hgl : Gl X "zip") (hm : X.mg "zip" = none) (hs : starEach [i1, i2] X.env = (false, eval i1 X.env) :: starEach [i2] X.env := by rfl) (hs2 : starEach [i2] X.env = [(false, eval i2 X.env)] := by rfl) (hpl : (backTo pos (starEach [i2] X.env)).any (·.1) = false := by rfl) :
    XFc X scope (.Tuple elts kk tpos) (.Call (.Name "zip" p) [i1, i2] [] pos) S vs (as.zip cs) u := by
  obtain ⟨g, pg, hg⟩ := hg
  refine ⟨_, g, RZ.pi_zipA hgl hm (pa_cons pe_tE (pa_cons pe_tE pa_nil hs2) hs) hs hpl, pg, fun σ H F w R k => tE_go h w fun v F1 H1 t1 z1 => tE_go h' (w.step t1) fun v2 F2 H2 t2 z2 => ?_⟩
  have z1 : Dd X.K F1 v (.tup (as.map g1)) := z1
  have z2 : Dd X.K F2 v2 (.tup (cs.map g2)) := z2
  cases z1 with
  | tup h1 h2 =>
    cases z2 with
    | tup h3 h4 =>
      obtain ⟨a, b, c⟩ := it_zipT (t2.ff _ _ h1) (h2.mono t2.ff) h3 h4
      exact ⟨_, _, _, _, rfl, .inr ⟨SqT.of (t2.fh _ _ (t2.ff _ _ h1)), SqT.of (t2.fh _ _ h3), k _ F2 H2 (t1.trans t2) (.pairs a b c hg)⟩⟩
end
end
end DL

set_option Elab.async false
set_option linter.all false
set_option maxRecDepth 100000
set_option maxHeartbeats 2000000
/-! DLh: return [left.pop(..) for k in range(..)]: the own list is taken apart while another is made. -/
namespace DL
open PySem L2
section
variable {X : Cx} {S : Sg} {P : Po} {rest : List Stmt} {pos : Pos}
/-- what is popped, one by one -/
def popGo (f : Nat → List Int → Int) : Nat → Nat → List Int → List Int
  | 0, _, _ => []
  | n + 1, i, es => es.getD (f i es).toNat 0 :: popGo f n (i + 1) (es.eraseIdx (f i es).toNat)
theorem Wb.side {K : PySem.W.Frag} {F0 H0 F H : Hp} {σ : St} {D : Addr} {o : HO} (w : Wb K F0 H0 F H σ S) (hF : F D = none) (h0 : H0 D = none) (ho : ∀ (i : Nat) (ds : List DL.D) (m : Addr), S[i]? = some (.ow ds) → σ[i]? = some (some (.ref m)) → m ≠ D) (hd : ∀ kvs, H D ≠ some (.dT kvs)) : Wb K F0 H0 F (upd H D o) σ S := by
  have sf : Same F (upd H D o) := fun b u q => by
    have n : b ≠ D := fun z => by rw [z, hF] at q; cases q
    rw [upd_ne n]; exact w.wf.fh b u q
  refine ⟨⟨sf, w.wf.len, w.wf.im, fun {i ds} q => ?_, w.wf.sep, fun {i ks} q => ?_, w.wf.sed⟩, ⟨w.tr.ff, fun b u q => ?_, sf, w.tr.nw⟩, w.own, w.ond⟩
  · obtain ⟨l, xs, a, b, c, d⟩ := w.wf.ow q
    exact ⟨l, xs, a, b, by rw [upd_ne (ho i ds l q a)]; exact c, d⟩
  · obtain ⟨l, a, b, c⟩ := w.wf.od q
    exact ⟨l, a, b, by rw [upd_ne (fun z => hd _ (z ▸ c))]; exact c⟩
  · have n : b ≠ D := fun z => by rw [z, h0] at q; cases q
    rw [upd_ne n]; exact w.tr.hh b u q
theorem fgt_get {j : Nat} : ∀ {vs : List Nat}, j ∉ vs → (fgt S vs)[j]? = S[j]?
  | [], _ => rfl
  | i :: vs, h => by
    show ((fgt S vs).set i .no)[j]? = S[j]?
    rw [List.getElem?_set_ne (fun z => h (by rw [z]; exact List.mem_cons_self))]
    exact fgt_get fun z => h (List.mem_cons_of_mem _ z)
theorem wipe_get {σ : St} {j : Nat} : ∀ {vs : List Nat}, j ∉ vs → (L2.wipe σ vs)[j]? = σ[j]?
  | [], _ => rfl
  | i :: vs, h => by
    show ((L2.wipe σ vs).set i none)[j]? = σ[j]?
    rw [List.getElem?_set_ne (fun z => h (by rw [z]; exact List.mem_cons_self))]
    exact wipe_get fun z => h (List.mem_cons_of_mem _ z)
def mW (X : Cx) (scope : Scope) (e : Expr) : TE := fun σ H Q => Blk X scope fun Y => tW Y e σ H Q
theorem pe_mW {scope : Scope} {e : Expr} (s : Shared) (H : Hp) (C : Addr) (cl : List (Str × Addr)) (fp : List Addr) : PE (X.blk s H scope (compEnvC scope cl C X.env) fp) e (mW X scope e) :=
  ⟨fun pins s' σ H' Q I h => pe_tW.run pins s' σ H' Q I (h s H C cl fp)⟩
theorem mW_go {scope : Scope} {e : Expr} {d : D} {σ : St} {H F : Hp} {Q : VK} (h : Blk X scope fun Y => XW Y e S d) (w : Wf X.K F H σ S) (k : ∀ v F' H', Tr F H F' H' → VW X.K F' H' v d → Q v H') : mW X scope e σ H Q := fun s H1 C cl fp => tW_go (h s H1 C cl fp) w k
theorem erase_ints (ns : List Int) (m : Nat) : (ns.map D.int).eraseIdx m = (ns.eraseIdx m).map D.int := by
  induction ns generalizing m with
  | nil => rfl
  | cons x xs ih =>
    cases m with
    | zero => rfl
    | succ m => show D.int x :: (xs.map D.int).eraseIdx m = D.int x :: (xs.eraseIdx m).map D.int; rw [ih]
theorem set_own {x : Sl} {j : Nat} (h : S[j]? = some x) : S.set j x = S := by
  apply List.ext_getElem?
  intro i
  by_cases e : j = i
  · subst e; rw [List.getElem?_set_self (List.getElem?_eq_some_iff.mp h).1, h]
  · rw [List.getElem?_set_ne e]
theorem xs_retPop {tg iter arg : Expr} {nl : Str} {pl p2 p3 : Pos} {scope : Scope} {own : List (Str × Nat)} {n : Nat} {pos' : Pos} (jl jk : Nat) {ns : List Int} (f : Nat → List Int → Int) (l : S.length = X.N.length) (hc : X.calm = true) (hN : X.N.Nodup)
    (hs : S[jl]? = some (.ow (ns.map D.int))) (hjl : jl ∉ own.map (·.2)) (hjk : jk ≠ jl) (hf : XFc X scope tg iter S (own.map (·.2)) (List.range n) (fun (a : Nat) S => S.set jk (.im (.int (a : Int))))) (ok : BlkOk X.N X.env.scope scope own)
    (hsz : n < 16777216) (hns : ns.length ≤ 16777216) (hbd : ∀ i es, i < n → es.length + i = ns.length → 0 ≤ f i es ∧ f i es < es.length)
    (ha : ∀ i es, i < n → es.length + i = ns.length → Blk X scope fun Y => XW Y arg ((fgt (S.set jl (.ow (es.map D.int))) (own.map (·.2))).set jk (.im (.int (i : Int)))) (.int (f i es)))
    (pe : (Blk X scope fun Y => PE Y arg (mW X scope arg)) → Blk X scope fun Y => PE Y (.Call (.Attribute (.Name nl pl) "pop" p2) [arg] [] p3) (tBM X.K "list" rPopAt (tVar jl) (tCons (mW X scope arg) tNil)))
    (h : P.rt (.ow ((popGo f n 0 ns).map D.int))) (hfs : ∀ x, foldedSetIterable iter X.env x = pure x := by intro _; rfl) : XSs X (.Return (some (.ListComp (.Call (.Attribute (.Name nl pl) "pop" p2) [arg] [] p3) [⟨tg, iter, [], 0⟩] scope pos')) pos :: rest) S P := by
  obtain ⟨wi, g, pi, pg, hw⟩ := hf
  refine xs_of (pss_cons (ps_ret (pe_lc hc hN pi ok pg (fun _ _ _ _ _ => pts_nil) (pe pe_mW) hfs)) pss_never) fun σ H F F0 H0 w le => ?_
  refine hw σ H F w.wf _ fun J F1 H1 t1 wk D hD => ?_
  have w1 := w.step t1
  have hF1 : F1 D = none := t1.fh.free hD
  have hH0 : H0 D = none := w1.tr.hh.free hD
  refine ⟨fun i m H' => m = n - i ∧ i ≤ n ∧ ∃ (F' : Hp) (es acc : List Int) (xs : List V), Wb X.K F0 H0 F' H' σ (S.set jl (.ow (es.map DL.D.int))) ∧ es.length + i = ns.length ∧ Same F1 F' ∧ F' D = none ∧ H' D = some (.lst xs) ∧ DdAll X.K F' xs (acc.map DL.D.int) ∧ acc ++ popGo f (n - i) i es = popGo f n 0 ns ∧ acc.length = i ∧
      (∀ (i : Nat) (ds : List DL.D) (m : Addr), (S.set jl (.ow (es.map DL.D.int)))[i]? = some (.ow ds) → σ[i]? = some (some (.ref m)) → m ≠ D), ?_, ?_⟩
  · refine ⟨n, rfl, Nat.zero_le _, F1, ns, [], [], ?_⟩
    rw [set_own hs]
    have ho : ∀ (i : Nat) (ds : List DL.D) (m : Addr), S[i]? = some (.ow ds) → σ[i]? = some (some (.ref m)) → m ≠ D := fun i ds m a b => w1.other hD a b
    exact ⟨w1.side hF1 hH0 ho (fun k e => by rw [hD] at e; cases e), rfl, Same.refl _, hF1, upd_same, .nil, rfl, rfl, ho⟩
  rintro i m H' ⟨rfl, hi, F', es, acc, xs, w', hel, sF, hFD, hHD, hxs, hpo, hacl, hot⟩
  by_cases hlt : i < n
  · refine .inr ⟨wk.go H' (sF.trans w'.wf.fh) i (by rw [List.length_range]; exact hlt), fun H2 => i + 1 ≤ n ∧ ∃ (F' : Hp) (es acc : List Int) (xs : List V), Wb X.K F0 H0 F' H2 σ (S.set jl (.ow (es.map DL.D.int))) ∧ es.length + (i + 1) = ns.length ∧ Same F1 F' ∧ F' D = none ∧ H2 D = some (.lst xs) ∧ DdAll X.K F' xs (acc.map DL.D.int) ∧ acc ++ popGo f (n - (i + 1)) (i + 1) es = popGo f n 0 ns ∧ acc.length = i + 1 ∧
      (∀ (i : Nat) (ds : List DL.D) (m : Addr), (S.set jl (.ow (es.map DL.D.int)))[i]? = some (.ow ds) → σ[i]? = some (some (.ref m)) → m ≠ D), fun H2 q => ?_, fun x H2 y => ?_⟩
    · exact ⟨n - (i + 1), by omega, rfl, q⟩
    have w2 := Wf.wipe w'.wf (own.map (·.2))
    refine wk.yld i i (L2.wipe σ (own.map (·.2))) H' F' (fgt (S.set jl (.ow (es.map DL.D.int))) (own.map (·.2))) x H2 (List.getElem?_range hlt) sF w2 (by rw [fgt_length, List.length_set]; exact l) y _ ?_
    intro σ2 F2 H3 t2 w3 ew
    refine ⟨by rw [ew]; exact wipe_twice _ σ, ?_⟩
    refine iteT (B := True) ?_
    have hsl : (S.set jl (.ow (es.map DL.D.int)))[jl]? = some (.ow (es.map DL.D.int)) := List.getElem?_set_self (List.getElem?_eq_some_iff.mp hs).1
    have hs3 : ((fgt (S.set jl (.ow (es.map DL.D.int))) (own.map (·.2))).set jk (.im (.int (i : Int))))[jl]? = some (.ow (es.map DL.D.int)) := by
      rw [List.getElem?_set_ne hjk, fgt_get hjl, hsl]
    obtain ⟨m, ys, e1, e2, e3, e4⟩ := w3.ow hs3
    have hm1 : σ[jl]? = some (some (.ref m)) := by
      have q := congrArg (fun z : St => z[jl]?) ew
      have q : (L2.wipe σ2 (own.map (·.2)))[jl]? = (L2.wipe (L2.wipe σ (own.map (·.2))) (own.map (·.2)))[jl]? := q
      rw [wipe_get hjl, wipe_get hjl, wipe_get hjl, e1] at q
      exact q.symm
    have hbd' := hbd i es hlt hel
    refine ⟨.ref m, e1, .inl ⟨rfl, ys, SqL.of e3⟩, mW_go (ha i es hlt hel) w3 fun v F4 H4 t4 q4 => ?_⟩
    have hj := q4.int
    have hes := e4.len
    rw [List.length_map] at hes
    obtain ⟨jn, hjn⟩ : ∃ jn : Nat, f i es = jn := ⟨(f i es).toNat, by omega⟩
    rw [hjn] at hj
    have hjl2 : jn < es.length := by omega
    have hx : (es.map DL.D.int)[jn]? = some (.int (es.getD jn 0)) := by
      rw [List.getElem?_map, List.getElem?_eq_getElem hjl2, List.getD_eq_getElem?_getD, List.getElem?_eq_getElem hjl2]
      rfl
    obtain ⟨yv, e5, e6⟩ := e4.get hx
    have hlt' : jn < ys.length := by omega
    have t24 := t2.trans t4
    have hneD : m ≠ D := hot jl _ m hsl hm1
    have wA := w'.step t24
    have wB := wA.put hsl hm1 ((e4.mono t4.ff).erase jn)
    rw [erase_ints, List.set_set] at wB
    have hF4D : F4 D = none := t24.out hHD hFD
    have hH4D := t24.hh _ _ hHD
    have hot' : ∀ (i : Nat) (ds : List DL.D) (m : Addr), (S.set jl (.ow ((es.eraseIdx jn).map DL.D.int)))[i]? = some (.ow ds) → σ[i]? = some (some (.ref m)) → m ≠ D := by
      intro i2 ds m2 a b
      rcases set_get a with ⟨rfl, _⟩ | ⟨ne, z⟩
      · rw [hm1] at b; cases b; exact hneD
      · exact hot i2 ds m2 (by rw [List.getElem?_set_ne ne]; exact z) b
    refine ⟨m, ys, (jn : Int), jn, yv, rfl, by rw [hj], t4.hh _ _ e3, by omega, by omega, (ixN_seq (ixN_nat hlt')).1, e5, ?_⟩
    have hxl := hxs.len
    rw [List.length_map] at hxl
    refine ⟨xs, by rw [upd_ne (Ne.symm hneD)]; exact hH4D, szlt (by omega), hlt, F4, es.eraseIdx jn, acc ++ [es.getD jn 0], xs ++ [yv], wB.side hF4D hH0 hot' (fun k e => by rw [upd_ne (Ne.symm hneD), hH4D] at e; cases e), ?_, sF.trans t24.ff, hF4D, upd_same, ?_, ?_, by rw [List.length_append, hacl]; rfl, hot'⟩
    · rw [List.length_eraseIdx_of_lt hjl2]
      omega
    · rw [List.map_append]
      exact (hxs.mono t24.ff).app (.cons (e6.mono t4.ff) .nil)
    · rw [← hpo, List.append_assoc]
      congr 1
      obtain ⟨q, hq⟩ : ∃ q, n - i = q + 1 := ⟨n - i - 1, by omega⟩
      rw [hq, show n - (i + 1) = q by omega]
      show _ = es.getD (f i es).toNat 0 :: popGo f q (i + 1) (es.eraseIdx (f i es).toNat)
      rw [hjn, Int.toNat_natCast]
      rfl
  · have e : i = n := by omega
    subst e
    rw [Nat.sub_self] at hpo
    have hpo : acc ++ [] = popGo f i 0 ns := hpo
    rw [List.append_nil] at hpo
    refine .inl ⟨wk.stop H' (sF.trans w'.wf.fh) _ (by rw [List.length_range]), F', .ow ((popGo f i 0 ns).map DL.D.int), w'.tr, ⟨D, xs, rfl, hH0, hFD, hHD, ?_⟩, h⟩
    rw [← hpo]
    exact hxs
/-- xs.pop(i), what is popped let go -/
theorem xs_popX {a : Expr} (i : Nat) {ns : List Int} {n : Str} {p p2 p3 : Pos} {j : Int} (hs : S[i]? = some (.ow (ns.map D.int))) (hN : X.N[i]? = some n) (hv : Vis X.env.scope n) (hj : XW X a S (.int j)) (h0 : 0 ≤ j) (h1 : j < ns.length) (hsz : ns.length ≤ 16777216)
    (k : XSs X rest (S.set i (.ow ((ns.eraseIdx j.toNat).map D.int))) P)
    (pe : ∀ {ta : TA}, PA X [a] ta → PE X (.Call (.Attribute (.Name n p) "pop" p2) [a] [] p3) (tBM X.K "list" rPopAt (tVar i) ta) := by
      intro ta ha; exact pe_bm PySem.F.plainAttrs_list PySem.F.slot_list_pop PySem.F.type_list_pop mt_popAt (pv _) ha)
    (na : starEach [a] X.env = (false, eval a X.env) :: starEach [] X.env := by rfl)
    (hw : swapsWith (.Call (.Attribute (.Name n p) "pop" p2) [a] [] p3) none pos.line X.env = pure false := by rfl) : XSs X (.Expr (.Call (.Attribute (.Name n p) "pop" p2) [a] [] p3) pos :: rest) S P :=
  xs_of (pss_cons (ps_expr (pe (pa_cons pe_tW pa_nil na)) hw) pss_tS) fun σ H F F0 H0 w l => by
    obtain ⟨m, xs, e1, e2, e3, e4⟩ := w.wf.ow hs
    refine ⟨.ref m, e1, .inl ⟨rfl, xs, SqL.of e3⟩, tW_go hj w.wf fun v F' H' t q => ?_⟩
    have w' := w.step t
    have h3 := t.hh _ _ e3
    have hls := e4.len
    rw [List.length_map] at hls
    obtain ⟨jn, rfl⟩ : ∃ jn : Nat, j = jn := ⟨j.toNat, by omega⟩
    have hlt : jn < xs.length := by omega
    refine ⟨m, xs, (jn : Int), jn, xs[jn], rfl, by rw [q.int], h3, by omega, by omega, (ixN_seq (ixN_nat hlt)).1, List.getElem?_eq_getElem hlt, ?_⟩
    have z := w'.put hs e1 ((e4.mono t.ff).erase jn)
    rw [erase_ints] at z
    rw [Int.toNat_natCast] at k
    exact tS_self k z (by rw [List.length_set]; exact l)
end
end DL

set_option Elab.async false
set_option linter.all false
set_option maxRecDepth 100000
set_option maxHeartbeats 2000000
/-! DLp: an own dict, its keys tuples of whole numbers, each to True. -/
namespace DL
open PySem L2
theorem kV_ints : ∀ ns : List Int, (ns.map Sum.inl : List Key).map kV = ns.map V.int
  | [] => rfl
  | n :: ns => by
    show V.int n :: ((ns.map Sum.inl : List Key).map kV) = _
    rw [kV_ints ns]
    rfl
theorem inl_inj : ∀ {ns ms : List Int}, (ns.map Sum.inl : List Key) = ms.map Sum.inl → ns = ms
  | [], [], _ => rfl
  | [], m :: ms, h => by cases h
  | n :: ns, [], h => by cases h
  | n :: ns, m :: ms, h => by
    have h : (Sum.inl n : Key) :: (ns.map Sum.inl : List Key) = Sum.inl m :: ms.map Sum.inl := h
    injection h with h1 h2
    cases h1
    rw [inl_inj h2]
theorem dicT_none : ∀ {ks : List (List Int)} {k : List Int}, k ∉ ks → valV (dicT ks) (k.map Sum.inl) = none
  | [], _, _ => rfl
  | j :: ks, k, h => by
    have ih := dicT_none (ks := ks) (k := k) fun q => h (List.mem_cons_of_mem _ q)
    have ne : ¬ (j.map Sum.inl : List Key) = k.map Sum.inl := fun z => h (by rw [inl_inj z]; exact List.mem_cons_self)
    unfold valV at ih ⊢
    show Option.map _ (List.find? _ (((j.map Sum.inl : List Key), V.bl true) :: dicT ks)) = none
    rw [List.find?_cons, show decide ((j.map Sum.inl : List Key) = k.map Sum.inl) = false from decide_eq_false ne]
    exact ih
theorem dicT_some : ∀ {ks : List (List Int)} {k : List Int}, k ∈ ks → valV (dicT ks) (k.map Sum.inl) = some (V.bl true)
  | [], _, h => by cases h
  | j :: ks, k, h => by
    unfold valV
    show Option.map _ (List.find? _ (((j.map Sum.inl : List Key), V.bl true) :: dicT ks)) = some (V.bl true)
    by_cases e : j = k
    · subst e
      rw [List.find?_cons, show decide ((j.map Sum.inl : List Key) = j.map Sum.inl) = true from decide_eq_true rfl]
      rfl
    · have hk : k ∈ ks := (List.mem_cons.mp h).elim (fun z => absurd z.symm e) id
      have ih := dicT_some (ks := ks) (k := k) hk
      unfold valV at ih
      rw [List.find?_cons, show decide ((j.map Sum.inl : List Key) = k.map Sum.inl) = false from decide_eq_false fun z => e (inl_inj z)]
      exact ih
section
variable {K : PySem.W.Frag} {F0 H0 F H : Hp} {σ : St} {S : Sg} {i : Nat} {ks js : List (List Int)}
theorem Wb.set_od {p : Addr} (w : Wb K F0 H0 F H σ S) (hi : i < S.length) (h0 : H0 p = none) (hf : F p = none) (hh : H p = some (.dT (dicT ks)))
    (hn : ∀ {j : Nat} {js : List (List Int)} {l : Addr}, S[j]? = some (.od js) → σ[j]? = some (some (.ref l)) → l ≠ p) : Wb K F0 H0 F H (σ.set i (some (.ref p))) (S.set i (.od ks)) := by
  have hs : (σ.set i (some (V.ref p)))[i]? = some (some (.ref p)) := List.getElem?_set_self (by rw [w.wf.len]; exact hi)
  refine ⟨⟨w.wf.fh, by rw [List.length_set, List.length_set]; exact w.wf.len, fun {j e} q => ?_, fun {j e} q => ?_, fun {j k a b m} p q r s => ?_, fun {j e} q => ?_, fun {j k a b m} p q r s => ?_⟩, w.tr, fun {j e m} p q => ?_, fun {j e m} p q => ?_⟩
  · rcases set_get q with ⟨rfl, z⟩ | ⟨n, z⟩
    · cases z
    · rw [List.getElem?_set_ne n]; exact w.wf.im z
  · rcases set_get q with ⟨rfl, z⟩ | ⟨n, z⟩
    · cases z
    · rw [List.getElem?_set_ne n]; exact w.wf.ow z
  · rcases set_get p with ⟨rfl, z⟩ | ⟨n, z⟩
    · cases z
    · rcases set_get q with ⟨rfl, z'⟩ | ⟨n', z'⟩
      · cases z'
      · rw [List.getElem?_set_ne n] at r; rw [List.getElem?_set_ne n'] at s; exact w.wf.sep z z' r s
  · rcases set_get q with ⟨rfl, z⟩ | ⟨n, z⟩
    · cases z; exact ⟨_, hs, hf, hh⟩
    · rw [List.getElem?_set_ne n]; exact w.wf.od z
  · rcases set_get p with ⟨rfl, z⟩ | ⟨n, z⟩
    · rcases set_get q with ⟨rfl, z'⟩ | ⟨n', z'⟩
      · rfl
      · rw [hs] at r; cases r
        rw [List.getElem?_set_ne n'] at s
        exact absurd rfl (hn z' s)
    · rcases set_get q with ⟨rfl, z'⟩ | ⟨n', z'⟩
      · rw [hs] at s; cases s
        rw [List.getElem?_set_ne n] at r
        exact absurd rfl (hn z r)
      · rw [List.getElem?_set_ne n] at r; rw [List.getElem?_set_ne n'] at s; exact w.wf.sed z z' r s
  · rcases set_get p with ⟨rfl, z⟩ | ⟨n, z⟩
    · cases z
    · rw [List.getElem?_set_ne n] at q; exact w.own z q
  · rcases set_get p with ⟨rfl, z⟩ | ⟨n, z⟩
    · rw [hs] at q; cases q; exact h0
    · rw [List.getElem?_set_ne n] at q; exact w.ond z q
theorem Wb.otherD (w : Wb K F0 H0 F H σ S) {p : Addr} (hp : H p = none) {j : Nat} {m : Addr} (a : S[j]? = some (.od js)) (b : σ[j]? = some (some (.ref m))) : m ≠ p := fun z => by
  obtain ⟨l, e1, _, e2⟩ := w.wf.od a
  rw [b] at e1; cases e1
  rw [z, hp] at e2; cases e2
/-- the own dict in slot i is changed -/
theorem Wb.putD {l : Addr} (w : Wb K F0 H0 F H σ S) (hs : S[i]? = some (.od ks)) (hl : σ[i]? = some (some (.ref l))) : Wb K F0 H0 F (upd H l (.dT (dicT js))) σ (S.set i (.od js)) := by
  obtain ⟨l', e1, f1, h1⟩ := w.wf.od hs
  rw [hl] at e1; cases e1
  have h0 := w.ond hs hl
  have sf : Same F (upd H l (.dT (dicT js))) := fun b u q => by
    have n : b ≠ l := fun z => by rw [z, f1] at q; cases q
    rw [upd_ne n]; exact w.wf.fh b u q
  refine ⟨⟨sf, by rw [List.length_set]; exact w.wf.len, fun {j e} q => ?_, fun {j e} q => ?_, fun {j k a b m} p q r s => ?_, fun {j e} q => ?_, fun {j k a b m} p q r s => ?_⟩, ⟨w.tr.ff, fun b u q => ?_, sf, w.tr.nw⟩, fun {j e m} p q => ?_, fun {j e m} p q => ?_⟩
  · rcases set_get q with ⟨rfl, z⟩ | ⟨n, z⟩
    · cases z
    · exact w.wf.im z
  · rcases set_get q with ⟨rfl, z⟩ | ⟨n, z⟩
    · cases z
    · obtain ⟨m, xs, a, b, c, d⟩ := w.wf.ow z
      have ne : m ≠ l := fun y => by subst y; rw [h1] at c; cases c
      exact ⟨m, xs, a, b, by rw [upd_ne ne]; exact c, d⟩
  · rcases set_get p with ⟨rfl, z⟩ | ⟨_, z⟩
    · cases z
    · rcases set_get q with ⟨rfl, z'⟩ | ⟨_, z'⟩
      · cases z'
      · exact w.wf.sep z z' r s
  · rcases set_get q with ⟨rfl, z⟩ | ⟨n, z⟩
    · cases z; exact ⟨l, hl, f1, upd_same⟩
    · obtain ⟨m, a, b, c⟩ := w.wf.od z
      have ne : m ≠ l := fun y => by subst y; exact n (w.wf.sed hs z hl a)
      exact ⟨m, a, b, by rw [upd_ne ne]; exact c⟩
  · have hp : ∃ x, S[j]? = some (.od x) := by
      rcases set_get p with ⟨rfl, _⟩ | ⟨_, z⟩
      · exact ⟨_, hs⟩
      · exact ⟨_, z⟩
    have hq : ∃ x, S[k]? = some (.od x) := by
      rcases set_get q with ⟨rfl, _⟩ | ⟨_, z⟩
      · exact ⟨_, hs⟩
      · exact ⟨_, z⟩
    obtain ⟨x, hp⟩ := hp
    obtain ⟨y, hq⟩ := hq
    exact w.wf.sed hp hq r s
  · have n : b ≠ l := fun z => by rw [z, h0] at q; cases q
    rw [upd_ne n]; exact w.tr.hh b u q
  · rcases set_get p with ⟨rfl, z⟩ | ⟨_, z⟩
    · cases z
    · exact w.own z q
  · rcases set_get p with ⟨rfl, _⟩ | ⟨_, z⟩
    · exact w.ond hs q
    · exact w.ond z q
end
section
variable {X : Cx} {S : Sg} {P : Po} {rest : List Stmt} {pos : Pos} {a : Expr} {ks : List (List Int)} {ns : List Int} {n : Str}
/-- d = {} -/
theorem xs_dnew (i : Nat) {p' dp : Pos} (hN : X.N.Nodup) (hi : X.N[i]? = some n) (hx : Loc X.env.scope n) (k : XSs X rest (S.set i (.od [])) P) (hs : swapsWith (.Dict [] [] dp) (some (.Name n p')) pos.line X.env = pure false := by rfl)
    (hf : X.fn n = true ∨ X.env.scope.names.lookup n = some .local := by first | exact .inl rfl | exact .inr rfl | assumption) : XSs X (.Assign [.Name n p'] (.Dict [] [] dp) pos :: rest) S P :=
  xs_of (pss_cons (ps_set hN hi hx pe_dnewT hs hf) pss_tS) fun σ H F F0 H0 w l => fun p hp =>
    tS_self k ((w.step (Tr.own w.wf.fh (o := .dT []) hp)).set_od (ks := []) (lt_N hi l) (w.tr.hh.free hp) (w.wf.fh.free hp) upd_same fun a b => w.otherD hp a b) (by rw [List.length_set]; exact l)
/-- d[k] = True, k not there -/
theorem xs_dput (i : Nat) {p p2 pc : Pos} {kc : Nat} (hr : Room 0 X.A) (hs : S[i]? = some (.od ks)) (hN : X.N[i]? = some n) (hv : Vis X.env.scope n) (ha : XI X a S (.tup (ns.map D.int))) (hn : ns ∉ ks) (hz : ks.length < 16777216)
    (k : XSs X rest (S.set i (.od (ks ++ [ns]))) P) (hd : (n == ("__debug__" : Str)) = false := by decide) (hcd : (n == ("__classdict__" : Str)) = false := by decide)
    (hw : swapsWith (.Constant (.bool true) kc pc) (some (.Subscript (.Name n p) a p2)) pos.line X.env = pure false := by rfl) : XSs X (.Assign [.Subscript (.Name n p) a p2] (.Constant (.bool true) kc pc) pos :: rest) S P :=
  xs_of (pss_cons (ps_dput (hu_of hr) (pe_var hN hv hd hcd) pe_tE pe_tE hw) pss_tS) fun σ H F F0 H0 w l => tE_go (xi_bl : XI X (.Constant (.bool true) kc pc) S (.bl true)) w.wf fun v1 F1 H1 t1 z1 => by
    have z1 : Dd X.K F1 v1 (.bl true) := z1
    have ev : v1 = V.bl true := by cases z1; rfl
    subst ev
    have w1 := w.step t1
    obtain ⟨m, e1, e2, e3⟩ := w1.wf.od hs
    refine ⟨.ref m, e1, tE_go ha w1.wf fun v2 F2 H2 t2 z2 => ?_⟩
    have w2 := w1.step t2
    have z2 : Dd X.K F2 v2 (.tup (ns.map D.int)) := z2
    generalize hg : ns.map D.int = gs at z2
    cases z2 with
    | tup h1 h2 =>
      subst hg
      have z := h2.ints
      subst z
      have h3 := t2.hh _ _ e3
      refine ⟨m, upd H2 m (.dT (dicT (ks ++ [ns]))), rfl, .inr ⟨dicT ks, ns.map Sum.inl, _, h3, rfl, by rw [kV_ints]; exact t2.fh _ _ h1, by unfold dicT; rw [List.length_map]; exact szlt hz, ?_⟩, ?_⟩
      · rw [putK_new _ (dicT_none hn)]
        unfold dicT
        rw [List.map_append]
        rfl
      · exact tS_self k (w2.putD hs e1) (by rw [List.length_set]; exact l)
/-- len(d) -/
theorem xi_lenD (i : Nat) {p p2 : Pos} (hs : S[i]? = some (.od ks)) (hN : X.N[i]? = some n) (hv : Vis X.env.scope n) (hg : Gl X "len") (hm : X.mg "len" = none) (hd : (n == ("__debug__" : Str)) = false := by decide) (hcd : (n == ("__classdict__" : Str)) = false := by decide)
    (na : starEach [.Name n p] X.env = (false, eval (.Name n p) X.env) :: starEach [] X.env := by rfl) : XI X (.Call (.Name "len" p2) [.Name n p] [] pos) S (.int ks.length) :=
  xe_of (pe_callB call_len_dT hg hm PySem.boot_len (pa_cons (pe_var hN hv hd hcd) pa_nil na)) fun σ H F w => by
    obtain ⟨m, e1, e2, e3⟩ := w.od hs
    refine ⟨.ref m, e1, m, dicT ks, rfl, e3, F, .refl w.fh, ?_⟩
    have e : (dicT ks).length = ks.length := by unfold dicT; rw [List.length_map]
    rw [e]
    exact .int _
/-- k in d, k not in d -/
theorem xt_inD (i : Nat) {p : Pos} (hr : Room 0 X.A) (hs : S[i]? = some (.od ks)) (hN : X.N[i]? = some n) (hv : Vis X.env.scope n) (ha : XI X a S (.tup (ns.map D.int))) (hd : (n == ("__debug__" : Str)) = false := by decide) (hcd : (n == ("__classdict__" : Str)) = false := by decide) :
    XT X (.Compare a [.NotIn] [.Name n p] pos) S (!decide (ns ∈ ks)) :=
  xt_of (pt_cmp (pc_dnotin (hu_of hr) pe_tE (pe_var hN hv hd hcd))) fun σ H F w => tE_go ha w fun v F1 H1 t1 z1 => by
    obtain ⟨m, e1, e2, e3⟩ := (w.step t1).od hs
    have z1 : Dd X.K F1 v (.tup (ns.map D.int)) := z1
    generalize hg : ns.map D.int = gs at z1
    cases z1 with
    | tup h1 h2 =>
      subst hg
      have z := h2.ints
      subst z
      refine ⟨.ref m, e1, m, valV (dicT ks) (ns.map Sum.inl), rfl, .inr ⟨dicT ks, ns.map Sum.inl, _, .inl e3, rfl, by rw [kV_ints]; exact t1.fh _ _ h1, rfl⟩, ?_⟩
      by_cases c : ns ∈ ks
      · rw [dicT_some c, decide_eq_true c]
        exact ⟨_, rfl, F1, t1, rfl⟩
      · rw [dicT_none c, decide_eq_false c]
        exact ⟨_, rfl, F1, t1, rfl⟩
end
end DL

set_option Elab.async false
set_option linter.all false
set_option maxRecDepth 100000
set_option maxHeartbeats 4000000

/-! the draws, plainly -/
namespace LM
def cellV (ns : List Int) (k : Int) : Int :=
  if k < (ns.length : Int) then ns.getD k.toNat 0 else if (ns.length : Int) = 0 then 7919 * k + 101 else ns.getD (k % (ns.length : Int)).toNat 0 % 1000003 + 7919 * k
def primesL : List Int := [2147483647, 2147483629, 2147483587, 2147483579, 2147483563, 2147483549, 2147483543, 2147483497]
def pAt (i : Int) : Int := primesL.getD i.toNat 0
theorem pAt_bd {i : Int} (h0 : 0 ≤ i) (h1 : i < 8) : 2147483497 ≤ pAt i ∧ pAt i ≤ 2147483647 := by
  have h : i = 0 ∨ i = 1 ∨ i = 2 ∨ i = 3 ∨ i = 4 ∨ i = 5 ∨ i = 6 ∨ i = 7 := by omega
  rcases h with rfl | rfl | rfl | rfl | rfl | rfl | rfl | rfl <;> decide
theorem pAt_mod (i : Int) : 2147483497 ≤ pAt (i % 8) ∧ pAt (i % 8) ≤ 2147483647 := pAt_bd (Int.emod_nonneg _ (by decide)) (Int.emod_lt_of_pos _ (by decide))
def mashOf (cell k j : Int) : Int :=
  let m2 := cell % pAt (j % 8) * (48271 + 2 * j * j) + 7919 * (j + 1) * (j + 1) + 104729 * k
  let m3 := m2 % pAt ((3 * j + k) % 8)
  m3 * m3 * m3 % pAt ((j + 5) % 8)
def restAt (rest base : Int) : Nat → Int
  | 0 => rest
  | j + 1 => restAt rest base j / base
def rest0 (cell : Int) : Int := if decide ((10 : Int) ^ (18 : Int).toNat ≤ cell) = true then cell else 0
def drawOf (cell k base : Int) (j : Nat) : Int := (if decide (0 < restAt (rest0 cell) base j) = true then restAt (rest0 cell) base j else mashOf cell k (j : Int)) % base
def lawDraws (ns : List Int) (k many base : Int) : List Int := (List.range many.toNat).map (drawOf (cellV ns k) k base)
theorem lawDraws_length (ns : List Int) (k many base : Int) : (lawDraws ns k many base).length = many.toNat := by unfold lawDraws; rw [List.length_map, List.length_range]
theorem lawDraws_bd (ns : List Int) (k many : Int) {base : Int} (hb : 0 < base) : ∀ x ∈ lawDraws ns k many base, 0 ≤ x ∧ x < base := by
  intro x hx
  unfold lawDraws at hx
  obtain ⟨j, _, rfl⟩ := List.mem_map.mp hx
  exact ⟨Int.emod_nonneg _ (by omega), Int.emod_lt_of_pos _ hb⟩
theorem getD_mem {α : Type} {l : List α} {i : Nat} {d : α} (h : i < l.length) : l.getD i d ∈ l := by
  rw [List.getD_eq_getElem?_getD, List.getElem?_eq_getElem h]
  exact List.getElem_mem h
theorem lawDraws_at (ns : List Int) (k many : Int) {base : Int} (hb : 0 < base) {i : Nat} (hi : i < many.toNat) : 0 ≤ (lawDraws ns k many base).getD i 0 ∧ (lawDraws ns k many base).getD i 0 < base :=
  lawDraws_bd ns k many hb _ (getD_mem (by rw [lawDraws_length]; exact hi))
theorem emod_bd {x p : Int} (h : 0 < p) : 0 ≤ x % p ∧ x % p < p := ⟨Int.emod_nonneg _ (by omega), Int.emod_lt_of_pos _ h⟩
end LM

/-! rules and orders, plainly -/
namespace LM
open PySem L2 DL
inductive Rule where
  | step (k : Int) | row (ss : List Int) | own (f : Int) (ss : List Int)
def Rule.tag : Rule → Str
  | .step _ => "step"
  | .row _ => "row"
  | .own _ _ => "own"
def Rule.fst : Rule → Int
  | .step k => k
  | .row _ => 0
  | .own f _ => f
def Rule.steps : Rule → List Int
  | .step _ => []
  | .row ss => ss
  | .own _ ss => ss
def Rule.ds : Rule → List D
  | .step k => [.str "step", .int k]
  | .row ss => [.str "row", .tup (ss.map D.int)]
  | .own f ss => [.str "own", .int f, .tup (ss.map D.int)]
theorem ne_rs : ¬ (("row" : Str) = "step") := by decide +kernel
theorem ne_sr : ¬ (("step" : Str) = "row") := by decide +kernel
theorem ne_or : ¬ (("own" : Str) = "row") := by decide +kernel
theorem ne_os : ¬ (("own" : Str) = "step") := by decide +kernel
theorem ne_so : ¬ (("step" : Str) = "own") := by decide +kernel
theorem ne_ro : ¬ (("row" : Str) = "own") := by decide +kernel
theorem Rule.at0 (r : Rule) : atI r.ds 0 = some (.str r.tag) := by cases r <;> rfl
theorem Rule.at1r {r : Rule} (h : r.tag = "row") : atI r.ds 1 = some (.tup (r.steps.map D.int)) := by
  cases r with
  | step k => exact absurd h ne_sr
  | row ss => rfl
  | own f ss => exact absurd h ne_or
theorem Rule.at1 {r : Rule} (h : ¬ r.tag = "row") : atI r.ds 1 = some (.int r.fst) := by
  cases r with
  | step k => rfl
  | row ss => exact absurd rfl h
  | own f ss => rfl
theorem Rule.at2 {r : Rule} (h : ¬ r.tag = "row") (h2 : ¬ r.tag = "step") : atI r.ds 2 = some (.tup (r.steps.map D.int)) := by
  cases r with
  | step k => exact absurd rfl h2
  | row ss => exact absurd rfl h
  | own f ss => rfl
/-- a rule of so many hands: what the walks need of it -/
def Rule.ok (r : Rule) (many : Int) : Prop := match r with
  | .step _ => True
  | .row ss => 0 < ss.length
  | .own _ ss => (ss.length : Int) = many
theorem Rule.ok_row {r : Rule} {many : Int} (h : r.ok many) (t : r.tag = "row") : 0 < r.steps.length := by
  cases r with
  | step k => exact absurd t ne_sr
  | row ss => exact h
  | own f ss => exact absurd t ne_or
theorem Rule.ok_own {r : Rule} {many : Int} (h : r.ok many) (t : ¬ r.tag = "row") (t2 : ¬ r.tag = "step") : (r.steps.length : Int) = many := by
  cases r with
  | step k => exact absurd rfl t2
  | row ss => exact absurd rfl t
  | own f ss => exact h
def placeBy (step many : Int) : Int := (if decide (0 < step) = true then step - 1 else step) % many
def Rule.first (r : Rule) : Int := if decide (r.tag = "row") = true then r.steps.getD (0 : Int).toNat 0 else r.fst
def Rule.next (r : Rule) (time hand : Int) : Int :=
  if decide (r.tag = "step") = true then r.fst else if decide (r.tag = "row") = true then r.steps.getD (time % (r.steps.length : Int)).toNat 0 else r.steps.getD hand.toNat 0
/-- the row behind the one at a place, from there on -/
def turnTo (row : List Int) (a : Int) : List Int := cut row (some (a + 1)) none ++ cut row none (some a)
def orderGo (r : Rule) : Nat → List Int → Int → Int → List Int
  | 0, _, _, _ => []
  | n + 1, row, step, t => row.getD (placeBy step row.length).toNat 0 :: orderGo r n (turnTo row (placeBy step row.length)) (r.next (t + 1) (row.getD (placeBy step row.length).toNat 0)) (t + 1)
def orderOf (r : Rule) (many : Int) : List Int := orderGo r many.toNat (rng many) r.first 0
theorem placeBy_bd (step : Int) {many : Int} (h : 0 < many) : 0 ≤ placeBy step many ∧ placeBy step many < many := ⟨Int.emod_nonneg _ (by omega), Int.emod_lt_of_pos _ h⟩
theorem turnTo_eq (row : List Int) {a : Int} (h : 0 ≤ a) : turnTo row a = row.drop (a.toNat + 1) ++ row.take a.toNat := by
  unfold turnTo
  rw [cut_from _ (by omega), cut_to _ h]
  have e : (a + 1).toNat = a.toNat + 1 := by omega
  rw [e]
theorem turnTo_length (row : List Int) {a : Int} (h : 0 ≤ a) (h2 : a < row.length) : (turnTo row a).length + 1 = row.length := by
  rw [turnTo_eq row h, List.length_append, List.length_drop, List.length_take]
  omega
theorem turnTo_mem {row : List Int} {a : Int} (h : 0 ≤ a) {x : Int} (hx : x ∈ turnTo row a) : x ∈ row := by
  rw [turnTo_eq row h] at hx
  rcases List.mem_append.mp hx with h | h
  · exact List.mem_of_mem_drop h
  · exact List.mem_of_mem_take h
theorem orderGo_length (r : Rule) : ∀ (n : Nat) (row : List Int) (step t : Int), (orderGo r n row step t).length = n
  | 0, _, _, _ => rfl
  | n + 1, row, step, t => by show (orderGo r n _ _ _).length + 1 = n + 1; rw [orderGo_length r n]
theorem orderOf_length (r : Rule) (many : Int) : (orderOf r many).length = many.toNat := orderGo_length _ _ _ _ _
theorem getD_bd {ns : List Int} {lo hi : Int} (h : ∀ x ∈ ns, lo ≤ x ∧ x < hi) {i : Nat} (hi' : i < ns.length) : lo ≤ ns.getD i 0 ∧ ns.getD i 0 < hi := h _ (getD_mem hi')
theorem mem_rng {n x : Int} (h : x ∈ rng n) : 0 ≤ x ∧ x < n := by
  unfold rng at h
  obtain ⟨k, hk, rfl⟩ := List.mem_map.mp h
  have := List.mem_range.mp hk
  omega
theorem orderGo_bd (r : Rule) {lo hi : Int} : ∀ (n : Nat) (row : List Int) (step t : Int), row.length = n → (∀ x ∈ row, lo ≤ x ∧ x < hi) → ∀ x ∈ orderGo r n row step t, lo ≤ x ∧ x < hi
  | 0, _, _, _, _, _ => by intro x h; cases h
  | n + 1, row, step, t, hl, h => by
    intro x hx
    have hp : (0 : Int) < row.length := by omega
    have hb := placeBy_bd step hp
    rcases List.mem_cons.mp hx with e | hx
    · rw [e]; exact getD_bd h (by omega)
    · exact orderGo_bd r n _ _ _ (by have := turnTo_length row hb.1 hb.2; omega) (fun y hy => h y (turnTo_mem hb.1 hy)) x hx
theorem orderOf_bd (r : Rule) (many : Int) : ∀ x ∈ orderOf r many, 0 ≤ x ∧ x < many := orderGo_bd r _ _ _ _ (rng_length many) fun x h => mem_rng h
end LM

/-! drawn rules; the walk with a gap -/
namespace LM
open PySem L2 DL
def lawStepP (d : Int) : Int := ([1 + d % 9, 1 + d % 50, 1 + d * 36 * (10 : Int) ^ (12 : Int).toNat % (10 : Int) ^ (18 : Int).toNat, (10 : Int) ^ (18 : Int).toNat] : List Int).getD (([0, 0, 1, 2, 0, 1, 3] : List Int).getD (d / 50 % 7).toNat 0).toNat 0
def lawStep (d : Int) : Int := if decide (0 < d / 350 % 3) = true then lawStepP d else 0 - lawStepP d
theorem ix7 {i : Int} (h0 : 0 ≤ i) (h1 : i < 7) : 0 ≤ ([0, 0, 1, 2, 0, 1, 3] : List Int).getD i.toNat 0 ∧ ([0, 0, 1, 2, 0, 1, 3] : List Int).getD i.toNat 0 < 4 := by
  have h : i = 0 ∨ i = 1 ∨ i = 2 ∨ i = 3 ∨ i = 4 ∨ i = 5 ∨ i = 6 := by omega
  rcases h with rfl | rfl | rfl | rfl | rfl | rfl | rfl <;> decide
theorem lawStepP_bd (d : Int) : 1 ≤ lawStepP d ∧ lawStepP d ≤ 1000000000000000000 := by
  have h := ix7 (emod_bd (x := d / 50) (p := 7) (by decide)).1 (emod_bd (x := d / 50) (p := 7) (by decide)).2
  unfold lawStepP
  generalize ([0, 0, 1, 2, 0, 1, 3] : List Int).getD (d / 50 % 7).toNat 0 = i at h
  have e : i = 0 ∨ i = 1 ∨ i = 2 ∨ i = 3 := by omega
  have h1 := emod_bd (x := d) (p := 9) (by decide)
  have h2 := emod_bd (x := d) (p := 50) (by decide)
  have p : (10 : Int) ^ (18 : Int).toNat = 1000000000000000000 := by decide
  rw [p]
  have h3 := emod_bd (x := d * 36 * (10 : Int) ^ (12 : Int).toNat) (p := 1000000000000000000) (by decide)
  rcases e with rfl | rfl | rfl | rfl
  · show 1 ≤ 1 + d % 9 ∧ 1 + d % 9 ≤ 1000000000000000000; omega
  · show 1 ≤ 1 + d % 50 ∧ 1 + d % 50 ≤ 1000000000000000000; omega
  · show 1 ≤ 1 + _ % _ ∧ 1 + _ % _ ≤ 1000000000000000000; omega
  · show 1 ≤ 1000000000000000000 ∧ 1000000000000000000 ≤ 1000000000000000000; omega
def lawRule (many : Int) (ns : List Int) : Rule :=
  if decide (ns.getD (0 : Int).toNat 0 % 4 < 2) = true then .step (lawStep (ns.getD (1 : Int).toNat 0))
  else if decide (ns.getD (0 : Int).toNat 0 % 4 = 2) = true then .row ((cut ns (some 2) (some (3 + ns.getD (1 : Int).toNat 0 % 20))).map lawStep)
  else .own (lawStep (ns.getD (1 : Int).toNat 0)) ((List.range many.toNat).map fun k : Nat => lawStep (ns.getD (2 + (k : Int) % 30).toNat 0 + 7 * (k : Int)))
theorem lawRule_ok (many : Int) (ns : List Int) (hm : 0 ≤ many) (hl : ns.length = 60) : (lawRule many ns).ok many := by
  unfold lawRule
  split
  · exact True.intro
  · split
    · show 0 < List.length _
      have h := emod_bd (x := ns.getD (1 : Int).toNat 0) (p := 20) (by decide)
      rw [List.length_map, cut_mid _ (by decide) (by omega), List.length_take, List.length_drop, hl]
      omega
    · show ((List.length _ : Nat) : Int) = many
      rw [List.length_map, List.length_range]
      omega
theorem first_step (r : Rule) (h : r.tag = "step") : r.first = r.fst := by
  unfold Rule.first
  rw [if_neg (by rw [h]; decide +kernel)]
theorem next_step_of {r : Rule} (h : r.tag = "step") (t u : Int) : r.next t u = r.fst := by
  unfold Rule.next
  rw [if_pos (by rw [h]; decide +kernel)]
/-- a row from a gap on -/
def rot (row : List Int) (g : Nat) : List Int := row.drop g ++ row.take g
theorem rot_zero (row : List Int) : rot row 0 = row := by unfold rot; simp
theorem rot_length (row : List Int) (g : Nat) : (rot row g).length = row.length := by
  unfold rot; rw [List.length_append, List.length_drop, List.length_take]; omega
theorem getD_app_l {α : Type} {xs ys : List α} {i : Nat} {d : α} (h : i < xs.length) : (xs ++ ys).getD i d = xs.getD i d := by
  rw [List.getD_eq_getElem?_getD, List.getD_eq_getElem?_getD, List.getElem?_append_left h]
theorem getD_app_r {α : Type} {xs ys : List α} {i : Nat} {d : α} (h : xs.length ≤ i) : (xs ++ ys).getD i d = ys.getD (i - xs.length) d := by
  rw [List.getD_eq_getElem?_getD, List.getD_eq_getElem?_getD, List.getElem?_append_right h]
theorem getD_drop {α : Type} {xs : List α} {g i : Nat} {d : α} : (xs.drop g).getD i d = xs.getD (g + i) d := by
  rw [List.getD_eq_getElem?_getD, List.getD_eq_getElem?_getD, List.getElem?_drop]
theorem getD_take {α : Type} {xs : List α} {g i : Nat} {d : α} (h : i < g) : (xs.take g).getD i d = xs.getD i d := by
  rw [List.getD_eq_getElem?_getD, List.getD_eq_getElem?_getD, List.getElem?_take, if_pos h]
theorem rot_at (row : List Int) {g a : Nat} (hg : g ≤ row.length) (ha : a < row.length) : (rot row g).getD a 0 = row.getD ((g + a) % row.length) 0 := by
  unfold rot
  by_cases h : g + a < row.length
  · rw [Nat.mod_eq_of_lt h, getD_app_l (by rw [List.length_drop]; omega), getD_drop]
  · have e : (g + a) % row.length = g + a - row.length := by
      rw [Nat.mod_eq_sub_mod (by omega), Nat.mod_eq_of_lt (by omega)]
    rw [e, getD_app_r (by rw [List.length_drop]; omega), List.length_drop, getD_take (by omega)]
    congr 1
    omega
theorem rot_step (row : List Int) {g a : Nat} (hg : g ≤ row.length) (ha : a < row.length) :
    (rot row g).drop (a + 1) ++ (rot row g).take a = rot (row.eraseIdx ((g + a) % row.length)) ((g + a) % row.length) := by
  have key : ∀ t : Nat, t < row.length → rot (row.eraseIdx t) t = row.drop (t + 1) ++ row.take t := by
    intro t ht
    unfold rot
    rw [List.eraseIdx_eq_take_drop_succ, List.drop_append, List.take_append, List.length_take, Nat.min_eq_left (by omega), Nat.sub_self, List.drop_zero, List.take_zero, List.append_nil,
      List.drop_of_length_le (by rw [List.length_take]; omega), List.nil_append, List.take_take, Nat.min_self]
  by_cases h : g + a < row.length
  · rw [Nat.mod_eq_of_lt h, key _ h]
    unfold rot
    have hl : a < (row.drop g).length := by rw [List.length_drop]; omega
    rw [List.drop_append, List.take_append]
    have z1 : a + 1 - (row.drop g).length = 0 := by omega
    have z2 : a - (row.drop g).length = 0 := by omega
    rw [z1, z2, List.drop_zero, List.take_zero, List.append_nil, List.drop_drop, List.append_assoc, ← List.take_add]
    rfl
  · have e : (g + a) % row.length = g + a - row.length := by
      rw [Nat.mod_eq_sub_mod (by omega), Nat.mod_eq_of_lt (by omega)]
    rw [e, key _ (by omega)]
    generalize ht : g + a - row.length = t
    unfold rot
    have hl : (row.drop g).length = row.length - g := List.length_drop
    rw [List.drop_append, List.take_append, hl]
    have z1 : a + 1 - (row.length - g) = t + 1 := by omega
    have z2 : a - (row.length - g) = t := by omega
    rw [z1, z2, List.drop_of_length_le (show (row.drop g).length ≤ a + 1 by omega), List.nil_append, List.take_of_length_le (show (row.drop g).length ≤ a by omega), List.take_take, Nat.min_eq_left (by omega), ← List.append_assoc]
    congr 1
    rw [← List.drop_append_of_le_length (by rw [List.length_take]; omega), List.take_append_drop]
/-- a step of the walk with a gap is one of the walk from the gap on -/
theorem gap_step (row : List Int) {g : Int} {a : Int} (hg0 : 0 ≤ g) (hg : g ≤ row.length) (ha0 : 0 ≤ a) (ha : a < row.length) {t : Int} (ht : t = (g + a) % row.length) :
    0 ≤ t ∧ t < row.length ∧ (rot row g.toNat).getD a.toNat 0 = row.getD t.toNat 0 ∧ turnTo (rot row g.toNat) a = rot (row.eraseIdx t.toNat) t.toNat := by
  obtain ⟨gn, rfl⟩ : ∃ n : Nat, g = n := ⟨g.toNat, by omega⟩
  obtain ⟨an, rfl⟩ : ∃ n : Nat, a = n := ⟨a.toNat, by omega⟩
  have h0 : (0 : Int) < row.length := by omega
  have hb := emod_bd (x := (gn : Int) + an) h0
  have et : t.toNat = (gn + an) % row.length := by
    rw [ht]
    have : ((gn : Int) + an) % row.length = (((gn + an) % row.length : Nat) : Int) := by push_cast; rfl
    rw [this, Int.toNat_natCast]
  rw [turnTo_eq _ ha0, et, Int.toNat_natCast, Int.toNat_natCast]
  exact ⟨by omega, by omega, rot_at row (by omega) (by omega), rot_step row (by omega) (by omega)⟩
/-- the place by the gap -/
theorem gap_place {g step n : Int} (h : 0 < n) : (if decide (0 < step) = true then (g + step - 1) % n else (g + step) % n) = (g + placeBy step n) % n := by
  unfold placeBy
  split
  · rw [Int.add_emod_emod]
    congr 1
    omega
  · rw [Int.add_emod_emod]
end LM

/-! the greatest divisor, the least multiple -/
namespace LM
def gcdV (a b : Int) : Int := ((Nat.gcd a.toNat b.toNat : Nat) : Int)
def lcmV (a b : Int) : Int := a / gcdV a b * b
def lcmUp : Nat → Int
  | 0 => 1
  | n + 1 => lcmV (lcmUp n) (1 + (n : Int))
theorem gcdV_pos {a b : Int} (h : 0 < b) : 0 < gcdV a b := by
  unfold gcdV
  have := Nat.gcd_pos_of_pos_right a.toNat (show 0 < b.toNat by omega)
  omega
theorem gcdV_le {a b : Int} (h : 0 < b) : gcdV a b ≤ b := by
  unfold gcdV
  have := Nat.gcd_le_right a.toNat (show 0 < b.toNat by omega)
  omega
theorem lcmV_nat (a b : Nat) (hb : 0 < b) : lcmV (a : Int) (b : Int) = ((Nat.lcm a b : Nat) : Int) := by
  unfold lcmV gcdV
  rw [Int.toNat_natCast, Int.toNat_natCast]
  have hg := Nat.gcd_pos_of_pos_right a hb
  obtain ⟨c, hc⟩ := Nat.gcd_dvd_left a b
  have e : Nat.lcm a b = c * b := by
    unfold Nat.lcm
    have : a * b = Nat.gcd a b * (c * b) := by rw [← Nat.mul_assoc, ← hc]
    rw [this, Nat.mul_div_cancel_left _ hg]
  rw [e]
  have e2 : (a : Int) / ((Nat.gcd a b : Nat) : Int) = (c : Int) := by
    have : (a : Int) / ((Nat.gcd a b : Nat) : Int) = ((a / Nat.gcd a b : Nat) : Int) := by push_cast; rfl
    rw [this]
    congr 1
    have h2 : a / Nat.gcd a b = Nat.gcd a b * c / Nat.gcd a b := by rw [← hc]
    rw [h2, Nat.mul_div_cancel_left _ hg]
  rw [e2]
  push_cast
  rfl
def lcmN : Nat → Nat
  | 0 => 1
  | n + 1 => Nat.lcm (lcmN n) (n + 1)
theorem lcmUp_nat : ∀ n : Nat, lcmUp n = ((lcmN n : Nat) : Int)
  | 0 => rfl
  | n + 1 => by
    show lcmV (lcmUp n) (1 + (n : Int)) = _
    rw [lcmUp_nat n]
    have : (1 : Int) + (n : Int) = ((n + 1 : Nat) : Int) := by omega
    rw [this, lcmV_nat _ _ (by omega)]
    rfl
theorem lcmN_pos : ∀ n : Nat, 0 < lcmN n
  | 0 => by decide
  | n + 1 => Nat.lcm_pos (lcmN_pos n) (by omega)
theorem lcmUp_pos (n : Nat) : 0 < lcmUp n := by rw [lcmUp_nat]; have := lcmN_pos n; omega
theorem dvd_lcmN : ∀ {n k : Nat}, 0 < k → k ≤ n → k ∣ lcmN n
  | 0, k, h, h2 => by omega
  | n + 1, k, h, h2 => by
    show k ∣ Nat.lcm (lcmN n) (n + 1)
    by_cases e : k = n + 1
    · rw [e]; exact Nat.dvd_lcm_right _ _
    · exact Nat.dvd_trans (dvd_lcmN h (by omega)) (Nat.dvd_lcm_left _ _)
end LM

/-! turned about; steps alike -/
namespace LM
open PySem L2 DL
theorem next_s (k t h : Int) : (Rule.step k).next t h = k := by
  show (if decide (("step" : Str) = "step") = true then k else _) = k
  rw [if_pos (by decide +kernel)]
theorem next_r (ss : List Int) (t h : Int) : (Rule.row ss).next t h = ss.getD (t % (ss.length : Int)).toNat 0 := by
  show (if decide (("row" : Str) = "step") = true then _ else if decide (("row" : Str) = "row") = true then ss.getD (t % (ss.length : Int)).toNat 0 else _) = _
  rw [if_neg (by decide +kernel), if_pos (by decide +kernel)]
theorem next_o (f : Int) (ss : List Int) (t h : Int) : (Rule.own f ss).next t h = ss.getD h.toNat 0 := by
  show (if decide (("own" : Str) = "step") = true then _ else if decide (("own" : Str) = "row") = true then _ else ss.getD h.toNat 0) = _
  rw [if_neg (by decide +kernel), if_neg (by decide +kernel)]
theorem first_s (k : Int) : (Rule.step k).first = k := by
  show (if decide (("step" : Str) = "row") = true then _ else k) = k
  rw [if_neg (by decide +kernel)]
theorem first_r (ss : List Int) : (Rule.row ss).first = ss.getD 0 0 := by
  show (if decide (("row" : Str) = "row") = true then ss.getD 0 0 else _) = _
  rw [if_pos (by decide +kernel)]
theorem first_o (f : Int) (ss : List Int) : (Rule.own f ss).first = f := by
  show (if decide (("own" : Str) = "row") = true then _ else f) = f
  rw [if_neg (by decide +kernel)]
def Rule.nz : Rule → Prop
  | .step k => k ≠ 0
  | .row ss => ∀ s ∈ ss, s ≠ 0
  | .own f ss => f ≠ 0 ∧ ∀ s ∈ ss, s ≠ 0
def turned : Rule → Rule
  | .step k => .step (0 - k)
  | .row ss => .row (ss.map fun s => 0 - s)
  | .own f ss => .own (0 - f) (ss.reverse.map fun s => 0 - s)
theorem turned_ok {r : Rule} {many : Int} (h : r.ok many) : (turned r).ok many := by
  cases r with
  | step k => exact True.intro
  | row ss => show 0 < (ss.map fun s => 0 - s).length; rw [List.length_map]; exact h
  | own f ss => show (((ss.reverse.map fun s => 0 - s).length : Nat) : Int) = many; rw [List.length_map, List.length_reverse]; exact h
theorem lawStep_nz (d : Int) : lawStep d ≠ 0 := by
  have := lawStepP_bd d
  unfold lawStep
  split <;> omega
theorem lawRule_nz (many : Int) (ns : List Int) : (lawRule many ns).nz := by
  unfold lawRule
  split
  · exact lawStep_nz _
  · split
    · intro s hs
      obtain ⟨x, _, rfl⟩ := List.mem_map.mp hs
      exact lawStep_nz _
    · refine ⟨lawStep_nz _, ?_⟩
      intro s hs
      obtain ⟨x, _, rfl⟩ := List.mem_map.mp hs
      exact lawStep_nz _
theorem emod_uniq {a n q t : Int} (h : a = t + n * q) (h0 : 0 ≤ t) (h1 : t < n) : a % n = t := by
  rw [h, Int.add_mul_emod_self_left, Int.emod_eq_of_lt h0 h1]
theorem placeBy_neg {s n : Int} (hs : s ≠ 0) (hn : 0 < n) : placeBy (0 - s) n = n - 1 - placeBy s n := by
  unfold placeBy
  by_cases h : 0 < s
  · rw [if_neg (by simp; omega), if_pos (by simpa using h)]
    have hb := emod_bd (x := s - 1) hn
    have hd := Int.emod_add_mul_ediv (s - 1) n
    refine emod_uniq (q := - ((s - 1) / n) - 1) ?_ (by omega) (by omega)
    rw [Int.mul_sub, Int.mul_neg, Int.mul_one]
    omega
  · have h' : 0 < 0 - s := by omega
    rw [if_pos (by simpa using h'), if_neg (by simpa using h)]
    have hb := emod_bd (x := s) hn
    have hd := Int.emod_add_mul_ediv s n
    refine emod_uniq (q := - (s / n) - 1) ?_ (by omega) (by omega)
    rw [Int.mul_sub, Int.mul_neg, Int.mul_one]
    omega
theorem getD_map0 {f : Int → Int} (h : f 0 = 0) (l : List Int) (i : Nat) : (l.map f).getD i 0 = f (l.getD i 0) := by
  rw [List.getD_eq_getElem?_getD, List.getD_eq_getElem?_getD, List.getElem?_map]
  cases l[i]? with
  | none => exact h.symm
  | some x => rfl
theorem getD_map {α β : Type} {f : α → β} {l : List α} {i : Nat} {a : α} {b : β} (h : i < l.length) : (l.map f).getD i b = f (l.getD i a) := by
  rw [List.getD_eq_getElem?_getD, List.getD_eq_getElem?_getD, List.getElem?_map, List.getElem?_eq_getElem h]
  rfl
theorem getD_rev {α : Type} {l : List α} {i : Nat} {d : α} (h : i < l.length) : l.reverse.getD i d = l.getD (l.length - 1 - i) d := by
  have h2 : i < l.reverse.length := by rw [List.length_reverse]; exact h
  rw [List.getD_eq_getElem?_getD, List.getD_eq_getElem?_getD, List.getElem?_eq_getElem h2, List.getElem_reverse, List.getElem?_eq_getElem]
theorem turned_next {r : Rule} {M : Int} (hok : r.ok M) (t hand : Int) (h0 : 0 ≤ hand) (h1 : hand < M) : (turned r).next t (M - 1 - hand) = 0 - r.next t hand := by
  cases r with
  | step k => show (Rule.step (0 - k)).next _ _ = _; rw [next_s, next_s]
  | row ss =>
    show (Rule.row _).next _ _ = _
    rw [next_r, next_r, List.length_map, getD_map0 (f := fun s => 0 - s) rfl]
  | own f ss =>
    show (Rule.own _ _).next _ _ = _
    have hl : (ss.length : Int) = M := hok
    rw [next_o, next_o, getD_map0 (f := fun s => 0 - s) rfl, getD_rev (by omega)]
    congr 2
    omega
theorem next_nz {r : Rule} {M : Int} (hok : r.ok M) (hnz : r.nz) (t hand : Int) (h0 : 0 ≤ hand) (h1 : hand < M) : r.next t hand ≠ 0 := by
  cases r with
  | step k => rw [next_s]; exact hnz
  | row ss =>
    rw [next_r]
    have hl : 0 < ss.length := hok
    have hb := emod_bd (x := t) (show (0 : Int) < (ss.length : Int) by omega)
    exact hnz _ (getD_mem (by omega))
  | own f ss =>
    rw [next_o]
    have hl : (ss.length : Int) = M := hok
    exact hnz.2 _ (getD_mem (by omega))
theorem turned_turn (f : Int → Int) (row : List Int) {a : Int} (h0 : 0 ≤ a) (h1 : a < row.length) : turnTo ((row.map f).reverse) ((row.length : Int) - 1 - a) = ((turnTo row a).map f).reverse := by
  rw [turnTo_eq _ (by omega), turnTo_eq _ h0, List.map_append, List.reverse_append, List.drop_reverse, List.take_reverse, List.length_map, List.map_take, List.map_drop]
  have e1 : row.length - (((row.length : Int) - 1 - a).toNat + 1) = a.toNat := by omega
  have e2 : row.length - ((row.length : Int) - 1 - a).toNat = a.toNat + 1 := by omega
  rw [e1, e2]
theorem turned_go {r : Rule} {M : Int} (hok : r.ok M) (hnz : r.nz) : ∀ (n : Nat) (row : List Int) (step t : Int), row.length = n → (∀ x ∈ row, 0 ≤ x ∧ x < M) → step ≠ 0 →
    orderGo (turned r) n ((row.map fun x => M - 1 - x).reverse) (0 - step) t = (orderGo r n row step t).map fun x => M - 1 - x
  | 0, _, _, _, _, _, _ => rfl
  | n + 1, row, step, t, hl, hrow, hs => by
    have hp : (0 : Int) < row.length := by omega
    have hb := placeBy_bd step hp
    have hrl : ((row.map fun x => M - 1 - x).reverse).length = row.length := by rw [List.length_reverse, List.length_map]
    show _ :: orderGo (turned r) n _ _ _ = _ :: _
    rw [hrl, placeBy_neg hs hp, turned_turn _ row hb.1 hb.2]
    have hh := getD_bd hrow (i := (placeBy step row.length).toNat) (by omega)
    have e : ((row.map fun x => M - 1 - x).reverse).getD ((row.length : Int) - 1 - placeBy step row.length).toNat 0 = M - 1 - row.getD (placeBy step row.length).toNat 0 := by
      rw [getD_rev (by rw [List.length_map]; omega), List.length_map]
      have e2 : row.length - 1 - ((row.length : Int) - 1 - placeBy step row.length).toNat = (placeBy step row.length).toNat := by omega
      rw [e2, getD_map (a := 0) (by omega)]
    rw [e, turned_next hok _ _ hh.1 hh.2]
    have ih := turned_go hok hnz n (turnTo row (placeBy step row.length)) (r.next (t + 1) (row.getD (placeBy step row.length).toNat 0)) (t + 1) (by have := turnTo_length row hb.1 hb.2; omega) (fun x hx => hrow x (turnTo_mem hb.1 hx)) (next_nz hok hnz _ _ hh.1 hh.2)
    rw [ih]
theorem rev_rng (M : Int) : ((rng M).map fun x => M - 1 - x).reverse = rng M := by
  have hl := rng_length M
  apply List.ext_getElem?
  intro i
  by_cases hi : i < M.toNat
  · have h1 : i < (((rng M).map fun x => M - 1 - x).reverse).length := by rw [List.length_reverse, List.length_map, hl]; exact hi
    rw [List.getElem?_eq_getElem h1, List.getElem?_eq_getElem (by rw [hl]; exact hi), List.getElem_reverse, List.getElem_map]
    unfold rng
    simp only [List.getElem_map, List.getElem_range, List.length_map, List.length_range]
    congr 1
    omega
  · rw [List.getElem?_eq_none (by rw [List.length_reverse, List.length_map, hl]; omega), List.getElem?_eq_none (by rw [hl]; omega)]
theorem turned_first {r : Rule} {M : Int} (hok : r.ok M) : (turned r).first = 0 - r.first := by
  cases r with
  | step k => show (Rule.step _).first = _; rw [first_s, first_s]
  | row ss => show (Rule.row _).first = _; rw [first_r, first_r, getD_map0 (f := fun s => 0 - s) rfl]
  | own f ss => show (Rule.own _ _).first = _; rw [first_o, first_o]
theorem first_nz {r : Rule} {M : Int} (hok : r.ok M) (hnz : r.nz) : r.first ≠ 0 := by
  cases r with
  | step k => rw [first_s]; exact hnz
  | row ss => rw [first_r]; exact hnz _ (getD_mem hok)
  | own f ss => rw [first_o]; exact hnz.1
theorem turned_order {r : Rule} {M : Int} (hok : r.ok M) (hnz : r.nz) : orderOf (turned r) M = (orderOf r M).map fun x => M - 1 - x := by
  have h := turned_go hok hnz M.toNat (rng M) r.first 0 (rng_length M) (fun x hx => mem_rng hx) (first_nz hok hnz)
  rw [rev_rng] at h
  unfold orderOf
  rw [turned_first hok]
  exact h
/-- each hand leaves just once -/
theorem turnTo_perm (row : List Int) {a : Int} (h0 : 0 ≤ a) (h1 : a < row.length) : (row.getD a.toNat 0 :: turnTo row a).Perm row := by
  have hlt : a.toNat < row.length := by omega
  rw [turnTo_eq row h0]
  have e : row = row.take a.toNat ++ (row.getD a.toNat 0 :: row.drop (a.toNat + 1)) := by
    rw [List.getD_eq_getElem?_getD, List.getElem?_eq_getElem hlt]
    show row = row.take a.toNat ++ (row[a.toNat] :: row.drop (a.toNat + 1))
    rw [← List.drop_eq_getElem_cons hlt, List.take_append_drop]
  refine List.Perm.trans ?_ (List.Perm.symm (List.Perm.of_eq e))
  refine List.Perm.trans ?_ List.perm_middle.symm
  exact List.Perm.cons _ List.perm_append_comm
theorem orderGo_perm (r : Rule) : ∀ (n : Nat) (row : List Int) (step t : Int), row.length = n → (orderGo r n row step t).Perm row
  | 0, row, _, _, h => by
    have e : row = [] := List.length_eq_zero_iff.mp h
    subst e
    exact List.Perm.refl _
  | n + 1, row, step, t, h => by
    have hb := placeBy_bd step (show (0 : Int) < row.length by omega)
    refine List.Perm.trans (List.Perm.cons _ (orderGo_perm r n _ _ _ ?_)) (turnTo_perm row hb.1 hb.2)
    have := turnTo_length row hb.1 hb.2
    omega
theorem orderOf_perm (r : Rule) (M : Int) : (orderOf r M).Perm (rng M) := orderGo_perm r _ _ _ _ (rng_length M)
theorem rng_sorted (M : Int) : (rng M).Pairwise (· ≤ ·) := by
  unfold rng
  rw [List.pairwise_map]
  exact List.Pairwise.imp (fun {a b} h => by omega) List.pairwise_lt_range
theorem sorted_uniq {ks ls : List Int} (h1 : ks.Pairwise (· ≤ ·)) (h2 : ls.Pairwise (· ≤ ·)) (h : ks.Perm ls) : ks = ls :=
  List.Perm.eq_of_pairwise (fun a b _ _ h1 h2 => Int.le_antisymm h1 h2) h1 h2 h
theorem turned_perm (r : Rule) (M : Int) : ((orderOf r M).map fun x => M - 1 - x).Perm (rng M) := by
  have h1 := (orderOf_perm r M).map fun x => M - 1 - x
  refine h1.trans ?_
  have h2 := List.reverse_perm ((rng M).map fun x => M - 1 - x)
  rw [rev_rng] at h2
  exact h2.symm
/-- rules whose steps go as one step does -/
theorem go_alike {r : Rule} {k : Int} {few : Int} : ∀ (n : Nat) (row : List Int) (step t : Int), row.length = n → (row.length : Int) ≤ few → (∀ x ∈ row, 0 ≤ x ∧ x < few) → 0 ≤ t →
    (∀ m : Int, 0 < m → m ≤ few → placeBy step m = placeBy k m) → (∀ (t hand m : Int), 0 ≤ t → 0 ≤ hand → hand < few → 0 < m → m ≤ few → placeBy (r.next t hand) m = placeBy k m) → orderGo r n row step t = orderGo (.step k) n row k t
  | 0, _, _, _, _, _, _, _, _, _ => rfl
  | n + 1, row, step, t, hl, hf, hrow, ht, hs, hn => by
    have hp : (0 : Int) < row.length := by omega
    have hb := placeBy_bd k hp
    show _ :: orderGo r n _ _ _ = _ :: _
    rw [hs _ hp hf, next_s]
    have hh := getD_bd hrow (i := (placeBy k row.length).toNat) (by omega)
    have hl2 := turnTo_length row hb.1 hb.2
    rw [go_alike n (turnTo row (placeBy k row.length)) _ (t + 1) (by omega) (by omega) (fun x hx => hrow x (turnTo_mem hb.1 hx)) (by omega) (fun m h0 h1 => hn _ _ m (by omega) hh.1 hh.2 h0 h1) hn]
theorem order_alike {r : Rule} {k few : Int} (h0 : 0 ≤ few) (hs : ∀ m : Int, 0 < m → m ≤ few → placeBy r.first m = placeBy k m)
    (hn : ∀ (t hand m : Int), 0 ≤ t → 0 ≤ hand → hand < few → 0 < m → m ≤ few → placeBy (r.next t hand) m = placeBy k m) : orderOf r few = orderOf (.step k) few := by
  unfold orderOf
  rw [go_alike few.toNat (rng few) r.first 0 (rng_length few) (by rw [rng_length]; omega) (fun x hx => mem_rng hx) (by omega) hs hn, first_s]
theorem placeBy_more {k c few : Int} (hk : 0 < k) (hc : 0 ≤ c) {m : Int} (h0 : 0 < m) (h1 : m ≤ few) : placeBy (k + lcmUp few.toNat * c) m = placeBy k m := by
  have hp := lcmUp_pos few.toNat
  have hd : m ∣ lcmUp few.toNat := by
    rw [lcmUp_nat]
    have h := dvd_lcmN (n := few.toNat) (k := m.toNat) (by omega) (by omega)
    have e : m = ((m.toNat : Nat) : Int) := by omega
    rw [e]
    exact Int.natCast_dvd_natCast.mpr h
  obtain ⟨q, hq⟩ := hd
  unfold placeBy
  have hnn : 0 ≤ lcmUp few.toNat * c := Int.mul_nonneg (by omega) hc
  rw [if_pos (by simp; omega), if_pos (by simpa using hk), hq]
  have e : k + m * q * c - 1 = (k - 1) + m * (q * c) := by rw [Int.mul_assoc]; omega
  rw [e, Int.add_mul_emod_self_left]
end LM

/-! walks by steps told one by one -/
namespace LM
open PySem L2 DL
def walkGo : List Int → List Int → List Int
  | [], _ => []
  | s :: ss, row => row.getD (placeBy s row.length).toNat 0 :: walkGo ss (turnTo row (placeBy s row.length))
theorem walkGo_length : ∀ (ss row : List Int), (walkGo ss row).length = ss.length
  | [], _ => rfl
  | s :: ss, row => by show (walkGo ss _).length + 1 = ss.length + 1; rw [walkGo_length ss]
theorem walkGo_step (k : Int) : ∀ (n : Nat) (row : List Int) (t : Int), walkGo (List.replicate n k) row = orderGo (.step k) n row k t
  | 0, _, _ => rfl
  | n + 1, row, t => by
    show _ :: walkGo (List.replicate n k) _ = _ :: orderGo (.step k) n _ _ _
    rw [next_s, walkGo_step k n]
theorem rot_full (row : List Int) : rot row row.length = rot row 0 := by unfold rot; simp
theorem rot_mod {row : List Int} {t : Nat} (h : t ≤ row.length) (hne : 0 < row.length) : rot row (t % row.length) = rot row t := by
  by_cases e : t = row.length
  · subst e; rw [Nat.mod_self, rot_full]
  · rw [Nat.mod_eq_of_lt (by omega)]
end LM

/-! askings joined, plainly -/
namespace LM
open DL PySem L2
theorem bez : ∀ (b a : Nat), ∃ u v : Int, ((Nat.gcd a b : Nat) : Int) = a * u + b * v
  | b, a => by
    by_cases h : b = 0
    · subst h
      exact ⟨1, 0, by rw [Nat.gcd_zero_right]; omega⟩
    · have hlt := Nat.mod_lt a (Nat.pos_of_ne_zero h)
      obtain ⟨u, v, e⟩ := bez (a % b) b
      refine ⟨v, u - ((a / b : Nat) : Int) * v, ?_⟩
      have e2 : Nat.gcd a b = Nat.gcd b (a % b) := by rw [Nat.gcd_comm, Nat.gcd_rec, Nat.gcd_comm]
      rw [e2, e]
      have e3 : (a : Int) = b * ((a / b : Nat) : Int) + ((a % b : Nat) : Int) := by
        have := Nat.div_add_mod a b
        have h2 := congrArg (fun z : Nat => (z : Int)) this
        have h2 : ((b * (a / b) + a % b : Nat) : Int) = (a : Int) := h2
        rw [← h2]
        push_cast
        rfl
      generalize ((a / b : Nat) : Int) = q at e3 ⊢
      generalize ((a % b : Nat) : Int) = r at e3 ⊢
      rw [e3, Int.add_mul, Int.mul_sub, Int.mul_assoc]
      omega
termination_by b => b
decreasing_by exact hlt
theorem nat_gcd_lcm {a b n x : Nat} (ha : 0 < a) (hn : 0 < n) (h1 : Nat.gcd a n ∣ x) (h2 : Nat.gcd b n ∣ x) : Nat.gcd (Nat.lcm a b) n ∣ x := by
  have dl : Nat.gcd (Nat.lcm a b) n ∣ Nat.lcm a b := Nat.gcd_dvd_left _ _
  have dn : Nat.gcd (Nat.lcm a b) n ∣ n := Nat.gcd_dvd_right _ _
  have dp : 0 < Nat.gcd (Nat.lcm a b) n := Nat.gcd_pos_of_pos_right _ hn
  generalize Nat.gcd (Nat.lcm a b) n = d at dl dn dp
  have key : d * Nat.gcd a b ∣ a * b := by
    have h := Nat.mul_dvd_mul_right dl (Nat.gcd a b)
    rw [Nat.lcm_mul_gcd] at h
    exact h
  have hgp : 0 < Nat.gcd a d := Nat.gcd_pos_of_pos_left _ ha
  have g1 : Nat.gcd a d ∣ a := Nat.gcd_dvd_left _ _
  have g2 : Nat.gcd a d ∣ d := Nat.gcd_dvd_right _ _
  have k1 : Nat.gcd b d ∣ b := Nat.gcd_dvd_left _ _
  have k2 : Nat.gcd b d ∣ d := Nat.gcd_dvd_right _ _
  have c1 : Nat.gcd (Nat.gcd a d) (Nat.gcd b d) ∣ Nat.gcd a d := Nat.gcd_dvd_left _ _
  have c2 : Nat.gcd (Nat.gcd a d) (Nat.gcd b d) ∣ Nat.gcd b d := Nat.gcd_dvd_right _ _
  have cp : 0 < Nat.gcd (Nat.gcd a d) (Nat.gcd b d) := Nat.gcd_pos_of_pos_left _ hgp
  have hX : d * Nat.gcd (Nat.gcd a d) (Nat.gcd b d) ∣ Nat.gcd a d * Nat.gcd b d := by
    rw [← Nat.gcd_mul_right a (Nat.gcd b d) d]
    refine Nat.dvd_gcd ?_ ?_
    · rw [← Nat.gcd_mul_left a b d]
      refine Nat.dvd_gcd ?_ ?_
      · exact Nat.dvd_trans (Nat.mul_dvd_mul_left d (Nat.dvd_gcd (Nat.dvd_trans c1 g1) (Nat.dvd_trans c2 k1))) key
      · rw [Nat.mul_comm a d]
        exact Nat.mul_dvd_mul_left d (Nat.dvd_trans c1 g1)
    · exact Nat.mul_dvd_mul_left d c2
  have hl : d ∣ Nat.lcm (Nat.gcd a d) (Nat.gcd b d) := by
    rw [← Nat.lcm_mul_gcd (Nat.gcd a d) (Nat.gcd b d)] at hX
    exact Nat.dvd_of_mul_dvd_mul_right cp hX
  refine Nat.dvd_trans hl (Nat.lcm_dvd ?_ ?_)
  · exact Nat.dvd_trans (Nat.dvd_gcd g1 (Nat.dvd_trans g2 dn)) h1
  · exact Nat.dvd_trans (Nat.dvd_gcd k1 (Nat.dvd_trans k2 dn)) h2
theorem gcdV_dvd {m n x : Int} : gcdV m n ∣ x ↔ Nat.gcd m.toNat n.toNat ∣ x.natAbs := Int.ofNat_dvd_left
theorem gcdV_left {m : Int} (n : Int) (h : 0 ≤ m) : gcdV m n ∣ m := by
  rw [gcdV_dvd, show m.natAbs = m.toNat by omega]
  exact Nat.gcd_dvd_left _ _
theorem gcdV_right (m : Int) {n : Int} (h : 0 ≤ n) : gcdV m n ∣ n := by
  rw [gcdV_dvd, show n.natAbs = n.toNat by omega]
  exact Nat.gcd_dvd_right _ _
theorem lcmV_int {m n : Int} (hm : 0 < m) (hn : 0 < n) : lcmV m n = ((Nat.lcm m.toNat n.toNat : Nat) : Int) := by
  have h := lcmV_nat m.toNat n.toNat (by omega)
  rw [Int.toNat_of_nonneg (by omega), Int.toNat_of_nonneg (by omega)] at h
  exact h
theorem lcmV_pos {m n : Int} (hm : 0 < m) (hn : 0 < n) : 0 < lcmV m n := by
  rw [lcmV_int hm hn]
  have := Nat.lcm_pos (show 0 < m.toNat by omega) (show 0 < n.toNat by omega)
  omega
theorem lcmV_left {m n : Int} (hm : 0 < m) (hn : 0 < n) : m ∣ lcmV m n := by
  rw [lcmV_int hm hn]
  have h := Int.natCast_dvd_natCast.mpr (Nat.dvd_lcm_left m.toNat n.toNat)
  rw [Int.toNat_of_nonneg (by omega)] at h
  exact h
theorem lcmV_right {m n : Int} (hm : 0 < m) (hn : 0 < n) : n ∣ lcmV m n := by
  rw [lcmV_int hm hn]
  have h := Int.natCast_dvd_natCast.mpr (Nat.dvd_lcm_right m.toNat n.toNat)
  rw [Int.toNat_of_nonneg (by omega)] at h
  exact h
theorem lcmV_dvd {m n x : Int} (hm : 0 < m) (hn : 0 < n) (h1 : m ∣ x) (h2 : n ∣ x) : lcmV m n ∣ x := by
  rw [lcmV_int hm hn, Int.ofNat_dvd_left]
  refine Nat.lcm_dvd ?_ ?_
  · have : ((m.toNat : Nat) : Int) ∣ x := by rw [Int.toNat_of_nonneg (by omega)]; exact h1
    exact Int.ofNat_dvd_left.mp this
  · have : ((n.toNat : Nat) : Int) ∣ x := by rw [Int.toNat_of_nonneg (by omega)]; exact h2
    exact Int.ofNat_dvd_left.mp this
theorem gcd_lcmV {a b n x : Int} (ha : 0 < a) (hb : 0 < b) (hn : 0 < n) (h1 : gcdV a n ∣ x) (h2 : gcdV b n ∣ x) : gcdV (lcmV a b) n ∣ x := by
  rw [gcdV_dvd] at h1 h2 ⊢
  rw [lcmV_int ha hb, Int.toNat_natCast]
  exact nat_gcd_lcm (by omega) (by omega) h1 h2
theorem gcdV_one (n : Int) (hn : 0 < n) : gcdV 1 n = 1 := by
  unfold gcdV
  rw [show (1 : Int).toNat = 1 from rfl, Nat.gcd_one_left]
  rfl
theorem crt_ex {m n r a : Int} (hm : 0 < m) (hn : 0 < n) (h : gcdV m n ∣ r - a) : ∃ i : Nat, (i : Int) < n ∧ (r + i * m - a) % n = 0 := by
  obtain ⟨c, hc⟩ := h
  obtain ⟨u, v, e⟩ := bez n.toNat m.toNat
  rw [Int.toNat_of_nonneg (by omega), Int.toNat_of_nonneg (by omega)] at e
  have e : gcdV m n = m * u + n * v := e
  rw [e] at hc
  have hb := emod_bd (x := -(c * u)) hn
  have hd := Int.emod_add_mul_ediv (-(c * u)) n
  generalize hq : -(c * u) / n = q at hd
  refine ⟨(-(c * u) % n).toNat, by omega, ?_⟩
  have hi : (((-(c * u) % n).toNat : Nat) : Int) = -(c * u) - n * q := by omega
  rw [hi]
  refine Int.emod_eq_zero_of_dvd ⟨v * c - m * q, ?_⟩
  have e1 : r + (-(c * u) - n * q) * m - a = (r - a) + (-(c * u) - n * q) * m := by omega
  rw [e1, hc]
  grind
/-- the rest that both have, from one of the first on -/
def joinR (a n m : Int) : Nat → Int → Int
  | 0, r => r
  | f + 1, r => if (r - a) % n = 0 then r else joinR a n m f (r + m)
theorem joinR_ok {a n m : Int} : ∀ (f i : Nat) (r : Int), i < f → (r + i * m - a) % n = 0 → ∃ j : Nat, joinR a n m f r = r + j * m ∧ (joinR a n m f r - a) % n = 0
  | 0, i, r, h, _ => by omega
  | f + 1, i, r, h, e => by
    by_cases c : (r - a) % n = 0
    · have e2 : joinR a n m (f + 1) r = r := by show (if _ then _ else _) = _; rw [if_pos c]
      exact ⟨0, by rw [e2]; simp, by rw [e2]; exact c⟩
    · have e2 : joinR a n m (f + 1) r = joinR a n m f (r + m) := by show (if _ then _ else _) = _; rw [if_neg c]
      cases i with
      | zero =>
        exfalso
        apply c
        have z : r + ((0 : Nat) : Int) * m - a = r - a := by simp
        rw [z] at e
        exact e
      | succ i =>
        obtain ⟨j, h1, h2⟩ := joinR_ok (a := a) (n := n) (m := m) f i (r + m) (by omega) (by
          have z : r + m + (i : Int) * m - a = r + ((i + 1 : Nat) : Int) * m - a := by push_cast; rw [Int.add_mul, Int.one_mul]; omega
          rw [z]; exact e)
        rw [e2]
        refine ⟨j + 1, ?_, h2⟩
        rw [h1]
        push_cast
        rw [Int.add_mul, Int.one_mul]
        omega
def joinV (p q : Int × Int) : Int × Int := ((joinR q.1 q.2 p.2 q.2.toNat p.1 - 1) % lcmV p.2 q.2 + 1, lcmV p.2 q.2)
theorem join_ok {p q : Int × Int} (hp : 0 < p.2) (hq : 0 < q.2) (h : gcdV p.2 q.2 ∣ p.1 - q.1) :
    0 < (joinV p q).2 ∧ 1 ≤ (joinV p q).1 ∧ (joinV p q).1 ≤ (joinV p q).2 ∧ p.2 ∣ (joinV p q).1 - p.1 ∧ q.2 ∣ (joinV p q).1 - q.1 := by
  obtain ⟨i, h1, h2⟩ := crt_ex hp hq h
  obtain ⟨j, e1, e2⟩ := joinR_ok q.2.toNat i p.1 (by omega) h2
  have hL := lcmV_pos hp hq
  have hl := lcmV_left hp hq
  have hr := lcmV_right hp hq
  show 0 < lcmV p.2 q.2 ∧ 1 ≤ (joinR q.1 q.2 p.2 q.2.toNat p.1 - 1) % lcmV p.2 q.2 + 1 ∧ (joinR q.1 q.2 p.2 q.2.toNat p.1 - 1) % lcmV p.2 q.2 + 1 ≤ lcmV p.2 q.2 ∧ p.2 ∣ (joinR q.1 q.2 p.2 q.2.toNat p.1 - 1) % lcmV p.2 q.2 + 1 - p.1 ∧ q.2 ∣ (joinR q.1 q.2 p.2 q.2.toNat p.1 - 1) % lcmV p.2 q.2 + 1 - q.1
  generalize joinR q.1 q.2 p.2 q.2.toNat p.1 = R at e1 e2
  generalize lcmV p.2 q.2 = L at hL hl hr
  have hb := emod_bd (x := R - 1) hL
  have hd := Int.emod_add_mul_ediv (R - 1) L
  have e3 : (R - 1) % L + 1 = R - L * ((R - 1) / L) := by omega
  refine ⟨hL, by omega, by omega, ?_, ?_⟩
  · rw [e3, e1]
    have : p.1 + (j : Int) * p.2 - L * ((p.1 + (j : Int) * p.2 - 1) / L) - p.1 = (j : Int) * p.2 - L * ((p.1 + (j : Int) * p.2 - 1) / L) := by omega
    rw [this]
    exact Int.dvd_sub (Int.dvd_mul_left _ _) (Int.dvd_trans hl (Int.dvd_mul_right _ _))
  · rw [e3]
    have : R - L * ((R - 1) / L) - q.1 = (R - q.1) - L * ((R - 1) / L) := by omega
    rw [this]
    exact Int.dvd_sub (Int.dvd_of_emod_eq_zero e2) (Int.dvd_trans hr (Int.dvd_mul_right _ _))
/-- what is told of askings that are joined so far, and of those to come -/
structure FG (done rest : List (Int × Int)) (p : Int × Int) : Prop where
  pos : 0 < p.2
  lo : 1 ≤ p.1
  hi : p.1 ≤ p.2
  com : ∀ q ∈ rest, gcdV p.2 q.2 ∣ p.1 - q.1
  div : ∀ q ∈ done, q.2 ∣ p.1 - q.1 ∧ q.2 ∣ p.2
  least : ∀ x : Int, (∀ q ∈ done, q.2 ∣ x) → p.2 ∣ x
def clashB (p q : Int × Int) : Bool := !decide ((p.1 - q.1) % gcdV p.2 q.2 = 0)
theorem clashB_no {p q : Int × Int} : clashB p q = false ↔ gcdV p.2 q.2 ∣ p.1 - q.1 := by
  unfold clashB
  constructor
  · intro h
    have : (p.1 - q.1) % gcdV p.2 q.2 = 0 := by simpa using h
    exact Int.dvd_of_emod_eq_zero this
  · intro h
    rw [Int.emod_eq_zero_of_dvd h]
    rfl
theorem FG.first {rows : List (Int × Int)} (h : ∀ q ∈ rows, 0 < q.2) : FG [] rows (1, 1) where
  pos := by decide
  lo := by decide
  hi := by decide
  com := fun q hq => by
    show gcdV 1 q.2 ∣ _
    rw [gcdV_one _ (h q hq)]
    exact Int.one_dvd _
  div := fun q hq => by cases hq
  least := fun x _ => Int.one_dvd _
theorem FG.step {done rest : List (Int × Int)} {q p : Int × Int} (h : FG done (q :: rest) p) (hp : ∀ z ∈ q :: rest, 0 < z.2) (hc : ∀ z ∈ rest, clashB q z = false) : FG (done ++ [q]) rest (joinV p q) := by
  have hq := hp q List.mem_cons_self
  obtain ⟨a, b, c, d, e⟩ := join_ok h.pos hq (h.com q List.mem_cons_self)
  have hl := lcmV_left h.pos hq
  have hr := lcmV_right h.pos hq
  refine ⟨a, b, c, fun z hz => ?_, fun z hz => ?_, fun x hx => ?_⟩
  · have hz0 := hp z (List.mem_cons_of_mem _ hz)
    refine gcd_lcmV h.pos hq hz0 ?_ ?_
    · have e1 := h.com z (List.mem_cons_of_mem _ hz)
      have e2 := Int.dvd_trans (gcdV_left z.2 (by have := h.pos; omega)) d
      have := Int.dvd_add e2 e1
      have z3 : (joinV p q).1 - p.1 + (p.1 - z.1) = (joinV p q).1 - z.1 := by omega
      rw [z3] at this
      exact this
    · have e1 := clashB_no.mp (hc z hz)
      have e2 := Int.dvd_trans (gcdV_left z.2 (by omega)) e
      have := Int.dvd_add e2 e1
      have z3 : (joinV p q).1 - q.1 + (q.1 - z.1) = (joinV p q).1 - z.1 := by omega
      rw [z3] at this
      exact this
  · rcases List.mem_append.mp hz with hz | hz
    · obtain ⟨z1, z2⟩ := h.div z hz
      have := Int.dvd_add (Int.dvd_trans z2 d) z1
      have z3 : (joinV p q).1 - p.1 + (p.1 - z.1) = (joinV p q).1 - z.1 := by omega
      rw [z3] at this
      exact ⟨this, Int.dvd_trans z2 hl⟩
    · rw [List.mem_singleton.mp hz]
      exact ⟨e, hr⟩
  · exact lcmV_dvd h.pos hq (h.least x fun z hz => hx z (List.mem_append_left _ hz)) (hx q (List.mem_append_right _ List.mem_cons_self))
def joinAll (rows : List (Int × Int)) : Int × Int := rows.foldl joinV (1, 1)
theorem FG.all : ∀ {rest done : List (Int × Int)} {p : Int × Int}, FG done rest p → (∀ z ∈ rest, 0 < z.2) → rest.Pairwise (fun a b => clashB a b = false) → FG (done ++ rest) [] (rest.foldl joinV p)
  | [], done, p, h, _, _ => by rw [List.append_nil]; exact h
  | q :: rest, done, p, h, hp, hc => by
    obtain ⟨c1, c2⟩ := List.pairwise_cons.mp hc
    have := FG.all (h.step hp c1) (fun z hz => hp z (List.mem_cons_of_mem _ hz)) c2
    rw [List.append_assoc] at this
    exact this
theorem joinAll_ok {rows : List (Int × Int)} (hp : ∀ z ∈ rows, 0 < z.2) (hc : rows.Pairwise (fun a b => clashB a b = false)) : FG rows [] (joinAll rows) := (FG.first hp).all hp hc
theorem joinAll_snd : ∀ (rows : List (Int × Int)) (p : Int × Int), (rows.foldl joinV p).2 = rows.foldl (fun d q => lcmV d q.2) p.2
  | [], _ => rfl
  | q :: rows, p => joinAll_snd rows (joinV p q)
theorem lcm_alt {a b : Int} (ha : 0 < a) (hb : 0 < b) : a * b / gcdV a b = lcmV a b := by
  unfold lcmV
  obtain ⟨c, hc⟩ := gcdV_left b (show 0 ≤ a by omega)
  have hg := gcdV_pos (a := a) hb
  generalize gcdV a b = g at hc hg
  subst hc
  rw [Int.mul_assoc, Int.mul_ediv_cancel_left _ (by omega), Int.mul_ediv_cancel_left _ (by omega)]
/-- all steps that do: those of the rest -/
theorem FG.steps {rows : List (Int × Int)} {p : Int × Int} (h : FG rows [] p) (s : Int) : (∀ q ∈ rows, q.2 ∣ s - q.1) ↔ p.2 ∣ s - p.1 := by
  constructor
  · intro hs
    refine h.least _ fun q hq => ?_
    have := Int.dvd_sub (hs q hq) (h.div q hq).1
    have z : s - q.1 - (p.1 - q.1) = s - p.1 := by omega
    rw [z] at this
    exact this
  · intro hs q hq
    have := Int.dvd_add (Int.dvd_trans (h.div q hq).2 hs) (h.div q hq).1
    have z : s - p.1 + (p.1 - q.1) = s - q.1 := by omega
    rw [z] at this
    exact this
theorem gcdV_comm (a b : Int) : gcdV a b = gcdV b a := by unfold gcdV; rw [Nat.gcd_comm]
theorem clashB_comm (p q : Int × Int) : clashB p q = clashB q p := by
  cases h : clashB p q with
  | false =>
    have h := clashB_no.mp h
    refine (clashB_no.mpr ?_).symm
    rw [gcdV_comm]
    have := Int.dvd_neg.mpr h
    rw [show -(p.1 - q.1) = q.1 - p.1 by omega] at this
    exact this
  | true =>
    cases g : clashB q p with
    | true => rfl
    | false =>
      have g := clashB_no.mp g
      rw [gcdV_comm] at g
      have := Int.dvd_neg.mpr g
      rw [show -(q.1 - p.1) = p.1 - q.1 by omega] at this
      rw [clashB_no.mpr this] at h
      cases h
end LM

/-! things in another order -/
namespace LM
open PySem L2 DL
theorem erase_perm : ∀ (es : List Int) (j : Nat), j < es.length → (es.getD j 0 :: es.eraseIdx j).Perm es
  | [], j, h => absurd h (Nat.not_lt_zero _)
  | x :: xs, 0, _ => List.Perm.refl _
  | x :: xs, j + 1, h => by
    have ih := erase_perm xs j (Nat.lt_of_succ_lt_succ h)
    show (xs.getD j 0 :: x :: xs.eraseIdx j).Perm (x :: xs)
    exact (List.Perm.swap _ _ _).trans (ih.cons x)
theorem popGo_perm {f : Nat → List Int → Int} : ∀ (n i : Nat) (es : List Int), es.length = n → (∀ j es', j < i + n → es'.length + j = i + n → 0 ≤ f j es' ∧ f j es' < es'.length) → (popGo f n i es).Perm es
  | 0, i, es, hl, _ => by rw [List.eq_nil_of_length_eq_zero hl]; exact List.Perm.refl _
  | n + 1, i, es, hl, h => by
    obtain ⟨h0, h1⟩ := h i es (by omega) (by omega)
    have hlt : (f i es).toNat < es.length := by omega
    refine ((popGo_perm n (i + 1) (es.eraseIdx (f i es).toNat) (by rw [List.length_eraseIdx_of_lt hlt]; omega) fun j es' a b => h j es' (by omega) (by omega)).cons _).trans ?_
    exact erase_perm es _ hlt
/-- the draw by which the next thing is taken -/
def mixF (dr : List Int) (i : Nat) (es : List Int) : Int := dr.getD ((i : Int) % (dr.length : Int)).toNat 0 % (es.length : Int)
theorem mixF_bd (dr : List Int) (i : Nat) (es : List Int) (h : 0 < es.length) : 0 ≤ mixF dr i es ∧ mixF dr i es < es.length := emod_bd (by omega)
def mixV (dr : List Int) (some : List Int) : List Int := popGo (mixF dr) some.length 0 some
theorem mixV_perm (dr some : List Int) : (mixV dr some).Perm some := popGo_perm _ _ _ rfl fun j es' a b => mixF_bd dr j es' (by omega)
end LM

/-! what each time of an order asks -/
namespace LM
open PySem L2 DL
def ix : List Int → Int → Nat
  | [], _ => 0
  | x :: xs, p => if x = p then 0 else ix xs p + 1
theorem ix_spec : ∀ {row : List Int} {p : Int}, p ∈ row → row[ix row p]? = some p ∧ ∀ m : Nat, m < ix row p → row[m]? ≠ some p
  | [], p, h => by cases h
  | x :: xs, p, h => by
    by_cases e : x = p
    · have e1 : ix (x :: xs) p = 0 := by show (if _ then _ else _) = _; rw [if_pos e]
      rw [e1]
      exact ⟨by rw [e]; rfl, fun m hm => absurd hm (Nat.not_lt_zero _)⟩
    · have e1 : ix (x :: xs) p = ix xs p + 1 := by show (if _ then _ else _) = _; rw [if_neg e]
      have hm : p ∈ xs := by
        rcases List.mem_cons.mp h with q | q
        · exact absurd q.symm e
        · exact q
      obtain ⟨h1, h2⟩ := ix_spec hm
      rw [e1]
      refine ⟨h1, fun m hm => ?_⟩
      cases m with
      | zero => intro z; exact e (Option.some.inj z)
      | succ m => exact h2 m (by omega)
theorem ix_lt {row : List Int} {p : Int} (h : p ∈ row) : ix row p < row.length := (List.getElem?_eq_some_iff.mp (ix_spec h).1).1
theorem ix_getD {row : List Int} {p : Int} (h : p ∈ row) : row.getD (ix row p) 0 = p := by rw [List.getD_eq_getElem?_getD, (ix_spec h).1]; rfl
theorem nd_at {l : List Int} (h : l.Nodup) {i j : Nat} {x : Int} (h1 : l[i]? = some x) (h2 : l[j]? = some x) : i = j := by
  have hp := List.pairwise_iff_getElem.mp h
  obtain ⟨a, ea⟩ := List.getElem?_eq_some_iff.mp h1
  obtain ⟨b, eb⟩ := List.getElem?_eq_some_iff.mp h2
  by_cases c : i < j
  · exact absurd (ea.trans eb.symm) (hp i j a b c)
  · by_cases c2 : j < i
    · exact absurd (eb.trans ea.symm) (hp j i b a c2)
    · omega
theorem ix_uniq {row : List Int} (nd : row.Nodup) {p : Int} {j : Nat} (h : row[j]? = some p) : ix row p = j := nd_at nd (ix_spec (List.mem_of_getElem? h)).1 h
def askOf (back : Bool) (row : List Int) (p : Int) : Int × Int := (if back then (row.length : Int) - (ix row p : Int) else (ix row p : Int) + 1, (row.length : Int))
def askGo (back : Bool) : List Int → List Int → List (Int × Int)
  | _, [] => []
  | row, p :: ps => askOf back row p :: askGo back (turnTo row (ix row p : Int)) ps
/-- a begun order of what sits in a row -/
structure Beg (row ps : List Int) : Prop where
  nd : ps.Nodup
  sub : ∀ x ∈ ps, x ∈ row
  rd : row.Nodup
theorem Beg.at {row ps : List Int} {p : Int} (h : Beg row (p :: ps)) : (row.getD (ix row p) 0 :: turnTo row (ix row p : Int)).Perm row := by
  have hl := ix_lt (h.sub p List.mem_cons_self)
  have := turnTo_perm row (a := (ix row p : Int)) (by omega) (by omega)
  rw [Int.toNat_natCast] at this
  exact this
theorem Beg.next {row ps : List Int} {p : Int} (h : Beg row (p :: ps)) : Beg (turnTo row (ix row p : Int)) ps := by
  have hp := h.at
  rw [ix_getD (h.sub p List.mem_cons_self)] at hp
  obtain ⟨n1, n2⟩ := List.nodup_cons.mp h.nd
  refine ⟨n2, fun x hx => ?_, (List.nodup_cons.mp (hp.nodup_iff.mpr h.rd)).2⟩
  have := hp.mem_iff.mpr (h.sub x (List.mem_cons_of_mem _ hx))
  rcases List.mem_cons.mp this with e | e
  · exact absurd (e ▸ hx) n1
  · exact e
theorem Beg.len {row ps : List Int} {p : Int} (h : Beg row (p :: ps)) : (turnTo row (ix row p : Int)).length + 1 = row.length := by
  have := h.at.length_eq
  rw [List.length_cons] at this
  exact this
theorem Beg.le : ∀ {ps row : List Int}, Beg row ps → ps.length ≤ row.length
  | [], row, _ => Nat.zero_le _
  | p :: ps, row, h => by
    have := h.next.le
    have := h.len
    rw [List.length_cons]
    omega
theorem askGo_length (back : Bool) : ∀ (ps row : List Int), (askGo back row ps).length = ps.length
  | [], _ => rfl
  | p :: ps, row => by show (askGo back _ ps).length + 1 = ps.length + 1; rw [askGo_length back ps]
theorem askGo_bd {back : Bool} : ∀ {ps row : List Int}, Beg row ps → ∀ q ∈ askGo back row ps, 1 ≤ q.1 ∧ q.1 ≤ q.2 ∧ q.2 ≤ row.length
  | [], row, _ => fun q hq => by cases hq
  | p :: ps, row, h => fun q hq => by
    have hl := ix_lt (h.sub p List.mem_cons_self)
    rcases List.mem_cons.mp hq with e | e
    · subst e
      show 1 ≤ (if back then (row.length : Int) - (ix row p : Int) else (ix row p : Int) + 1) ∧ (if back then (row.length : Int) - (ix row p : Int) else (ix row p : Int) + 1) ≤ (row.length : Int) ∧ (row.length : Int) ≤ row.length
      split <;> omega
    · have := askGo_bd h.next q e
      have := h.len
      omega
theorem emod_iff {x n a : Int} (h0 : 0 ≤ a) (h1 : a < n) : x % n = a ↔ n ∣ x - a := by
  constructor
  · intro e
    have := Int.emod_add_mul_ediv x n
    exact ⟨x / n, by omega⟩
  · rintro ⟨c, hc⟩
    have : x = a + n * c := by omega
    rw [this, Int.add_mul_emod_self_left, Int.emod_eq_of_lt h0 h1]
theorem place_iff {back : Bool} {t n a : Int} (ht : 1 ≤ t) (h0 : 0 ≤ a) (h1 : a < n) : placeBy (if back then -t else t) n = a ↔ n ∣ t - (if back then n - a else a + 1) := by
  unfold placeBy
  cases back with
  | false =>
    rw [if_neg Bool.false_ne_true, if_neg Bool.false_ne_true, if_pos (decide_eq_true (show 0 < t by omega)), emod_iff h0 h1]
    rw [show t - 1 - a = t - (a + 1) by omega]
  | true =>
    rw [if_pos rfl, if_pos rfl, if_neg (by simp; omega), emod_iff h0 h1, ← Int.dvd_neg]
    have e : t - (n - a) = -(-t - a) - n := by omega
    rw [e]
    constructor
    · intro h; exact Int.dvd_sub h (Int.dvd_refl n)
    · intro h
      have := Int.dvd_add h (Int.dvd_refl n)
      rw [show -(-t - a) - n + n = -(-t - a) by omega] at this
      exact this
theorem walk_iff {back : Bool} {t : Int} (ht : 1 ≤ t) : ∀ (ps row : List Int), Beg row ps → (walkGo (List.replicate ps.length (if back then -t else t)) row = ps ↔ ∀ q ∈ askGo back row ps, q.2 ∣ t - q.1)
  | [], row, _ => ⟨fun _ q hq => (by cases hq), fun _ => rfl⟩
  | p :: ps, row, h => by
    have hm := h.sub p List.mem_cons_self
    have hl := ix_lt hm
    have hr : (0 : Int) < row.length := by omega
    have hi := place_iff (back := back) (n := (row.length : Int)) (a := (ix row p : Int)) ht (by omega) (by omega)
    generalize hs : (if back = true then -t else t) = s at hi
    have ih := walk_iff (back := back) ht ps (turnTo row (ix row p : Int)) h.next
    rw [hs] at ih
    have hpb := placeBy_bd s hr
    show row.getD (placeBy s row.length).toNat 0 :: walkGo (List.replicate ps.length s) (turnTo row (placeBy s row.length)) = p :: ps ↔ _
    constructor
    · intro e q hq
      obtain ⟨e1, e2⟩ := List.cons.inj e
      have hx : row[(placeBy s row.length).toNat]? = some p := by
        have hlt : (placeBy s (row.length : Int)).toNat < row.length := by omega
        rw [List.getD_eq_getElem?_getD, List.getElem?_eq_getElem hlt] at e1
        rw [List.getElem?_eq_getElem hlt]
        exact congrArg some e1
      have hix := ix_uniq h.rd hx
      have hpl : placeBy s (row.length : Int) = (ix row p : Int) := by omega
      rcases List.mem_cons.mp hq with z | z
      · rw [z]; exact hi.mp hpl
      · rw [hpl] at e2; exact ih.mp e2 q z
    · intro hall
      have hpl := hi.mpr (hall (askOf back row p) List.mem_cons_self)
      rw [hpl, Int.toNat_natCast, ix_getD hm, ih.mpr fun q hq => hall q (List.mem_cons_of_mem _ hq)]
/-- two things changed about -/
def swapL (l : List Int) (i j : Nat) : List Int := (l.set i (l.getD j 0)).set j (l.getD i 0)
theorem swapL_get {l : List Int} {i j a : Nat} (hi : i < l.length) (hj : j < l.length) : (swapL l i j)[a]? = l[if a = j then i else if a = i then j else a]? := by
  unfold swapL
  by_cases e : a = j
  · subst e
    rw [if_pos rfl, List.getElem?_set_self (by rw [List.length_set]; exact hj), List.getD_eq_getElem?_getD, List.getElem?_eq_getElem hi]
    rfl
  · rw [if_neg e, List.getElem?_set_ne (Ne.symm e)]
    by_cases e2 : a = i
    · subst e2
      rw [if_pos rfl, List.getElem?_set_self hi, List.getD_eq_getElem?_getD, List.getElem?_eq_getElem hj]
      rfl
    · rw [if_neg e2, List.getElem?_set_ne (Ne.symm e2)]
theorem swapL_nodup {l : List Int} {i j : Nat} (hi : i < l.length) (hj : j < l.length) (h : l.Nodup) : (swapL l i j).Nodup := by
  refine List.pairwise_iff_getElem.mpr fun a b ha hb hab e => ?_
  have h1 : (swapL l i j)[a]? = some (swapL l i j)[a] := List.getElem?_eq_getElem ha
  have h2 : (swapL l i j)[b]? = some (swapL l i j)[a] := by rw [e]; exact List.getElem?_eq_getElem hb
  rw [swapL_get hi hj] at h1 h2
  have := nd_at h h1 h2
  revert this
  split <;> split <;> (try split) <;> (try split) <;> omega
theorem swapL_mem {l : List Int} {i j : Nat} (hi : i < l.length) (hj : j < l.length) {x : Int} (h : x ∈ swapL l i j) : x ∈ l := by
  obtain ⟨a, ha, e⟩ := List.getElem_of_mem h
  have h1 : (swapL l i j)[a]? = some x := by rw [List.getElem?_eq_getElem ha, e]
  rw [swapL_get hi hj] at h1
  exact List.mem_of_getElem? h1
theorem swapL_length (l : List Int) (i j : Nat) : (swapL l i j).length = l.length := by unfold swapL; rw [List.length_set, List.length_set]
/-- a begun order by digits -/
def begunV (many : Int) (dr : List Int) : List Int :=
  if dr.getD 1 0 % 3 = 0 then (mixV (dr.drop 2) (rng many)).take (dr.getD 0 0 % (many + 1)).toNat
  else if dr.getD 1 0 % 3 = 1 ∧ 1 < dr.getD 0 0 % (many + 1) then swapL ((walkGo (List.replicate many.toNat (1 + dr.getD 2 0 * 27720 + dr.getD 3 0)) (rng many)).take (dr.getD 0 0 % (many + 1)).toNat) (dr.getD 4 0 % (dr.getD 0 0 % (many + 1))).toNat (dr.getD 5 0 % (dr.getD 0 0 % (many + 1))).toNat
  else (walkGo (List.replicate many.toNat (1 + dr.getD 2 0 * 27720 + dr.getD 3 0)) (rng many)).take (dr.getD 0 0 % (many + 1)).toNat
theorem rng_nodup (many : Int) : (rng many).Nodup := by
  unfold rng
  refine List.Pairwise.map (R := (· ≠ ·)) (S := (· ≠ ·)) _ (fun a b h => by omega) ?_
  exact List.nodup_range
theorem beg_take {row l : List Int} (h : l.Perm row) (hr : row.Nodup) (n : Nat) : Beg row (l.take n) :=
  ⟨(h.nodup_iff.mpr hr).sublist (List.take_sublist _ _), fun x hx => h.mem_iff.mp (List.mem_of_mem_take hx), hr⟩
theorem begunV_ok {many : Int} (hm : 1 ≤ many) (dr : List Int) : Beg (rng many) (begunV many dr) := by
  have hb := emod_bd (x := dr.getD 0 0) (p := many + 1) (by omega)
  unfold begunV
  have hw : (walkGo (List.replicate many.toNat (1 + dr.getD 2 0 * 27720 + dr.getD 3 0)) (rng many)).Perm (rng many) := by
    rw [walkGo_step _ _ _ 0]
    exact orderGo_perm _ _ _ _ _ (rng_length many)
  generalize walkGo (List.replicate many.toNat (1 + dr.getD 2 0 * 27720 + dr.getD 3 0)) (rng many) = made at hw
  generalize dr.getD 0 0 % (many + 1) = long at hb
  split
  · exact beg_take (mixV_perm _ _) (rng_nodup _) _
  · have hB := beg_take hw (rng_nodup many) long.toNat
    have hl : (made.take long.toNat).length = long.toNat := by
      have := hw.length_eq
      rw [rng_length] at this
      rw [List.length_take]
      omega
    split
    · rename_i hc
      have b4 := emod_bd (x := dr.getD 4 0) (p := long) (by omega)
      have b5 := emod_bd (x := dr.getD 5 0) (p := long) (by omega)
      refine ⟨swapL_nodup (by omega) (by omega) hB.nd, fun x hx => hB.sub x (swapL_mem (by omega) (by omega) hx), hB.rd⟩
    · exact hB
theorem Beg.bd {many : Int} {ps : List Int} (h : Beg (rng many) ps) : ∀ x ∈ ps, 0 ≤ x ∧ x < many := fun x hx => mem_rng (h.sub x hx)
end LM
namespace LM
theorem rot_perm (row : List Int) (g : Nat) : (rot row g).Perm row := by
  unfold rot
  have := List.perm_append_comm (l₁ := row.drop g) (l₂ := row.take g)
  rw [List.take_append_drop] at this
  exact this
theorem ask_gap {row : List Int} {g : Nat} {p : Int} (hg : g ≤ row.length) (hm : p ∈ rot row g) (nd : row.Nodup) :
    (ix row p : Int) = ((g : Int) + (ix (rot row g) p : Int)) % (row.length : Int) ∧ ((ix row p : Int) - (g : Int)) % (row.length : Int) = (ix (rot row g) p : Int) := by
  have hlt := ix_lt hm
  rw [rot_length] at hlt
  have e := ix_getD hm
  rw [rot_at row hg hlt] at e
  have hm2 := Nat.mod_lt (g + ix (rot row g) p) (show 0 < row.length by omega)
  have h1 : row[(g + ix (rot row g) p) % row.length]? = some p := by
    rw [List.getD_eq_getElem?_getD, List.getElem?_eq_getElem hm2] at e
    rw [List.getElem?_eq_getElem hm2]
    exact congrArg some e
  have h2 := ix_uniq nd h1
  generalize ix (rot row g) p = a at hlt h2
  have h3 : (ix row p : Int) = ((g : Int) + (a : Int)) % (row.length : Int) := by
    rw [h2]
    push_cast
    rfl
  refine ⟨h3, ?_⟩
  rw [h3, Int.emod_sub_emod]
  have : (g : Int) + (a : Int) - (g : Int) = a := by omega
  rw [this, Int.emod_eq_of_lt (by omega) (by omega)]
end LM


/-! the times that clash -/
namespace LM
open PySem L2 DL
def pairD (q : Int × Int) : D := .tup [.int q.1, .int q.2]
/-- the times that clash, of the first so many later ones -/
def pairsIn (rows : List (Int × Int)) (l a : Nat) : List (Nat × Nat) := ((List.range a).filter fun a => clashB (rows.getD a (0, 0)) (rows.getD l (0, 0))).map fun a => (a, l)
def pairsOf (rows : List (Int × Int)) : Nat → List (Nat × Nat)
  | 0 => []
  | l + 1 => pairsOf rows l ++ pairsIn rows l l
def natsD (q : Nat × Nat) : D := .tup [.int (q.1 : Int), .int (q.2 : Int)]
def stepsV (rows : List (Int × Int)) : D := match pairsOf rows rows.length with
  | [] => .tup [.str "steps", .int (joinAll rows).1, .int (joinAll rows).2]
  | q :: _ => .tup [.str "clash", .int (q.1 : Int), .int (q.2 : Int)]
theorem at_pairs {rows : List (Int × Int)} {i : Int} (h0 : 0 ≤ i) (h1 : i < rows.length) : atI (rows.map pairD) i = some (pairD (rows.getD i.toNat (0, 0))) := by
  refine atI_pos h0 ?_
  have h : i.toNat < rows.length := by omega
  rw [List.getElem?_map, List.getElem?_eq_getElem h, List.getD_eq_getElem?_getD, List.getElem?_eq_getElem h]
  rfl
theorem pairsIn_succ (rows : List (Int × Int)) (l a : Nat) : pairsIn rows l (a + 1) = pairsIn rows l a ++ (if clashB (rows.getD a (0, 0)) (rows.getD l (0, 0)) = true then [(a, l)] else []) := by
  unfold pairsIn
  rw [List.range_succ, List.filter_append, List.map_append, List.filter_cons]
  split <;> rfl
theorem pairsIn_pre (rows : List (Int × Int)) (l m : Nat) : ∀ k : Nat, ∃ R, pairsIn rows l (m + k) = pairsIn rows l m ++ R
  | 0 => ⟨[], by rw [List.append_nil]; rfl⟩
  | k + 1 => by
    obtain ⟨R, e⟩ := pairsIn_pre rows l m k
    exact ⟨R ++ _, by rw [show m + (k + 1) = (m + k) + 1 from rfl, pairsIn_succ, e, List.append_assoc]⟩
theorem pairsOf_pre (rows : List (Int × Int)) (m : Nat) : ∀ k : Nat, ∃ R, pairsOf rows (m + k) = pairsOf rows m ++ R
  | 0 => ⟨[], by rw [List.append_nil]; rfl⟩
  | k + 1 => by
    obtain ⟨R, e⟩ := pairsOf_pre rows m k
    exact ⟨R ++ pairsIn rows (m + k) (m + k), by show pairsOf rows (m + k) ++ pairsIn rows (m + k) (m + k) = _; rw [e, List.append_assoc]⟩
theorem pairs_first {rows : List (Int × Int)} {n l a : Nat} (h1 : pairsOf rows l = []) (h2 : pairsIn rows l a = []) (ha : a < l) (hl : l < n) (hc : clashB (rows.getD a (0, 0)) (rows.getD l (0, 0)) = true) : ∃ R, pairsOf rows n = (a, l) :: R := by
  have e1 := pairsIn_succ rows l a
  rw [h2, if_pos hc] at e1
  obtain ⟨R1, e2⟩ := pairsIn_pre rows l (a + 1) (l - (a + 1))
  rw [show a + 1 + (l - (a + 1)) = l by omega, e1] at e2
  have e3 : pairsOf rows (l + 1) = (a, l) :: R1 := by
    show pairsOf rows l ++ pairsIn rows l l = _
    rw [h1, e2]
    rfl
  obtain ⟨R2, e4⟩ := pairsOf_pre rows (l + 1) (n - (l + 1))
  rw [show l + 1 + (n - (l + 1)) = n by omega, e3] at e4
  exact ⟨R1 ++ R2, e4⟩
theorem mem_pairs {rows : List (Int × Int)} {l a : Nat} (ha : a < l) (hc : clashB (rows.getD a (0, 0)) (rows.getD l (0, 0)) = true) : ∀ {n : Nat}, l < n → (a, l) ∈ pairsOf rows n
  | 0, h => absurd h (Nat.not_lt_zero _)
  | n + 1, h => by
    show (a, l) ∈ pairsOf rows n ++ pairsIn rows n n
    by_cases e : l = n
    · subst e
      refine List.mem_append_right _ ?_
      unfold pairsIn
      exact List.mem_map.mpr ⟨a, List.mem_filter.mpr ⟨List.mem_range.mpr ha, hc⟩, rfl⟩
    · exact List.mem_append_left _ (mem_pairs ha hc (by omega))
theorem pairs_none {rows : List (Int × Int)} (h : pairsOf rows rows.length = []) : rows.Pairwise (fun a b => clashB a b = false) := by
  refine List.pairwise_iff_getElem.mpr fun a l ha hl hal => ?_
  cases hc : clashB rows[a] rows[l] with
  | false => rfl
  | true =>
    have e1 : rows.getD a (0, 0) = rows[a] := by rw [List.getD_eq_getElem?_getD, List.getElem?_eq_getElem ha]; rfl
    have e2 : rows.getD l (0, 0) = rows[l] := by rw [List.getD_eq_getElem?_getD, List.getElem?_eq_getElem hl]; rfl
    have := mem_pairs (rows := rows) hal (by rw [e1, e2]; exact hc) hl
    rw [h] at this
    cases this
theorem pairsIn_len (rows : List (Int × Int)) (l a : Nat) : (pairsIn rows l a).length ≤ a := by
  unfold pairsIn
  rw [List.length_map]
  have := List.length_filter_le (fun a => clashB (rows.getD a (0, 0)) (rows.getD l (0, 0))) (List.range a)
  rw [List.length_range] at this
  exact this
theorem pairsOf_len (rows : List (Int × Int)) : ∀ l : Nat, (pairsOf rows l).length ≤ l * l
  | 0 => Nat.le_refl _
  | l + 1 => by
    show (pairsOf rows l ++ pairsIn rows l l).length ≤ _
    rw [List.length_append]
    have h1 := pairsOf_len rows l
    have h2 := pairsIn_len rows l l
    rw [Nat.add_mul, Nat.mul_add]
    omega
theorem okD_nats (q : Nat × Nat) : okD 2 (natsD q) := okD_tup fun d hd => by
  rcases List.mem_cons.mp hd with rfl | hd
  · exact okD_int _
  · rcases List.mem_cons.mp hd with rfl | hd
    · exact okD_int _
    · cases hd
theorem okD_steps (z : Str) (hz : PyData.canLay0 (.str z) = true) (a b : Int) : okD 2 (.tup [.str z, .int a, .int b]) := okD_tup fun d hd => by
  rcases List.mem_cons.mp hd with rfl | hd
  · exact okD_str hz
  · rcases List.mem_cons.mp hd with rfl | hd
    · exact okD_int _
    · rcases List.mem_cons.mp hd with rfl | hd
      · exact okD_int _
      · cases hd
theorem okD_stepsV (rows : List (Int × Int)) : okD 2 (stepsV rows) := by
  unfold stepsV
  split
  · exact okD_steps _ (by decide +kernel) _ _
  · exact okD_steps _ (by decide +kernel) _ _
theorem filter_uni {q : Nat → Bool} {a : Nat} : ∀ {m : Nat}, (∀ i, i < m → (q i = true ↔ i = a)) → (List.range m).filter q = if a < m then [a] else []
  | 0, _ => by simp
  | m + 1, h => by
    rw [List.range_succ, List.filter_append, filter_uni (a := a) (fun i hi => h i (by omega))]
    have hm := h m (by omega)
    by_cases e : m = a
    · subst e
      simp [hm.mpr rfl]
    · have z : q m = false := by
        cases z : q m with
        | false => rfl
        | true => exact absurd (hm.mp z) e
      rw [List.filter_cons, z, if_neg Bool.false_ne_true, List.filter_nil, List.append_nil]
      by_cases c : a < m
      · rw [if_pos c, if_pos (by omega)]
      · rw [if_neg c, if_neg (by omega)]
/-- of the rests of the modulus just one -/
theorem one_rest {k r M : Int} (h0 : 1 ≤ r) (h1 : r ≤ M) (k0 : 1 ≤ k) (k1 : k ≤ M) : M ∣ k - r ↔ k = r := by
  constructor
  · rintro ⟨c, hc⟩
    have : c = 0 := by
      by_cases e : c = 0
      · exact e
      · exfalso
        by_cases p : 0 < c
        · have := Int.mul_le_mul_of_nonneg_left (show 1 ≤ c by omega) (show 0 ≤ M by omega)
          omega
        · have := Int.mul_le_mul_of_nonneg_left (show c ≤ -1 by omega) (show 0 ≤ M by omega)
          omega
    subst this
    omega
  · rintro rfl
    exact ⟨0, by omega⟩
theorem eqv_refl_clash (i j : Int) : D.eqv (.tup [.str "clash", .int i, .int j]) (.tup [.str "clash", .int i, .int j]) = true := by
  simp [D.eqv, D.py, D.pys, PyData.eqv, PyData.eqvAll]
end LM
/-! backward, and from the other end -/
namespace LM
open PySem L2 DL
theorem ix_mirror {row : List Int} (nd : row.Nodup) {M p : Int} (h : p ∈ row) : (ix ((row.map fun x => M - 1 - x).reverse) (M - 1 - p) : Int) = (row.length : Int) - 1 - (ix row p : Int) := by
  have hl := ix_lt h
  have nd2 : ((row.map fun x => M - 1 - x).reverse).Nodup := by
    refine (List.reverse_perm _).nodup_iff.mpr ?_
    exact List.Pairwise.map (R := (· ≠ ·)) (S := (· ≠ ·)) _ (fun a b h => by omega) nd
  have e : ((row.map fun x => M - 1 - x).reverse)[row.length - 1 - ix row p]? = some (M - 1 - p) := by
    rw [List.getElem?_reverse (by rw [List.length_map]; omega), List.length_map, List.getElem?_map]
    rw [show row.length - 1 - (row.length - 1 - ix row p) = ix row p by omega, (ix_spec h).1]
    rfl
  have := ix_uniq nd2 e
  omega
theorem askGo_mirror {M : Int} : ∀ (ps row : List Int), Beg row ps → askGo true ((row.map fun x => M - 1 - x).reverse) (ps.map fun x => M - 1 - x) = askGo false row ps
  | [], row, _ => rfl
  | p :: ps, row, h => by
    have hm := h.sub p List.mem_cons_self
    have hl := ix_lt hm
    have hi := ix_mirror (M := M) h.rd hm
    have ih := askGo_mirror (M := M) ps _ h.next
    have ht := turned_turn (fun x => M - 1 - x) row (a := (ix row p : Int)) (by omega) (by omega)
    show askOf true ((row.map fun x => M - 1 - x).reverse) (M - 1 - p) :: askGo true (turnTo ((row.map fun x => M - 1 - x).reverse) (ix ((row.map fun x => M - 1 - x).reverse) (M - 1 - p) : Int)) (ps.map fun x => M - 1 - x) = askOf false row p :: askGo false (turnTo row (ix row p : Int)) ps
    rw [hi, ht, ih]
    congr 1
    show ((if true = true then (((row.map fun x => M - 1 - x).reverse).length : Int) - (ix ((row.map fun x => M - 1 - x).reverse) (M - 1 - p) : Int) else _), (((row.map fun x => M - 1 - x).reverse).length : Int)) = (((if false = true then _ else (ix row p : Int) + 1), (row.length : Int)) : Int × Int)
    rw [hi, if_pos rfl, if_neg Bool.false_ne_true, List.length_reverse, List.length_map]
    congr 1
    omega
theorem beg_turned {M : Int} {ps : List Int} (h : Beg (rng M) ps) : Beg (rng M) (ps.map fun x => M - 1 - x) := by
  refine ⟨List.Pairwise.map (R := (· ≠ ·)) (S := (· ≠ ·)) _ (fun a b h => by omega) h.nd, fun x hx => ?_, h.rd⟩
  obtain ⟨y, hy, rfl⟩ := List.mem_map.mp hx
  have := mem_rng (h.sub y hy)
  unfold rng
  exact List.mem_map.mpr ⟨(M - 1 - y).toNat, List.mem_range.mpr (by omega), by omega⟩
theorem ask_turned {M : Int} {ps : List Int} (h : Beg (rng M) ps) : askGo true (rng M) (ps.map fun x => M - 1 - x) = askGo false (rng M) ps := by
  have := askGo_mirror (M := M) ps (rng M) h
  rw [rev_rng] at this
  exact this
theorem walkGo_take : ∀ (ss row : List Int) (n : Nat), (walkGo ss row).take n = walkGo (ss.take n) row
  | [], _, n => by rw [List.take_nil]; show ([] : List Int).take n = []; rw [List.take_nil]
  | s :: ss, row, 0 => rfl
  | s :: ss, row, n + 1 => by
    show (_ :: walkGo ss _).take (n + 1) = _ :: walkGo (ss.take n) _
    rw [List.take_succ_cons, walkGo_take ss]
theorem eqv_stepsV (rows : List (Int × Int)) : D.eqv (stepsV rows) (stepsV rows) = true := by
  unfold stepsV
  split <;> simp [D.eqv, D.py, D.pys, PyData.eqv, PyData.eqvAll]
end LM

/-! all ways in which a lot can leave first -/
namespace LM
open PySem L2 DL
def restL (lot : List Int) (x : Int) : List Int := lot.filter fun one => !decide (one = x)
theorem perm_rest : ∀ {lot : List Int} {x : Int}, lot.Nodup → x ∈ lot → (x :: restL lot x).Perm lot
  | [], x, _, h => by cases h
  | y :: lot, x, nd, h => by
    obtain ⟨n1, n2⟩ := List.nodup_cons.mp nd
    unfold restL
    rw [List.filter_cons]
    by_cases e : y = x
    · subst e
      rw [if_neg (by simp)]
      have : lot.filter (fun one => !decide (one = y)) = lot := by
        rw [List.filter_eq_self]
        intro a ha
        have : a ≠ y := fun z => n1 (z ▸ ha)
        simp [this]
      rw [this]
    · rw [if_pos (by simp [e])]
      have hx : x ∈ lot := by
        rcases List.mem_cons.mp h with q | q
        · exact absurd q.symm e
        · exact q
      exact (List.Perm.swap _ _ _).trans ((perm_rest n2 hx).cons y)
theorem rest_len {lot : List Int} {x : Int} (nd : lot.Nodup) (h : x ∈ lot) : (restL lot x).length + 1 = lot.length := by
  have := (perm_rest nd h).length_eq
  rw [List.length_cons] at this
  exact this
theorem rest_nodup {lot : List Int} (x : Int) (nd : lot.Nodup) : (restL lot x).Nodup := nd.filter _
def ordersF : Nat → List Int → List (List Int)
  | 0, _ => []
  | d + 1, lot => if lot = [] then [[]] else lot.flatMap fun x => (ordersF d (restL lot x)).map fun o => x :: o
theorem mem_orders : ∀ {d : Nat} {lot : List Int}, lot.Nodup → lot.length < d → ∀ o : List Int, o ∈ ordersF d lot ↔ o.Perm lot
  | 0, lot, _, h, o => absurd h (Nat.not_lt_zero _)
  | d + 1, lot, nd, h, o => by
    show o ∈ (if lot = [] then [[]] else lot.flatMap fun x => (ordersF d (restL lot x)).map fun o => x :: o) ↔ _
    by_cases e : lot = []
    · rw [if_pos e, List.mem_singleton, e]
      exact List.perm_nil.symm
    · rw [if_neg e, List.mem_flatMap]
      constructor
      · rintro ⟨x, hx, ho⟩
        obtain ⟨o', ho', rfl⟩ := List.mem_map.mp ho
        have := rest_len nd hx
        exact (((mem_orders (rest_nodup x nd) (by omega) o').mp ho').cons x).trans (perm_rest nd hx)
      · intro hp
        cases o with
        | nil => exact absurd (List.nil_perm.mp hp) e
        | cons x o' =>
          have hx : x ∈ lot := hp.mem_iff.mp List.mem_cons_self
          have := rest_len nd hx
          exact ⟨x, hx, List.mem_map.mpr ⟨o', (mem_orders (rest_nodup x nd) (by omega) o').mpr ((hp.trans (perm_rest nd hx).symm).cons_inv), rfl⟩⟩
theorem flat_le {α β : Type} {f : α → List β} {c : Nat} : ∀ {l : List α}, (∀ a ∈ l, (f a).length ≤ c) → (l.flatMap f).length ≤ l.length * c
  | [], _ => Nat.zero_le _
  | a :: l, h => by
    rw [List.flatMap_cons, List.length_append, List.length_cons, Nat.add_mul, Nat.one_mul]
    have := flat_le (l := l) fun b hb => h b (List.mem_cons_of_mem _ hb)
    have := h a List.mem_cons_self
    omega
theorem rest_le (lot : List Int) (x : Int) : (restL lot x).length ≤ lot.length := List.length_filter_le _ _
theorem pow5 {d : Nat} (h : d ≤ 7) : 5 ^ d ≤ 78125 := Nat.le_trans (Nat.pow_le_pow_right (by decide) h) (by decide)
theorem orders_len : ∀ {d : Nat} {lot : List Int}, lot.length ≤ 5 → (ordersF d lot).length ≤ 5 ^ d
  | 0, lot, _ => Nat.zero_le _
  | d + 1, lot, h => by
    show (if lot = [] then [[]] else lot.flatMap fun x => (ordersF d (restL lot x)).map fun o => x :: o).length ≤ _
    have hp : 0 < 5 ^ (d + 1) := Nat.pow_pos (by decide)
    by_cases e : lot = []
    · rw [if_pos e]; exact hp
    · rw [if_neg e]
      refine Nat.le_trans (flat_le (c := 5 ^ d) fun x _ => ?_) ?_
      · rw [List.length_map]
        exact orders_len (Nat.le_trans (rest_le lot x) h)
      · rw [Nat.pow_succ, Nat.mul_comm]
        exact Nat.mul_le_mul_left _ h
def waysF : Nat → List Int → List Int → List Int → Int × Int → List (List Int × (Int × Int))
  | 0, _, _, _, _ => []
  | d + 1, row, lot, ord, p => if lot = [] then [(ord, p)] else lot.flatMap fun x => if clashB p (askOf false row x) = true then [] else waysF d (turnTo row (ix row x : Int)) (restL lot x) (ord ++ [x]) (joinV p (askOf false row x))
theorem ways_len : ∀ {d : Nat} {row lot ord : List Int} {p : Int × Int}, lot.length ≤ 5 → (waysF d row lot ord p).length ≤ 5 ^ d
  | 0, _, _, _, _, _ => Nat.zero_le _
  | d + 1, row, lot, ord, p, h => by
    show (if lot = [] then [(ord, p)] else lot.flatMap fun x => if clashB p (askOf false row x) = true then [] else waysF d (turnTo row (ix row x : Int)) (restL lot x) (ord ++ [x]) (joinV p (askOf false row x))).length ≤ _
    have hp : 0 < 5 ^ (d + 1) := Nat.pow_pos (by decide)
    by_cases e : lot = []
    · rw [if_pos e]; exact hp
    · rw [if_neg e]
      refine Nat.le_trans (flat_le (c := 5 ^ d) fun x _ => ?_) ?_
      · split
        · exact Nat.zero_le _
        · exact ways_len (Nat.le_trans (rest_le lot x) h)
      · rw [Nat.pow_succ, Nat.mul_comm]
        exact Nat.mul_le_mul_left _ h
/-- askings joined so far -/
structure JN (done : List (Int × Int)) (p : Int × Int) : Prop where
  pos : 0 < p.2
  lo : 1 ≤ p.1
  hi : p.1 ≤ p.2
  div : ∀ r ∈ done, r.2 ∣ p.1 - r.1 ∧ r.2 ∣ p.2
  com : ∀ q : Int × Int, 0 < q.2 → (∀ r ∈ done, clashB r q = false) → gcdV p.2 q.2 ∣ p.1 - q.1
  dp : ∀ r ∈ done, 0 < r.2
theorem JN.first : JN [] (1, 1) where
  pos := by decide
  lo := by decide
  hi := by decide
  div := fun r h => by cases h
  com := fun q hq _ => by
    show gcdV 1 q.2 ∣ _
    rw [gcdV_one _ hq]
    exact Int.one_dvd _
  dp := fun r h => by cases h
theorem JN.iff {done : List (Int × Int)} {p q : Int × Int} (h : JN done p) (hq : 0 < q.2) : clashB p q = false ↔ ∀ r ∈ done, clashB r q = false := by
  constructor
  · intro hc r hr
    have hc := clashB_no.mp hc
    obtain ⟨d1, d2⟩ := h.div r hr
    have hr0 := h.dp r hr
    refine clashB_no.mpr ?_
    have g1 : gcdV r.2 q.2 ∣ p.1 - q.1 := by
      refine Int.dvd_trans ?_ hc
      have a1 : gcdV r.2 q.2 ∣ p.2 := Int.dvd_trans (gcdV_left q.2 (by omega)) d2
      have a2 : gcdV r.2 q.2 ∣ q.2 := gcdV_right r.2 (by omega)
      have e1 := Int.ofNat_dvd_left.mp (show ((Nat.gcd r.2.toNat q.2.toNat : Nat) : Int) ∣ p.2 from a1)
      have e2 := Int.ofNat_dvd_left.mp (show ((Nat.gcd r.2.toNat q.2.toNat : Nat) : Int) ∣ q.2 from a2)
      have hp := h.pos
      rw [show p.2.natAbs = p.2.toNat by omega] at e1
      rw [show q.2.natAbs = q.2.toNat by omega] at e2
      exact Int.natCast_dvd_natCast.mpr (Nat.dvd_gcd e1 e2)
    have g2 : gcdV r.2 q.2 ∣ p.1 - r.1 := Int.dvd_trans (gcdV_left q.2 (by omega)) d1
    have := Int.dvd_sub g1 g2
    rw [show p.1 - q.1 - (p.1 - r.1) = r.1 - q.1 by omega] at this
    exact this
  · intro hr
    exact clashB_no.mpr (h.com q hq hr)
theorem JN.step {done : List (Int × Int)} {p q : Int × Int} (h : JN done p) (hq : 0 < q.2) (hc : clashB p q = false) : JN (done ++ [q]) (joinV p q) := by
  obtain ⟨a, b, c, d, e⟩ := join_ok h.pos hq (clashB_no.mp hc)
  have hl := lcmV_left h.pos hq
  have hr := lcmV_right h.pos hq
  refine ⟨a, b, c, fun z hz => ?_, fun z hz0 hz => ?_, fun z hz => ?_⟩
  · rcases List.mem_append.mp hz with hz | hz
    · obtain ⟨z1, z2⟩ := h.div z hz
      have := Int.dvd_add (Int.dvd_trans z2 d) z1
      rw [show (joinV p q).1 - p.1 + (p.1 - z.1) = (joinV p q).1 - z.1 by omega] at this
      exact ⟨this, Int.dvd_trans z2 hl⟩
    · rw [List.mem_singleton.mp hz]
      exact ⟨e, hr⟩
  · refine gcd_lcmV h.pos hq hz0 ?_ ?_
    · have e1 := h.com z hz0 fun r hr => hz r (List.mem_append_left _ hr)
      have e2 := Int.dvd_trans (gcdV_left z.2 (by have := h.pos; omega)) d
      have := Int.dvd_add e2 e1
      rw [show (joinV p q).1 - p.1 + (p.1 - z.1) = (joinV p q).1 - z.1 by omega] at this
      exact this
    · have e1 := clashB_no.mp (hz q (List.mem_append_right _ List.mem_cons_self))
      have e2 := Int.dvd_trans (gcdV_left z.2 (by omega)) e
      have := Int.dvd_add e2 e1
      rw [show (joinV p q).1 - q.1 + (q.1 - z.1) = (joinV p q).1 - z.1 by omega] at this
      exact this
  · rcases List.mem_append.mp hz with hz | hz
    · exact h.dp z hz
    · rw [List.mem_singleton.mp hz]; exact hq
def okP (rows : List (Int × Int)) : Bool := (pairsOf rows rows.length).isEmpty
theorem pairs_nil {rows : List (Int × Int)} (h : rows.Pairwise (fun a b => clashB a b = false)) : ∀ n : Nat, n ≤ rows.length → pairsOf rows n = []
  | 0, _ => rfl
  | n + 1, hn => by
    show pairsOf rows n ++ pairsIn rows n n = []
    rw [pairs_nil h n (by omega)]
    unfold pairsIn
    have : (List.range n).filter (fun a => clashB (rows.getD a (0, 0)) (rows.getD n (0, 0))) = [] := by
      rw [List.filter_eq_nil_iff]
      intro a ha
      have ha := List.mem_range.mp ha
      have := List.pairwise_iff_getElem.mp h a n (by omega) (by omega) ha
      rw [List.getD_eq_getElem?_getD, List.getD_eq_getElem?_getD, List.getElem?_eq_getElem (show a < rows.length by omega), List.getElem?_eq_getElem (show n < rows.length by omega)]
      show ¬ clashB rows[a] rows[n] = true
      rw [this]
      decide
    rw [this]
    rfl
theorem okP_iff {rows : List (Int × Int)} : okP rows = true ↔ rows.Pairwise (fun a b => clashB a b = false) := by
  unfold okP
  rw [List.isEmpty_iff]
  exact ⟨pairs_none, fun h => pairs_nil h _ (Nat.le_refl _)⟩
theorem flat_fm {α β γ : Type} {F : α → List γ} {f : α → List β} {g : β → Bool} {h : β → γ} : ∀ {l : List α}, (∀ x ∈ l, F x = ((f x).filter g).map h) → l.flatMap F = ((l.flatMap f).filter g).map h
  | [], _ => rfl
  | x :: l, q => by
    rw [List.flatMap_cons, List.flatMap_cons, List.filter_append, List.map_append, q x List.mem_cons_self, flat_fm (l := l) fun y hy => q y (List.mem_cons_of_mem _ hy)]
theorem ways_eq : ∀ {d : Nat} {row lot ord : List Int} {p : Int × Int} {done : List (Int × Int)}, Beg row lot → lot.length < d → JN done p → p = done.foldl joinV (1, 1) → okP done = true →
    waysF d row lot ord p = ((ordersF d lot).filter fun o => okP (done ++ askGo false row o)).map fun o => (ord ++ o, (done ++ askGo false row o).foldl joinV (1, 1))
  | 0, row, lot, ord, p, done, _, h, _, _, _ => absurd h (Nat.not_lt_zero _)
  | d + 1, row, lot, ord, p, done, hB, h, hj, hp, ho => by
    show (if lot = [] then [(ord, p)] else lot.flatMap fun x => if clashB p (askOf false row x) = true then [] else waysF d (turnTo row (ix row x : Int)) (restL lot x) (ord ++ [x]) (joinV p (askOf false row x))) =
      ((if lot = [] then [[]] else lot.flatMap fun x => (ordersF d (restL lot x)).map fun o => x :: o).filter fun o => okP (done ++ askGo false row o)).map fun o => (ord ++ o, (done ++ askGo false row o).foldl joinV (1, 1))
    by_cases e : lot = []
    · rw [if_pos e, if_pos e]
      have e1 : done ++ askGo false row [] = done := List.append_nil _
      rw [List.filter_cons, e1, if_pos ho]
      show [(ord, p)] = [(ord ++ [], (done ++ askGo false row []).foldl joinV (1, 1))]
      rw [e1, List.append_nil, hp]
    · rw [if_neg e, if_neg e]
      refine flat_fm fun x hx => ?_
      have hm := hB.sub x hx
      have hlt := ix_lt hm
      have hq : 0 < (askOf false row x).2 := by show (0 : Int) < row.length; omega
      rw [List.filter_map, List.map_map]
      have hrl := rest_len hB.nd hx
      have hBx : Beg row (x :: restL lot x) := ⟨(perm_rest hB.nd hx).nodup_iff.mpr hB.nd, fun y hy => hB.sub y ((perm_rest hB.nd hx).mem_iff.mp hy), hB.rd⟩
      cases hc : clashB p (askOf false row x) with
      | true =>
        rw [if_pos rfl]
        have : (ordersF d (restL lot x)).filter ((fun o => okP (done ++ askGo false row o)) ∘ fun o => x :: o) = [] := by
          rw [List.filter_eq_nil_iff]
          intro o _ z
          have z := okP_iff.mp (show okP (done ++ (askOf false row x :: askGo false (turnTo row (ix row x : Int)) o)) = true from z)
          have z2 := (List.pairwise_append.mp z).2.2
          have := (hj.iff hq).mpr fun r hr => z2 r hr _ List.mem_cons_self
          rw [hc] at this
          cases this
        rw [this]
        rfl
      | false =>
        rw [if_neg Bool.false_ne_true]
        have ho2 : okP (done ++ [askOf false row x]) = true := okP_iff.mpr (List.pairwise_append.mpr ⟨okP_iff.mp ho, List.pairwise_singleton _ _, fun r hr z hz => by
          rw [List.mem_singleton.mp hz]
          exact (hj.iff hq).mp hc r hr⟩)
        rw [ways_eq (done := done ++ [askOf false row x]) hBx.next (by omega) (hj.step hq hc) (by rw [List.foldl_append, ← hp]; rfl) ho2]
        have e1 : ∀ o : List Int, (done ++ [askOf false row x]) ++ askGo false (turnTo row (ix row x : Int)) o = done ++ askGo false row (x :: o) := fun o => List.append_assoc _ _ _
        congr 1
        · funext o
          show (ord ++ [x] ++ o, _) = (ord ++ x :: o, _)
          rw [e1, List.append_assoc]
          rfl
        · congr 1
          funext o
          show okP _ = okP _
          rw [e1]
def wayD (q : List Int × (Int × Int)) : D := .tup [.tup (q.1.map D.int), .int q.2.1, .int q.2.2]
theorem okD_way (q : List Int × (Int × Int)) : okD 3 (wayD q) := okD_tup fun d hd => by
  rcases List.mem_cons.mp hd with rfl | hd
  · exact okD_tints _
  · rcases List.mem_cons.mp hd with rfl | hd
    · exact (okD_int _).up (by decide)
    · rcases List.mem_cons.mp hd with rfl | hd
      · exact (okD_int _).up (by decide)
      · cases hd
theorem okD_ways (L : List (List Int × (Int × Int))) : okD 4 (.lst (L.map wayD)) := okD_lst fun d hd => by
  obtain ⟨q, _, rfl⟩ := List.mem_map.mp hd
  exact okD_way q
def leastO : List Int → Option Int
  | [] => none
  | x :: xs => match leastO xs with
    | none => some x
    | some y => some (min x y)
theorem leastO_none : ∀ {ns : List Int}, leastO ns = none → ns = []
  | [], _ => rfl
  | x :: xs, h => by
    unfold leastO at h
    split at h <;> cases h
theorem leastO_some : ∀ {ns : List Int} {m : Int}, leastO ns = some m → m ∈ ns ∧ ∀ y ∈ ns, m ≤ y
  | [], m, h => by cases h
  | x :: xs, m, h => by
    unfold leastO at h
    split at h
    · rename_i e
      cases h
      have := leastO_none e
      subst this
      exact ⟨List.mem_cons_self, fun y hy => by rw [List.mem_singleton.mp hy]; exact Int.le_refl _⟩
    · rename_i y e
      cases h
      obtain ⟨h1, h2⟩ := leastO_some e
      refine ⟨?_, fun z hz => ?_⟩
      · by_cases c : x ≤ y
        · rw [Int.min_eq_left c]; exact List.mem_cons_self
        · rw [Int.min_eq_right (by omega)]; exact List.mem_cons_of_mem _ h1
      · rcases List.mem_cons.mp hz with q | q
        · rw [q]; exact Int.min_le_left _ _
        · exact Int.le_trans (Int.min_le_right _ _) (h2 z q)
theorem leastO_is {ns : List Int} {k : Int} (h : k ∈ ns) (h2 : ∀ y ∈ ns, k ≤ y) : leastO ns = some k := by
  cases e : leastO ns with
  | none => rw [leastO_none e] at h; cases h
  | some m =>
    obtain ⟨a, b⟩ := leastO_some e
    rw [Int.le_antisymm (b k h) (h2 m a)]
/-- a rising arrangement -/
def sortI (l : List Int) : List Int := l.mergeSort fun a b => decide (a ≤ b)
theorem sortI_perm (l : List Int) : (sortI l).Perm l := List.mergeSort_perm _ _
theorem sortI_sorted (l : List Int) : (sortI l).Pairwise (· ≤ ·) := by
  have := List.pairwise_mergeSort (le := fun a b : Int => decide (a ≤ b)) (fun a b c h1 h2 => by simp at *; omega) (fun a b => by simp; omega) l
  exact this.imp fun {a b} h => by simpa using h
theorem sort_uniq {ns ks : List Int} (h1 : ks.Perm ns) (h2 : ks.Pairwise (· ≤ ·)) : ks = sortI ns := sorted_uniq h2 (sortI_sorted ns) (h1.trans (sortI_perm ns).symm)
def lotV (many : Int) (dr : List Int) : List Int := sortI ((mixV dr (rng many)).take (dr.getD (0 : Int).toNat 0 % (min many 5 + 1)).toNat)
theorem lotV_ok {many : Int} {dr : List Int} (h : 0 ≤ many) : Beg (rng many) (lotV many dr) ∧ (lotV many dr).Pairwise (· ≤ ·) ∧ (lotV many dr).length ≤ 5 := by
  have hp := mixV_perm dr (rng many)
  have hs := sortI_perm ((mixV dr (rng many)).take (dr.getD (0 : Int).toNat 0 % (min many 5 + 1)).toNat)
  have hb := emod_bd (x := dr.getD (0 : Int).toNat 0) (p := min many 5 + 1) (by omega)
  refine ⟨⟨hs.nodup_iff.mpr ((hp.nodup_iff.mpr (rng_nodup many)).sublist (List.take_sublist _ _)), fun x hx => hp.mem_iff.mp (List.mem_of_mem_take (hs.mem_iff.mp hx)), rng_nodup many⟩, sortI_sorted _, ?_⟩
  have := hs.length_eq
  unfold lotV
  rw [this, List.length_take]
  omega
end LM

namespace LM
open PySem L2 DL
/-! what is equal to itself -/
mutual
theorem D.refl : ∀ d : D, d.okE = true → PyData.eqv d.py d.py = true
  | .non, _ => by simp [D.py, PyData.eqv]
  | .bl b, _ => by simp [D.py, PyData.eqv]
  | .int i, _ => by simp [D.py, PyData.eqv]
  | .str x, _ => by simp [D.py, PyData.eqv]
  | .lst ds, h => by simp only [D.py, PyData.eqv]; exact D.refls ds h
  | .tup ds, h => by simp only [D.py, PyData.eqv]; exact D.refls ds h
  | .scr _, h => by cases h
  | .dic _, h => by cases h
theorem D.refls : ∀ ds : List D, D.okEs ds = true → PyData.eqvAll (D.pys ds) (D.pys ds) = true
  | [], _ => by simp [D.pys, PyData.eqvAll]
  | d :: ds, h => by
    have o := Bool.and_eq_true_iff.mp (show (d.okE && D.okEs ds) = true from h)
    simp only [D.pys, PyData.eqvAll, D.refl d o.1, D.refls ds o.2, Bool.and_self]
end
theorem eqv_refl {d : D} (h : d.okQ) : D.eqv d d = true := D.refl d h.1
end LM

/-! the orders' numbers -/
namespace LM
open PySem L2 DL
theorem ask_sizes (back : Bool) : ∀ (ps row : List Int), Beg row ps → ∀ i : Nat, i < ps.length → ∃ r, (askGo back row ps)[i]? = some (r, (row.length : Int) - i)
  | [], row, _, i, hi => absurd hi (Nat.not_lt_zero _)
  | p :: ps, row, h, 0, _ => ⟨_, by show some (askOf back row p) = _; unfold askOf; rw [show ((0 : Nat) : Int) = 0 from rfl, Int.sub_zero]⟩
  | p :: ps, row, h, i + 1, hi => by
    obtain ⟨r, e⟩ := ask_sizes back ps _ h.next i (by simpa using hi)
    have hl := h.len
    refine ⟨r, ?_⟩
    show (askGo back (turnTo row (ix row p : Int)) ps)[i]? = _
    rw [e]
    congr 2
    omega
theorem lcmN_dvd {x : Nat} : ∀ n : Nat, (∀ j : Nat, 0 < j → j ≤ n → j ∣ x) → lcmN n ∣ x
  | 0, _ => Nat.one_dvd x
  | n + 1, h => Nat.lcm_dvd (lcmN_dvd n fun j a b => h j a (by omega)) (h (n + 1) (by omega) (Nat.le_refl _))
theorem dvd_int {a : Nat} {x : Int} (h : 0 ≤ x) : (a : Int) ∣ x ↔ a ∣ x.toNat := by
  obtain ⟨n, rfl⟩ : ∃ n : Nat, x = (n : Int) := ⟨x.toNat, by omega⟩
  rw [Int.toNat_natCast]
  exact Int.natCast_dvd_natCast
theorem beg_num (s many : Int) : Beg (rng many) (orderOf (.step s) many) :=
  ⟨(orderOf_perm (.step s) many).nodup_iff.mpr (rng_nodup many), fun x hx => (orderOf_perm (.step s) many).mem_iff.mp hx, rng_nodup many⟩
theorem num_walk (s many : Int) : orderOf (.step s) many = walkGo (List.replicate many.toNat s) (rng many) := by
  unfold orderOf
  rw [first_s, ← walkGo_step]
theorem num_ask {s many : Int} (h : 1 ≤ s) : ∀ q ∈ askGo false (rng many) (orderOf (.step s) many), q.2 ∣ s - q.1 := by
  refine (walk_iff (back := false) h _ _ (beg_num s many)).mp ?_
  rw [orderOf_length]
  exact (num_walk s many).symm
theorem num_ask_bd {s many : Int} : ∀ q ∈ askGo false (rng many) (orderOf (.step s) many), 1 ≤ q.1 ∧ q.1 ≤ q.2 ∧ q.2 ≤ (many.toNat : Int) := fun q hq => by
  have := askGo_bd (beg_num s many) q hq
  rw [rng_length] at this
  exact this
/-- the number of an order is told -/
theorem num_steps {k many : Int} (h0 : 1 ≤ k) (h1 : k ≤ lcmUp many.toNat) : stepsV (askGo false (rng many) (orderOf (.step k) many)) = .tup [.str "steps", .int k, .int (lcmUp many.toNat)] := by
  have ha := num_ask (s := k) (many := many) h0
  have hb := num_ask_bd (s := k) (many := many)
  have hB := beg_num k many
  have hsz := ask_sizes false _ _ hB
  rw [orderOf_length, rng_length] at hsz
  generalize askGo false (rng many) (orderOf (.step k) many) = rows at ha hb hsz
  have hpos : ∀ z ∈ rows, 0 < z.2 := fun z hz => by have := hb z hz; omega
  have hpw : rows.Pairwise (fun a b => clashB a b = false) := List.Pairwise.imp_of_mem (R := fun _ _ => True) (fun {a b} ma mb _ => clashB_no.mpr (by
    have h2 := hpos b mb
    have h3 := hpos a ma
    have e1 := Int.dvd_trans (gcdV_left (m := a.2) b.2 (by omega)) (ha a ma)
    have e2 := Int.dvd_trans (gcdV_right a.2 (n := b.2) (by omega)) (ha b mb)
    have := Int.dvd_sub e2 e1
    rw [show k - b.1 - (k - a.1) = a.1 - b.1 by omega] at this
    exact this)) (List.pairwise_of_forall fun _ _ => True.intro)
  have hno := pairs_nil hpw rows.length (Nat.le_refl _)
  have hF := joinAll_ok hpos hpw
  have hst := (hF.steps k).mp ha
  have hL := lcmUp_pos many.toNat
  have e2 : (joinAll rows).2 = lcmUp many.toNat := by
    have d1 : (joinAll rows).2 ∣ lcmUp many.toNat := hF.least _ fun q hq => by
      have hq1 := hb q hq
      have := dvd_lcmN (n := many.toNat) (k := q.2.toNat) (by omega) (by omega)
      rw [lcmUp_nat]
      have h2 := (Int.natCast_dvd_natCast (m := q.2.toNat) (n := lcmN many.toNat)).mpr this
      rw [Int.toNat_of_nonneg (by omega)] at h2
      exact h2
    have hp := hF.pos
    have d2 : lcmUp many.toNat ∣ (joinAll rows).2 := by
      rw [lcmUp_nat]
      refine (dvd_int (by omega)).mpr (lcmN_dvd _ fun j h1 h2 => ?_)
      obtain ⟨r, e⟩ := hsz (many.toNat - j) (by omega)
      have hd := (hF.div _ (List.mem_of_getElem? e)).2
      have hd : ((many.toNat : Int) - ((many.toNat - j : Nat) : Int)) ∣ (joinAll rows).2 := hd
      rw [show (many.toNat : Int) - ((many.toNat - j : Nat) : Int) = (j : Int) by omega] at hd
      exact (dvd_int (by omega)).mp hd
    exact Int.le_antisymm (Int.le_of_dvd hL d1) (Int.le_of_dvd hp d2)
  have hlo := hF.lo
  have hhi := hF.hi
  rw [e2] at hst hhi
  have e1 : k = (joinAll rows).1 := (one_rest hlo hhi h0 h1).mp hst
  unfold stepsV
  rw [hno, e2, ← e1]
theorem num_inj {k k' many : Int} (h0 : 1 ≤ k) (h1 : k ≤ lcmUp many.toNat) (h2 : 1 ≤ k') (h3 : k' ≤ lcmUp many.toNat) (e : orderOf (.step k) many = orderOf (.step k') many) : k = k' := by
  have a := num_steps h0 h1
  rw [e, num_steps h2 h3] at a
  injection a with a
  injection a with _ a
  injection a with a _
  injection a with a
  exact a.symm
/-- any step makes one of them -/
theorem num_any {s many : Int} (h : 1 ≤ s) : orderOf (.step s) many = orderOf (.step ((s - 1) % lcmUp many.toNat + 1)) many := by
  have hL := lcmUp_pos many.toNat
  have hm := emod_bd (x := s - 1) hL
  have hk : 1 ≤ (s - 1) % lcmUp many.toNat + 1 := by omega
  have ha := num_ask (many := many) hk
  have hb := num_ask_bd (s := (s - 1) % lcmUp many.toNat + 1) (many := many)
  have hw := walk_iff (back := false) h _ _ (beg_num ((s - 1) % lcmUp many.toNat + 1) many)
  rw [orderOf_length] at hw
  rw [num_walk s many]
  refine hw.mpr fun q hq => ?_
  have hq1 := hb q hq
  have hd := dvd_lcmN (n := many.toNat) (k := q.2.toNat) (by omega) (by omega)
  have h2 := (Int.natCast_dvd_natCast (m := q.2.toNat) (n := lcmN many.toNat)).mpr hd
  rw [Int.toNat_of_nonneg (by omega), ← lcmUp_nat] at h2
  have h3 : lcmUp many.toNat ∣ s - ((s - 1) % lcmUp many.toNat + 1) := by
    have := Int.mul_ediv_add_emod (s - 1) (lcmUp many.toNat)
    exact ⟨(s - 1) / lcmUp many.toNat, by omega⟩
  have := Int.dvd_add (ha q hq) (Int.dvd_trans h2 h3)
  rw [show (s - 1) % lcmUp many.toNat + 1 - q.1 + (s - ((s - 1) % lcmUp many.toNat + 1)) = s - q.1 by omega] at this
  exact this
/-- the orders of the first numbers -/
def numsF (many : Int) (n : Nat) : List (List Int) := (List.range n).map fun i : Nat => orderOf (.step ((i : Int) + 1)) many
theorem nums_succ (many : Int) (n : Nat) : numsF many (n + 1) = numsF many n ++ [orderOf (.step ((n : Int) + 1)) many] := by
  unfold numsF
  rw [List.range_succ, List.map_append]
  rfl
theorem nums_len (many : Int) (n : Nat) : (numsF many n).length = n := by
  unfold numsF
  rw [List.length_map, List.length_range]
theorem nums_new {many : Int} {n : Nat} (h : (n : Int) < lcmUp many.toNat) : orderOf (.step ((n : Int) + 1)) many ∉ numsF many n := fun q => by
  unfold numsF at q
  obtain ⟨i, hi, e⟩ := List.mem_map.mp q
  have hi := List.mem_range.mp hi
  have := num_inj (many := many) (k := (i : Int) + 1) (k' := (n : Int) + 1) (by omega) (by omega) (by omega) (by omega) e
  omega
theorem nums_any {s many : Int} (h : 1 ≤ s) : orderOf (.step s) many ∈ numsF many (lcmUp many.toNat).toNat := by
  have hL := lcmUp_pos many.toNat
  have hm := emod_bd (x := s - 1) hL
  unfold numsF
  refine List.mem_map.mpr ⟨((s - 1) % lcmUp many.toNat).toNat, List.mem_range.mpr (by omega), ?_⟩
  rw [Int.toNat_of_nonneg hm.1]
  exact (num_any h).symm
/-- who is last -/
def lastO (many : Int) (n : Nat) : Int := (orderOf (.step ((n : Int) + 1)) many).getD ((orderOf (.step ((n : Int) + 1)) many).length - 1) 0
theorem lastO_bd {many : Int} (h : 1 ≤ many) (n : Nat) : 0 ≤ lastO many n ∧ lastO many n < many := by
  have hl := orderOf_length (.step ((n : Int) + 1)) many
  exact getD_bd (orderOf_bd (.step ((n : Int) + 1)) many) (by omega)
def lastUp (many : Int) : Nat → List Int
  | 0 => List.replicate many.toNat 0
  | n + 1 => (lastUp many n).set (lastO many n).toNat ((lastUp many n).getD (lastO many n).toNat 0 + 1)
theorem lastUp_len (many : Int) : ∀ n : Nat, (lastUp many n).length = many.toNat
  | 0 => List.length_replicate
  | n + 1 => by show ((lastUp many n).set _ _).length = _; rw [List.length_set, lastUp_len many n]
theorem sum_set : ∀ {l : List Int} {i : Nat}, i < l.length → (l.set i (l.getD i 0 + 1)).sum = l.sum + 1
  | [], i, h => absurd h (Nat.not_lt_zero _)
  | a :: l, 0, _ => by
    show ((a + 1) :: l).sum = _
    rw [List.sum_cons, List.sum_cons]; omega
  | a :: l, i + 1, h => by
    show (a :: l.set i (l.getD i 0 + 1)).sum = _
    rw [List.sum_cons, List.sum_cons, sum_set (by simpa using h)]; omega
theorem lastUp_sum {many : Int} (h : 1 ≤ many) : ∀ n : Nat, (lastUp many n).sum = n
  | 0 => by
    show (List.replicate many.toNat (0 : Int)).sum = 0
    generalize many.toNat = m
    induction m with
    | zero => rfl
    | succ m ih => rw [List.replicate_succ, List.sum_cons, ih]; rfl
  | n + 1 => by
    have hb := lastO_bd h n
    show ((lastUp many n).set _ _).sum = _
    rw [sum_set (by rw [lastUp_len]; omega), lastUp_sum h n]
    push_cast
    rfl
theorem lastUp_le {many : Int} (n : Nat) (j : Nat) : (lastUp many n).getD j 0 ≤ (lastUp many (n + 1)).getD j 0 := by
  show _ ≤ ((lastUp many n).set (lastO many n).toNat ((lastUp many n).getD (lastO many n).toNat 0 + 1)).getD j 0
  generalize (lastO many n).toNat = p
  generalize lastUp many n = l
  rw [List.getD_eq_getElem?_getD, List.getD_eq_getElem?_getD (l := l.set p _)]
  by_cases e : p = j
  · subst e
    by_cases hl : p < l.length
    · rw [List.getElem?_set_self hl, List.getD_eq_getElem?_getD]
      show _ ≤ l[p]?.getD 0 + 1
      omega
    · rw [List.getElem?_eq_none (by omega), List.getElem?_eq_none (by rw [List.length_set]; omega)]
      exact Int.le_refl _
  · rw [List.getElem?_set_ne e]
    exact Int.le_refl _
theorem lastUp_nn {many : Int} (j : Nat) : ∀ n : Nat, 0 ≤ (lastUp many n).getD j 0
  | 0 => by
    show 0 ≤ (List.replicate many.toNat (0 : Int)).getD j 0
    rw [List.getD_eq_getElem?_getD, List.getElem?_replicate]
    split <;> exact Int.le_refl 0
  | n + 1 => Int.le_trans (lastUp_nn j n) (lastUp_le n j)
theorem lastUp_pos {many : Int} (h : 1 ≤ many) {i : Nat} : ∀ {n : Nat}, i < n → 1 ≤ (lastUp many n).getD (lastO many i).toNat 0
  | 0, hi => absurd hi (Nat.not_lt_zero _)
  | n + 1, hi => by
    by_cases e : i = n
    · subst e
      have hb := lastO_bd h i
      have hn := lastUp_nn (many := many) (lastO many i).toNat i
      have hl := lastUp_len many i
      have hlt : (lastO many i).toNat < (lastUp many i).length := by omega
      show 1 ≤ ((lastUp many i).set (lastO many i).toNat ((lastUp many i).getD (lastO many i).toNat 0 + 1)).getD (lastO many i).toNat 0
      rw [List.getD_eq_getElem?_getD (l := List.set _ _ _), List.getElem?_set_self hlt]
      show 1 ≤ (lastUp many i).getD (lastO many i).toNat 0 + 1
      omega
    · exact Int.le_trans (lastUp_pos h (n := n) (by omega)) (lastUp_le n _)
end LM


namespace My
open PySem L2 DL LM
def top (i : Nat) : Stmt := PySem.Challenge.pw_countout_k11_whole_how_many_orders.main.body.getD i (.Pass ⟨0, 0, 0, 0⟩)
structure Txt (P : Program) (w : World) (K : PySem.W.Frag) (mg : Str → Option Value) (base : Heap) : Prop where
  b_len : mg "len" = none
  b_list : mg "list" = none
  b_range : mg "range" = none
  b_tuple : mg "tuple" = none
  b_sum : mg "sum" = none
  b_isinstance : mg "isinstance" = none
section
variable {P : Program} {w : World} {K : PySem.W.Frag} {mg : Str → Option Value} {base : Heap}
abbrev s__law_cell : Stmt := top 15
abbrev N__law_cell : List Str := ["script", "k"]
theorem sc__law_cell : FnScope N__law_cell ["script", "k"] (defScope s__law_cell) := ⟨rfl, rfl, rfl, by decide +kernel, rfl, by decide +kernel, by decide +kernel⟩
def pr__law_cell : Pr := fun ds R => ∃ (ns : List Int) (k : Int), ds = [.scr ns, .int k] ∧ 0 ≤ k ∧ k ≤ 1000 ∧ R (.im (.int (cellV ns k)))
theorem ok__law_cell {f : Addr} {fd : FuncData} (F : Fun K "_law_cell" "_law_cell" s__law_cell f fd) (T : Txt P w K mg base) : FnOk P w K mg base CX0 1 f fd ["script", "k"] (spD K pr__law_cell) := by
  have nd := sc__law_cell.nd
  refine fun_ok F sc__law_cell (by rintro ds R ⟨_, _, rfl, _⟩; rfl) (by decide) fun cdv A outer s H E hr ds R h => ?_
  obtain ⟨ns, k, rfl, h0, h1, hR⟩ := h
  unfold cellV at hR
  refine xs_ifr (xt_cmp cmp_lt (XE.see (xi_var 1 rfl rfl (Or.inl rfl))) (XE.see (xe_callB c_lenC (XE.see (xi_var 0 rfl rfl (Or.inl rfl))) rfl T.b_len PySem.boot_len)) (nomark _)) (fun hb => ?_) (fun hb => ?_)
  · have hb := of_decide_eq_true hb
    rw [if_pos hb] at hR
    refine xs_ret (xi_ixC (XE.see (xi_var 0 rfl rfl (Or.inl rfl))) (XE.see (xi_var 1 rfl rfl (Or.inl rfl))) (at_scr h0 hb)) ?_
    exact hR
  have hb := of_decide_eq_false hb
  rw [if_neg hb] at hR
  refine xs_ifr (xt_cmp cmp_eq (XE.see (xe_callB c_lenC (XE.see (xi_var 0 rfl rfl (Or.inl rfl))) rfl T.b_len PySem.boot_len)) (XE.see xi_int) (nomark _)) (fun hb2 => ?_) (fun hb2 => ?_)
  · have hb2 := of_decide_eq_true hb2
    rw [if_pos hb2] at hR
    refine xs_ret (xe_bin bin_add (XE.see (xe_bin (bin_mul (.inl (by omega))) (XE.see xi_int) (XE.see (xi_var 1 rfl rfl (Or.inl rfl))))) (XE.see xi_int)) ?_
    exact hR
  have hb2 := of_decide_eq_false hb2
  rw [if_neg hb2] at hR
  have hl : (0 : Int) < ns.length := by omega
  have hm := emod_bd (x := k) hl
  refine xs_ret (xe_bin bin_add (XE.see (xe_bin (bin_mod (by decide)) (XE.see (xi_ixC (XE.see (xi_var 0 rfl rfl (Or.inl rfl))) (XE.see (xe_bin (bin_mod hl) (XE.see (xi_var 1 rfl rfl (Or.inl rfl))) (XE.see (xe_callB c_lenC (XE.see (xi_var 0 rfl rfl (Or.inl rfl))) rfl T.b_len PySem.boot_len)))) (at_scr hm.1 hm.2))) (XE.see xi_int))) (XE.see (xe_bin (bin_mul (.inl (by omega))) (XE.see xi_int) (XE.see (xi_var 1 rfl rfl (Or.inl rfl)))))) ?_
  exact hR
abbrev s__law_draws : Stmt := top 16
abbrev N__law_draws : List Str := ["script", "k", "many", "base", "primes", "cell", "rest", "row", "j", "mash"]
theorem sc__law_draws : FnScope N__law_draws ["script", "k", "many", "base"] (defScope s__law_draws) := ⟨rfl, rfl, rfl, by decide +kernel, rfl, by decide +kernel, by decide +kernel⟩
def pr__law_draws : Pr := fun ds R => ∃ (ns : List Int) (k many base : Int), ds = [.scr ns, .int k, .int many, .int base] ∧ 0 ≤ k ∧ k ≤ 1000 ∧ 0 ≤ many ∧ many ≤ 1000 ∧ 0 < base ∧ base < 1073741824 ∧ R (.ow ((lawDraws ns k many base).map D.int))
theorem ok__law_draws {f : Addr} {fd : FuncData} (F : Fun K "_law_draws" "_law_draws" s__law_draws f fd) (T : Txt P w K mg base) (G__law_cell : Df P w K mg base 1 "_law_cell" ["script", "k"] pr__law_cell) : FnOk P w K mg base CX0 2 f fd ["script", "k", "many", "base"] (spD K pr__law_draws) := by
  have nd := sc__law_draws.nd
  refine fun_ok F sc__law_draws (by rintro ds R ⟨_, _, _, _, rfl, _⟩; rfl) (by decide) fun cdv A outer s H E hr ds R h => ?_
  obtain ⟨ns, k, many, base, rfl, hk0, hk1, hm0, hm1, hb0, hb1, hR⟩ := h
  refine xs_set 4 nd rfl (Or.inl rfl) (xi_tup (xa_cons xi_int (xa_cons xi_int (xa_cons xi_int (xa_cons xi_int (xa_cons xi_int (xa_cons xi_int (xa_cons xi_int (xa_cons xi_int xa_nil)))))))) (Nat.le_of_ble_eq_true rfl)) ?_
  refine xs_set 5 nd rfl (Or.inl rfl) (xe_callD G__law_cell (hr.mono (by decide)) rfl (xa_cons (xi_var 0 rfl rfl (Or.inl rfl)) (xa_cons (xi_var 1 rfl rfl (Or.inl rfl)) xa_nil)) ⟨_, _, rfl, hk0, hk1, rfl⟩) ?_
  generalize hcell : cellV ns k = cell
  refine xs_set 6 nd rfl (Or.inl rfl) xi_int ?_
  refine xs_if (M := fun S' => S' = ([.im (.scr ns), .im (.int k), .im (.int many), .im (.int base), .im (.tup (primesL.map D.int)), .im (.int cell), .im (.int (rest0 cell)), .no, .no, .no] : Sg)) (xt_cmp cmp_ge (XE.see (xi_var 5 rfl rfl (Or.inl rfl))) (XE.see (xe_bin (bin_pow ⟨by decide, by decide, by decide⟩) (XE.see xi_int) (XE.see xi_int))) (nomark _)) (fun hb => ?_) (fun hb => ?_) ?_
  · refine xs_set 6 nd rfl (Or.inl rfl) (xi_var 5 rfl rfl (Or.inl rfl)) ?_
    exact xs_nil (by unfold rest0; rw [if_pos hb]; rfl)
  · exact xs_nil (by unfold rest0; rw [hb, if_neg Bool.false_ne_true]; rfl)
  rintro S' rfl
  refine xs_setO 7 nd rfl (Or.inl rfl) (xe_lst xa_nil (Nat.le_of_ble_eq_true rfl)) ?_
  refine xs_for (xf_range1 (XE.see (xi_var 2 rfl rfl (Or.inl rfl))) (by omega) (by omega) (xg_name 8 nd rfl (Or.inl rfl)) rfl T.b_range) (M := fun S' => ∃ s6, S' = [.im (.scr ns), .im (.int k), .im (.int many), .im (.int base), .im (.tup (primesL.map D.int)), .im (.int cell), s6, .ow ((lawDraws ns k many base).map D.int), .no, .no])
    (fun i S' => S' = [.im (.scr ns), .im (.int k), .im (.int many), .im (.int base), .im (.tup (primesL.map D.int)), .im (.int cell), .im (.int (restAt (rest0 cell) base i)), .ow (((List.range i).map (drawOf cell k base)).map D.int), .no, .no])
    rfl ?_ ?_ ?_ rfl
  · rintro i a S' ha rfl
    have hi := List.getElem?_eq_some_iff.mp ha
    obtain ⟨hi, ea⟩ := hi
    rw [List.getElem_range] at ea
    subst ea
    rw [List.length_range] at hi
    have hj0 : (0 : Int) ≤ (i : Int) := by omega
    have hj1 : (i : Int) < 1000 := by omega
    generalize hj : (i : Int) = j at hj0 hj1
    have p1 := pAt_mod j
    have p2 := pAt_mod (3 * j + k)
    have p3 := pAt_mod (j + 5)
    have q1 := emod_bd (x := cell) (show 0 < pAt (j % 8) by omega)
    have e1 : atI (primesL.map D.int) (j % 8) = some (.int (pAt (j % 8))) := at_ints (emod_bd (by decide)).1 (emod_bd (x := j) (p := 8) (by decide)).2
    have e2 : atI (primesL.map D.int) ((3 * j + k) % 8) = some (.int (pAt ((3 * j + k) % 8))) := at_ints (emod_bd (by decide)).1 (emod_bd (x := 3 * j + k) (p := 8) (by decide)).2
    have e3 : atI (primesL.map D.int) ((j + 5) % 8) = some (.int (pAt ((j + 5) % 8))) := at_ints (emod_bd (by decide)).1 (emod_bd (x := j + 5) (p := 8) (by decide)).2
    refine xs_set 9 nd rfl (Or.inl rfl) (xe_bin (bin_mul (.inl (by omega))) (XE.see (xe_bin (bin_mod (by omega)) (XE.see (xi_var 5 rfl rfl (Or.inl rfl))) (XE.see (xi_ixT (XE.see (xi_var 4 rfl rfl (Or.inl rfl))) (XE.see (xe_bin (bin_mod (by decide)) (XE.see (xi_var 8 rfl rfl (Or.inl rfl))) (XE.see xi_int))) e1)))) (XE.see (xe_bin bin_add (XE.see xi_int) (XE.see (xe_bin (bin_mul (.inl (by omega))) (XE.see (xe_bin (bin_mul (.inl (by omega))) (XE.see xi_int) (XE.see (xi_var 8 rfl rfl (Or.inl rfl))))) (XE.see (xi_var 8 rfl rfl (Or.inl rfl)))))))) ?_
    show XSs _ _ _ _
    refine xs_set 9 nd rfl (Or.inl rfl) (xe_bin bin_add (XE.see (xe_bin bin_add (XE.see (xi_var 9 rfl rfl (Or.inl rfl))) (XE.see (xe_bin (bin_mul (.inr (by omega))) (XE.see (xe_bin (bin_mul (.inl (by omega))) (XE.see xi_int) (XE.see (xe_bin bin_add (XE.see (xi_var 8 rfl rfl (Or.inl rfl))) (XE.see xi_int))))) (XE.see (xe_bin bin_add (XE.see (xi_var 8 rfl rfl (Or.inl rfl))) (XE.see xi_int))))))) (XE.see (xe_bin (bin_mul (.inl (by omega))) (XE.see xi_int) (XE.see (xi_var 1 rfl rfl (Or.inl rfl)))))) ?_
    refine xs_set 9 nd rfl (Or.inl rfl) (xe_bin (bin_mod (by omega)) (XE.see (xi_var 9 rfl rfl (Or.inl rfl))) (XE.see (xi_ixT (XE.see (xi_var 4 rfl rfl (Or.inl rfl))) (XE.see (xe_bin (bin_mod (by decide)) (XE.see (xe_bin bin_add (XE.see (xe_bin (bin_mul (.inl (by omega))) (XE.see xi_int) (XE.see (xi_var 8 rfl rfl (Or.inl rfl))))) (XE.see (xi_var 1 rfl rfl (Or.inl rfl))))) (XE.see xi_int))) e2))) ?_
    generalize hm3 : (cell % pAt (j % 8) * (48271 + 2 * j * j) + 7919 * (j + 1) * (j + 1) + 104729 * k) % pAt ((3 * j + k) % 8) = m3
    have q3 : 0 ≤ m3 ∧ m3 < pAt ((3 * j + k) % 8) := hm3 ▸ emod_bd (by omega)
    refine xs_set 9 nd rfl (Or.inl rfl) (xe_bin (bin_mod (by omega)) (XE.see (xe_bin (bin_mul (.inr (by omega))) (XE.see (xe_bin (bin_mul (.inl (by omega))) (XE.see (xi_var 9 rfl rfl (Or.inl rfl))) (XE.see (xi_var 9 rfl rfl (Or.inl rfl))))) (XE.see (xi_var 9 rfl rfl (Or.inl rfl))))) (XE.see (xi_ixT (XE.see (xi_var 4 rfl rfl (Or.inl rfl))) (XE.see (xe_bin (bin_mod (by decide)) (XE.see (xe_bin bin_add (XE.see (xi_var 8 rfl rfl (Or.inl rfl))) (XE.see xi_int))) (XE.see xi_int))) e3))) ?_
    have em : m3 * m3 * m3 % pAt ((j + 5) % 8) = mashOf cell k j := by rw [← hm3]; rfl
    rw [em]
    refine xs_if (M := fun S' => S' = [.im (.scr ns), .im (.int k), .im (.int many), .im (.int base), .im (.tup (primesL.map D.int)), .im (.int cell), .im (.int (restAt (rest0 cell) base i)), .ow (((List.range i).map (drawOf cell k base)).map D.int), .im (.int j), .im (.int (if decide (0 < restAt (rest0 cell) base i) = true then restAt (rest0 cell) base i else mashOf cell k j))]) (xt_cmp cmp_gt (XE.see (xi_var 6 rfl rfl (Or.inl rfl))) (XE.see xi_int) (nomark _)) (fun hb => ?_) (fun hb => ?_) ?_
    · refine xs_set 9 nd rfl (Or.inl rfl) (xi_var 6 rfl rfl (Or.inl rfl)) ?_
      exact xs_nil (by rw [if_pos hb]; rfl)
    · exact xs_nil (by rw [hb, if_neg Bool.false_ne_true]; rfl)
    rintro S' rfl
    refine xs_appendI 7 rfl rfl (Or.inl rfl) (xe_bin (bin_mod hb0) (XE.see (xi_var 9 rfl rfl (Or.inl rfl))) (XE.see (xi_var 3 rfl rfl (Or.inl rfl)))) (by rw [List.length_map, List.length_range]; omega) ?_
    refine xs_set 6 nd rfl (Or.inl rfl) (xe_bin (bin_div ⟨hb0, hb1⟩) (XE.see (xi_var 6 rfl rfl (Or.inl rfl))) (XE.see (xi_var 3 rfl rfl (Or.inl rfl)))) ?_
    refine xs_drop 8 ?_
    refine xs_drop 9 ?_
    refine xs_nil ?_
    subst hj
    show _ = ([.im (.scr ns), .im (.int k), .im (.int many), .im (.int base), .im (.tup (primesL.map D.int)), .im (.int cell), .im (.int (restAt (rest0 cell) base i / base)), .ow (((List.range (i + 1)).map (drawOf cell k base)).map D.int), .no, .no] : Sg)
    have e : (List.range (i + 1)).map (drawOf cell k base) = (List.range i).map (drawOf cell k base) ++ [drawOf cell k base i] := by rw [List.range_succ, List.map_append]; rfl
    rw [e]
    rfl
  · rintro S' rfl
    rw [List.length_range]
    subst hcell
    exact ⟨_, rfl⟩
  · rintro S' ⟨s6, rfl⟩
    refine xs_retO 7 rfl rfl (Or.inl rfl) ?_
    exact hR

abbrev s_place_by : Stmt := top 1
abbrev N_place_by : List Str := ["step", "many"]
theorem sc_place_by : FnScope N_place_by ["step", "many"] (defScope s_place_by) := ⟨rfl, rfl, rfl, by decide +kernel, rfl, by decide +kernel, by decide +kernel⟩
def pr_place_by : Pr := fun ds R => ∃ (step many : Int), ds = [.int step, .int many] ∧ 0 < many ∧ R (.im (.int (placeBy step many)))
theorem ok_place_by {f : Addr} {fd : FuncData} (F : Fun K "place_by" "place_by" s_place_by f fd) (T : Txt P w K mg base) : FnOk P w K mg base CX0 1 f fd ["step", "many"] (spD K pr_place_by) := by
  have nd := sc_place_by.nd
  refine fun_ok F sc_place_by (by rintro ds R ⟨_, _, rfl, _⟩; rfl) (by decide) fun cdv A outer s H E hr ds R h => ?_
  obtain ⟨step, many, rfl, h0, hR⟩ := h
  refine xs_ret (xe_bin (bin_mod h0) (XE.see (xi_ifI (xt_cmp cmp_gt (XE.see (xi_var 0 rfl rfl (Or.inl rfl))) (XE.see xi_int) (nomark _)) (fun hb => (xe_bin bin_sub (XE.see (xi_var 0 rfl rfl (Or.inl rfl))) (XE.see xi_int))) (fun hb => (xi_var 0 rfl rfl (Or.inl rfl))))) (XE.see (xi_var 1 rfl rfl (Or.inl rfl)))) ?_
  exact hR
abbrev s_next_step : Stmt := top 2
abbrev N_next_step : List Str := ["rule", "time", "hand"]
theorem sc_next_step : FnScope N_next_step ["rule", "time", "hand"] (defScope s_next_step) := ⟨rfl, rfl, rfl, by decide +kernel, rfl, by decide +kernel, by decide +kernel⟩
def pr_next_step : Pr := fun ds R => ∃ (r : Rule) (many time hand : Int), ds = [.tup r.ds, .int time, .int hand] ∧ r.ok many ∧ 0 ≤ time ∧ 0 ≤ hand ∧ hand < many ∧ R (.im (.int (r.next time hand)))
theorem ok_next_step {f : Addr} {fd : FuncData} (F : Fun K "next_step" "next_step" s_next_step f fd) (T : Txt P w K mg base) : FnOk P w K mg base CX0 1 f fd ["rule", "time", "hand"] (spD K pr_next_step) := by
  have nd := sc_next_step.nd
  refine fun_ok F sc_next_step (by rintro ds R ⟨_, _, _, _, rfl, _⟩; rfl) (by decide) fun cdv A outer s H E hr ds R h => ?_
  obtain ⟨r, many, time, hand, rfl, hok, ht, h0, h1, hR⟩ := h
  unfold Rule.next at hR
  refine xs_ifr (xt_cmp cmp_eqS (XE.see (xi_ixT (XE.see (xi_var 0 rfl rfl (Or.inl rfl))) (XE.see xi_int) r.at0)) (XE.see xi_str) (nomark _)) (fun hb => ?_) (fun hb => ?_)
  · rw [if_pos hb] at hR
    have hb := of_decide_eq_true hb
    refine xs_ret (xi_ixT (XE.see (xi_var 0 rfl rfl (Or.inl rfl))) (XE.see xi_int) (Rule.at1 (by rw [hb]; exact ne_sr))) ?_
    exact hR
  rw [hb, if_neg Bool.false_ne_true] at hR
  have hb := of_decide_eq_false hb
  refine xs_ret (xi_ifI (xt_cmp cmp_eqS (XE.see (xi_ixT (XE.see (xi_var 0 rfl rfl (Or.inl rfl))) (XE.see xi_int) r.at0)) (XE.see xi_str) (nomark _)) (fun hb2 => ?_) (fun hb2 => ?_)) hR
  · have hb2 := of_decide_eq_true hb2
    have hl : (0 : Int) < r.steps.length := by have := Rule.ok_row hok hb2; omega
    have hm := emod_bd (x := time) hl
    exact (xi_ixT (XE.see (xi_ixT (XE.see (xi_var 0 rfl rfl (Or.inl rfl))) (XE.see xi_int) (Rule.at1r hb2))) (XE.see (xe_bin (bin_mod hl) (XE.see (xi_var 1 rfl rfl (Or.inl rfl))) (XE.see (xe_callB c_lenTI (XE.see (xi_ixT (XE.see (xi_var 0 rfl rfl (Or.inl rfl))) (XE.see xi_int) (Rule.at1r hb2))) rfl T.b_len PySem.boot_len)))) (at_ints hm.1 hm.2))
  · have hb2 := of_decide_eq_false hb2
    have hl := Rule.ok_own hok hb2 hb
    exact (xi_ixT (XE.see (xi_ixT (XE.see (xi_var 0 rfl rfl (Or.inl rfl))) (XE.see xi_int) (Rule.at2 hb2 hb))) (XE.see (xi_var 2 rfl rfl (Or.inl rfl))) (at_ints h0 (by omega)))
abbrev s_order_of : Stmt := top 3
abbrev N_order_of : List Str := ["many", "rule", "row", "step", "found", "at", "hand"]
theorem sc_order_of : FnScope N_order_of ["many", "rule"] (defScope s_order_of) := ⟨rfl, rfl, rfl, by decide +kernel, rfl, by decide +kernel, by decide +kernel⟩
def pr_order_of : Pr := fun ds R => ∃ (r : Rule) (many : Int), ds = [.int many, .tup r.ds] ∧ r.ok many ∧ 0 ≤ many ∧ many ≤ 1000 ∧ R (.ow ((orderOf r many).map D.int))
theorem ok_order_of {f : Addr} {fd : FuncData} (F : Fun K "order_of" "order_of" s_order_of f fd) (T : Txt P w K mg base) (G_place_by : Df P w K mg base 1 "place_by" ["step", "many"] pr_place_by) (G_next_step : Df P w K mg base 1 "next_step" ["rule", "time", "hand"] pr_next_step) : FnOk P w K mg base CX0 2 f fd ["many", "rule"] (spD K pr_order_of) := by
  have nd := sc_order_of.nd
  refine fun_ok F sc_order_of (by rintro ds R ⟨_, _, rfl, _⟩; rfl) (by decide) fun cdv A outer s H E hr ds R h => ?_
  obtain ⟨r, many, rfl, hok, h0, h1, hR⟩ := h
  refine xs_setO 2 nd rfl (Or.inl rfl) (xe_listR1 rfl h0 (by omega) (XE.see (xi_var 0 rfl rfl (Or.inl rfl))) rfl T.b_list rfl T.b_range) ?_
  refine xs_set 3 nd rfl (Or.inl rfl) (xi_ifI (xt_cmp cmp_eqS (XE.see (xi_ixT (XE.see (xi_var 1 rfl rfl (Or.inl rfl))) (XE.see xi_int) r.at0)) (XE.see xi_str) (nomark _)) (fun hb => ?_) (fun hb => ?_) : XI _ _ _ (.int r.first)) ?_
  · have hb := of_decide_eq_true hb
    have hl : (0 : Int) < r.steps.length := by have := Rule.ok_row hok hb; omega
    exact (xi_ixT (XE.see (xi_ixT (XE.see (xi_var 1 rfl rfl (Or.inl rfl))) (XE.see xi_int) (Rule.at1r hb))) (XE.see xi_int) (at_ints (by omega) hl))
  · have hb := of_decide_eq_false hb
    exact (xi_ixT (XE.see (xi_var 1 rfl rfl (Or.inl rfl))) (XE.see xi_int) (Rule.at1 hb))
  refine xs_setO 4 nd rfl (Or.inl rfl) (xe_lst xa_nil (Nat.le_of_ble_eq_true rfl)) ?_
  refine xs_while (M := fun S' => ∃ s2 s3, S' = ([.im (.int many), .im (.tup r.ds), s2, s3, .ow ((orderOf r many).map D.int), .no, .no] : Sg))
    (fun m S' => ∃ (row found : List Int) (step : Int), m = row.length ∧ (∀ x ∈ row, 0 ≤ x ∧ x < many) ∧ found ++ orderGo r row.length row step found.length = orderOf r many ∧ (row.length : Int) + found.length = many ∧
      S' = ([.im (.int many), .im (.tup r.ds), .ow (row.map D.int), .im (.int step), .ow (found.map D.int), .no, .no] : Sg)) many.toNat
    ⟨rng many, [], r.first, (rng_length _).symm, fun x h => mem_rng h, by rw [rng_length]; rfl, by rw [rng_length]; show (many.toNat : Int) + 0 = many; omega, rfl⟩ ?_ ?_
  · rintro m S' ⟨row, found, step, rfl, hrow, hfo, hlen, rfl⟩
    refine ⟨!decide (row = []), XT.eq (xt_cmp (cmp_neD (hr.mono (Nat.zero_le _)) (okQ_ints row) okQ_nil) (xw_own 2 rfl rfl (Or.inl rfl)) (XE.seeN (xe_lst xa_nil (Nat.le_of_ble_eq_true rfl))) (nomark _)) (by rw [← eqv_ints row []]; rfl), fun hb => ?_, fun hb => ?_⟩
    · have hne : row ≠ [] := by simpa using hb
      obtain ⟨n, hn⟩ : ∃ n, row.length = n + 1 := ⟨row.length - 1, by have := List.length_pos_iff.mpr hne; omega⟩
      have hp : (0 : Int) < row.length := by omega
      refine xs_set 5 nd rfl (Or.inl rfl) (xe_callD G_place_by (hr.mono (by decide)) rfl (xa_cons (xi_var 3 rfl rfl (Or.inl rfl)) (xa_cons (xe_callB c_lenI (xw_own 2 rfl rfl (Or.inl rfl)) rfl T.b_len PySem.boot_len) xa_nil)) ⟨_, _, rfl, hp, rfl⟩) ?_
      have hb := placeBy_bd step hp
      rw [hn] at hfo
      have hfo' : found ++ (row.getD (placeBy step row.length).toNat 0 :: orderGo r n (turnTo row (placeBy step row.length)) (r.next (found.length + 1) (row.getD (placeBy step row.length).toNat 0)) (found.length + 1)) = orderOf r many := hfo
      have htl := turnTo_length row hb.1 hb.2
      have hmem := fun x (h : x ∈ turnTo row (placeBy step row.length)) => hrow x (turnTo_mem hb.1 h)
      have hhand := getD_bd hrow (i := (placeBy step row.length).toNat) (by omega)
      generalize placeBy step row.length = a at hb hfo' htl hmem hhand
      generalize hand_eq : row.getD a.toNat 0 = hand at hfo' hhand
      refine xs_set 6 nd rfl (Or.inl rfl) (xi_ixL (xw_own 2 rfl rfl (Or.inl rfl)) (XE.see (xi_var 5 rfl rfl (Or.inl rfl))) (at_ints hb.1 hb.2)) ?_
      rw [hand_eq]
      refine xs_setO 2 nd rfl (Or.inl rfl) (xe_bin (bin_catI (by unfold turnTo at htl; rw [List.length_append] at htl; omega)) (XE.seeN (xe_slI (xw_own 2 rfl rfl (Or.inl rfl)) (xp_some (XE.see (xe_bin bin_add (XE.see (xi_var 5 rfl rfl (Or.inl rfl))) (XE.see xi_int)))) xp_none)) (XE.seeN (xe_slI (xw_own 2 rfl rfl (Or.inl rfl)) xp_none (xp_some (XE.see (xi_var 5 rfl rfl (Or.inl rfl))))))) ?_
      refine xs_appendI 4 rfl rfl (Or.inl rfl) (xi_var 6 rfl rfl (Or.inl rfl)) (by omega) ?_
      refine xs_set 3 nd rfl (Or.inl rfl) (xe_callD G_next_step (hr.mono (by decide)) rfl (xa_cons (xi_var 1 rfl rfl (Or.inl rfl)) (xa_cons (xe_callB c_lenI (xw_own 4 rfl rfl (Or.inl rfl)) rfl T.b_len PySem.boot_len) (xa_cons (xi_var 6 rfl rfl (Or.inl rfl)) xa_nil))) ⟨r, many, _, _, rfl, hok, by omega, hhand.1, hhand.2, rfl⟩) ?_
      refine xs_drop 5 ?_
      refine xs_drop 6 ?_
      refine xs_nil ⟨n, by omega, turnTo row a, found ++ [hand], r.next (found.length + 1) hand, by omega, hmem, ?_, ?_, ?_⟩
      · rw [List.append_assoc, List.length_append]
        have e : (turnTo row a).length = n := by omega
        rw [e]
        exact hfo'
      · rw [List.length_append, List.length_singleton]; omega
      · rw [List.length_append]; rfl
    · have he : row = [] := by simpa using hb
      subst he
      rw [show ([] : List Int).length = 0 from rfl] at hfo
      have hfo' : found ++ [] = orderOf r many := hfo
      rw [List.append_nil] at hfo'
      exact ⟨_, _, by rw [hfo']⟩
  · rintro S' ⟨s2, s3, rfl⟩
    refine xs_retO 4 rfl rfl (Or.inl rfl) ?_
    exact hR

abbrev s_shared : Stmt := top 5
abbrev N_shared : List Str := ["one", "other"]
theorem sc_shared : FnScope N_shared ["one", "other"] (defScope s_shared) := ⟨rfl, rfl, rfl, by decide +kernel, rfl, by decide +kernel, by decide +kernel⟩
def pr_shared : Pr := fun ds R => ∃ (a b : Int), ds = [.int a, .int b] ∧ 0 ≤ a ∧ 0 ≤ b ∧ R (.im (.int (gcdV a b)))
theorem ok_shared {f : Addr} {fd : FuncData} (F : Fun K "shared" "shared" s_shared f fd) (T : Txt P w K mg base) : FnOk P w K mg base CX0 1 f fd ["one", "other"] (spD K pr_shared) := by
  have nd := sc_shared.nd
  refine fun_ok F sc_shared (by rintro ds R ⟨_, _, rfl, _⟩; rfl) (by decide) fun cdv A outer s H E hr ds R h => ?_
  obtain ⟨a, b, rfl, h0, h1, hR⟩ := h
  refine xs_while (M := fun S' => S' = ([.im (.int (gcdV a b)), .im (.int 0)] : Sg)) (fun m S' => ∃ x y : Nat, m = y ∧ Nat.gcd x y = Nat.gcd a.toNat b.toNat ∧ S' = ([.im (.int (x : Int)), .im (.int (y : Int))] : Sg)) b.toNat
    ⟨a.toNat, b.toNat, rfl, rfl, by rw [Int.toNat_of_nonneg h0, Int.toNat_of_nonneg h1]; rfl⟩ ?_ ?_
  · rintro m S' ⟨x, y, rfl, hg, rfl⟩
    refine ⟨_, (xt_cmp cmp_ne (XE.see (xi_var 1 rfl rfl (Or.inl rfl))) (XE.see xi_int) (nomark _)), fun hb => ?_, fun hb => ?_⟩
    · have hy : ¬ ((m : Int) = 0) := by simpa using hb
      refine xs_par 0 1 rfl nd rfl rfl (by decide) rfl rfl (xa_cons (xi_var 1 rfl rfl (Or.inl rfl)) (xa_cons (xe_bin (bin_mod (by omega)) (XE.see (xi_var 0 rfl rfl (Or.inl rfl))) (XE.see (xi_var 1 rfl rfl (Or.inl rfl)))) xa_nil)) ?_
      have hlt : x % m < m := Nat.mod_lt _ (by omega)
      refine xs_nil ⟨x % m, hlt, m, x % m, rfl, ?_, ?_⟩
      · rw [← hg, Nat.gcd_comm m, ← Nat.gcd_rec, Nat.gcd_comm]
      · have e : (x : Int) % (m : Int) = ((x % m : Nat) : Int) := by push_cast; rfl
        rw [e]
        rfl
    · have hy : (m : Int) = 0 := by simpa using hb
      have hm : m = 0 := by omega
      subst hm
      rw [Nat.gcd_zero_right] at hg
      rw [hg]
      rfl
  · rintro S' rfl
    refine xs_ret (xi_var 0 rfl rfl (Or.inl rfl)) ?_
    exact hR
abbrev s_common : Stmt := top 6
abbrev N_common : List Str := ["one", "other"]
theorem sc_common : FnScope N_common ["one", "other"] (defScope s_common) := ⟨rfl, rfl, rfl, by decide +kernel, rfl, by decide +kernel, by decide +kernel⟩
def pr_common : Pr := fun ds R => ∃ (a b : Int), ds = [.int a, .int b] ∧ 0 ≤ a ∧ 0 < b ∧ b < 1073741824 ∧ R (.im (.int (lcmV a b)))
theorem ok_common {f : Addr} {fd : FuncData} (F : Fun K "common" "common" s_common f fd) (T : Txt P w K mg base) (G_shared : Df P w K mg base 1 "shared" ["one", "other"] pr_shared) : FnOk P w K mg base CX0 2 f fd ["one", "other"] (spD K pr_common) := by
  have nd := sc_common.nd
  refine fun_ok F sc_common (by rintro ds R ⟨_, _, rfl, _⟩; rfl) (by decide) fun cdv A outer s H E hr ds R h => ?_
  obtain ⟨a, b, rfl, h0, h1, h2, hR⟩ := h
  have g0 := gcdV_pos (a := a) h1
  have g1 := gcdV_le (a := a) h1
  refine xs_ret (xe_bin (bin_mul (.inr (by omega))) (XE.see (xe_bin (bin_div ⟨g0, by omega⟩) (XE.see (xi_var 0 rfl rfl (Or.inl rfl))) (XE.see (xe_callD G_shared (hr.mono (by decide)) rfl (xa_cons (xi_var 0 rfl rfl (Or.inl rfl)) (xa_cons (xi_var 1 rfl rfl (Or.inl rfl)) xa_nil)) ⟨_, _, rfl, h0, by omega, rfl⟩)))) (XE.see (xi_var 1 rfl rfl (Or.inl rfl)))) ?_
  exact hR

abbrev s_asked : Stmt := top 7
abbrev N_asked : List Str := ["many", "order", "back", "row", "found", "place", "at"]
theorem sc_asked : FnScope N_asked ["many", "order", "back"] (defScope s_asked) := ⟨rfl, rfl, rfl, by decide +kernel, rfl, by decide +kernel, by decide +kernel⟩
def pr_asked : Pr := fun ds R => ∃ (many : Int) (ps : List Int) (back : Bool), ds = [.int many, .tup (ps.map D.int), .bl back] ∧ 0 ≤ many ∧ many ≤ 1000 ∧ Beg (rng many) ps ∧ R (.ow ((askGo back (rng many) ps).map pairD))
theorem ok_asked {f : Addr} {fd : FuncData} (F : Fun K "asked" "asked" s_asked f fd) (T : Txt P w K mg base) : FnOk P w K mg base CX0 1 f fd ["many", "order", "back"] (spD K pr_asked) := by
  have nd := sc_asked.nd
  refine fun_ok F sc_asked (by rintro ds R ⟨_, _, _, rfl, _⟩; rfl) (by decide) fun cdv A outer s H E hr ds R h => ?_
  obtain ⟨many, ps, back, rfl, h0, h1, hB, hR⟩ := h
  refine xs_setO 3 nd rfl (Or.inl rfl) (xe_listR1 rfl h0 (by omega) (XE.see (xi_var 0 rfl rfl (Or.inl rfl))) rfl T.b_list rfl T.b_range) ?_
  refine xs_setO 4 nd rfl (Or.inl rfl) (xe_lst xa_nil (Nat.le_of_ble_eq_true rfl)) ?_
  refine xs_for (xf_tup (gd := D.int) (xi_var 1 rfl rfl (Or.inl rfl)) (xg_name 5 nd rfl (Or.inl rfl))) (M := fun S' => ∃ s3, S' = ([.im (.int many), .im (.tup (ps.map D.int)), .im (.bl back), s3, .ow ((askGo back (rng many) ps).map pairD), .no, .no] : Sg))
    (fun i S' => ∃ row acc : List _, Beg row (ps.drop i) ∧ row.length ≤ 1000 ∧ acc.length = i ∧ acc ++ askGo back row (ps.drop i) = askGo back (rng many) ps ∧ S' = ([.im (.int many), .im (.tup (ps.map D.int)), .im (.bl back), .ow (row.map D.int), .ow (acc.map pairD), .no, .no] : Sg))
    ⟨rng many, [], hB, by rw [rng_length]; omega, rfl, rfl, rfl⟩ ?_ ?_ ?_ rfl
  · rintro i p S' hp ⟨row, acc, hb, hl, hal, hacc, rfl⟩
    obtain ⟨hi, ep⟩ := List.getElem?_eq_some_iff.mp hp
    have hd : ps.drop i = p :: ps.drop (i + 1) := by rw [List.drop_eq_getElem_cons hi, ep]
    rw [hd] at hb hacc
    have hle := hB.le
    rw [rng_length] at hle
    have hm := hb.sub p List.mem_cons_self
    have hix := ix_spec hm
    have hlt := ix_lt hm
    have hbl := hb.len
    have hnext := hb.next
    have hacc : acc ++ (askOf back row p :: askGo back (turnTo row (ix row p : Int)) (ps.drop (i + 1))) = askGo back (rng many) ps := hacc
    refine xs_set 6 nd rfl (Or.inl rfl) (xi_indexI (xw_own 3 rfl rfl (Or.inl rfl)) (XE.see (xi_var 5 rfl rfl (Or.inl rfl))) hix.1 hix.2) ?_
    refine xs_append 4 rfl rfl (Or.inl rfl) (xi_tup (xa_cons (xi_ifI (xt_val (XE.see (xi_var 2 rfl rfl (Or.inl rfl)))) (fun hb => (xe_bin bin_sub (XE.see (xe_callB c_lenI (xw_own 3 rfl rfl (Or.inl rfl)) rfl T.b_len PySem.boot_len)) (XE.see (xi_var 6 rfl rfl (Or.inl rfl))))) (fun hb => (xe_bin bin_add (XE.see (xi_var 6 rfl rfl (Or.inl rfl))) (XE.see xi_int)))) (xa_cons (xe_callB c_lenI (xw_own 3 rfl rfl (Or.inl rfl)) rfl T.b_len PySem.boot_len) xa_nil)) (Nat.le_of_ble_eq_true rfl)) (by rw [List.length_map]; omega) ?_
    refine xs_setO 3 nd rfl (Or.inl rfl) (xe_bin (bin_catI (by unfold cut; simp; omega)) (XE.seeN (xe_slI (xw_own 3 rfl rfl (Or.inl rfl)) (xp_some (XE.see (xe_bin bin_add (XE.see (xi_var 6 rfl rfl (Or.inl rfl))) (XE.see xi_int)))) xp_none)) (XE.seeN (xe_slI (xw_own 3 rfl rfl (Or.inl rfl)) xp_none (xp_some (XE.see (xi_var 6 rfl rfl (Or.inl rfl))))))) ?_
    refine xs_drop 5 ?_
    refine xs_drop 6 ?_
    refine xs_nil ⟨turnTo row (ix row p : Int), acc ++ [askOf back row p], hnext, by omega, by rw [List.length_append, hal]; rfl, by rw [List.append_assoc]; exact hacc, ?_⟩
    rw [show (acc ++ [askOf back row p]).map pairD = acc.map pairD ++ [pairD (askOf back row p)] from List.map_append]
    rfl
  · rintro S' ⟨row, acc, hb, hl, hal, hacc, rfl⟩
    rw [List.drop_length] at hacc
    have hacc : acc ++ [] = askGo back (rng many) ps := hacc
    rw [List.append_nil] at hacc
    exact ⟨_, by rw [hacc]⟩
  · rintro S' ⟨s3, rfl⟩
    refine xs_retO 4 rfl rfl (Or.inl rfl) ?_
    exact hR

abbrev s_clashes : Stmt := top 8
abbrev N_clashes : List Str := ["one", "other"]
theorem sc_clashes : FnScope N_clashes ["one", "other"] (defScope s_clashes) := ⟨rfl, rfl, rfl, by decide +kernel, rfl, by decide +kernel, by decide +kernel⟩
def pr_clashes : Pr := fun ds R => ∃ (p q : Int × Int), ds = [pairD p, pairD q] ∧ 0 ≤ p.2 ∧ 0 < q.2 ∧ R (.im (.bl (clashB p q)))
theorem ok_clashes {f : Addr} {fd : FuncData} (F : Fun K "clashes" "clashes" s_clashes f fd) (T : Txt P w K mg base) (G_shared : Df P w K mg base 1 "shared" ["one", "other"] pr_shared) : FnOk P w K mg base CX0 2 f fd ["one", "other"] (spD K pr_clashes) := by
  have nd := sc_clashes.nd
  refine fun_ok F sc_clashes (by rintro ds R ⟨_, _, rfl, _⟩; rfl) (by decide) fun cdv A outer s H E hr ds R h => ?_
  obtain ⟨p, q, rfl, h0, h1, hR⟩ := h
  refine xs_ret (xi_cmp cmp_ne (XE.see (xe_bin (bin_mod (gcdV_pos h1)) (XE.see (xe_bin bin_sub (XE.see (xi_ixT (XE.see (xi_var 0 rfl rfl (Or.inl rfl))) (XE.see xi_int) rfl)) (XE.see (xi_ixT (XE.see (xi_var 1 rfl rfl (Or.inl rfl))) (XE.see xi_int) rfl)))) (XE.see (xe_callD G_shared (hr.mono (by decide)) rfl (xa_cons (xi_ixT (XE.see (xi_var 0 rfl rfl (Or.inl rfl))) (XE.see xi_int) rfl) (xa_cons (xi_ixT (XE.see (xi_var 1 rfl rfl (Or.inl rfl))) (XE.see xi_int) rfl) xa_nil)) ⟨_, _, rfl, h0, by omega, rfl⟩)))) (XE.see xi_int) (nomark _)) ?_
  exact hR

abbrev s_joined : Stmt := top 9
abbrev N_joined : List Str := ["one", "other", "rest", "modulus", "whole"]
theorem sc_joined : FnScope N_joined ["one", "other"] (defScope s_joined) := ⟨rfl, rfl, rfl, by decide +kernel, rfl, by decide +kernel, by decide +kernel⟩
def pr_joined : Pr := fun ds R => ∃ (p q : Int × Int), ds = [pairD p, pairD q] ∧ 0 < p.2 ∧ 0 < q.2 ∧ q.2 < 1073741824 ∧ gcdV p.2 q.2 ∣ p.1 - q.1 ∧ R (.im (pairD (joinV p q)))
theorem ok_joined {f : Addr} {fd : FuncData} (F : Fun K "joined" "joined" s_joined f fd) (T : Txt P w K mg base) (G_common : Df P w K mg base 2 "common" ["one", "other"] pr_common) : FnOk P w K mg base CX0 3 f fd ["one", "other"] (spD K pr_joined) := by
  have nd := sc_joined.nd
  refine fun_ok F sc_joined (by rintro ds R ⟨_, _, rfl, _⟩; rfl) (by decide) fun cdv A outer s H E hr ds R h => ?_
  obtain ⟨p, q, rfl, h0, h1, h2, hg, hR⟩ := h
  refine xs_asg (gd := fun _ => .tup [(.int p.1), (.int p.2)]) (xi_var 0 rfl rfl (Or.inl rfl)) (xg_pair (α := Unit) (d1 := fun _ => (.int p.1)) (d2 := fun _ => (.int p.2)) 2 3 rfl nd rfl rfl (Or.inl rfl) (Or.inl rfl) (pg_tup rfl (pgs_cons (pg_name nd rfl (Or.inl rfl)) (pgs_cons (pg_name nd rfl (Or.inl rfl)) pgs_nil)))) ?_
  obtain ⟨i0, hi0, he0⟩ := crt_ex h0 h1 hg
  refine xs_while (M := fun S' => S' = ([.im (pairD p), .im (pairD q), .im (.int (joinR q.1 q.2 p.2 q.2.toNat p.1)), .im (.int p.2), .no] : Sg))
    (fun m S' => ∃ (r : Int) (i : Nat), i < m ∧ (r + i * p.2 - q.1) % q.2 = 0 ∧ joinR q.1 q.2 p.2 m r = joinR q.1 q.2 p.2 q.2.toNat p.1 ∧ S' = ([.im (pairD p), .im (pairD q), .im (.int r), .im (.int p.2), .no] : Sg)) q.2.toNat
    ⟨p.1, i0, by omega, he0, rfl, rfl⟩ ?_ ?_
  · rintro m S' ⟨r, i, hi, he, hj, rfl⟩
    obtain ⟨f, rfl⟩ : ∃ f, m = f + 1 := ⟨m - 1, by omega⟩
    refine ⟨_, (xt_cmp cmp_ne (XE.see (xe_bin (bin_mod h1) (XE.see (xe_bin bin_sub (XE.see (xi_var 2 rfl rfl (Or.inl rfl))) (XE.see (xi_ixT (XE.see (xi_var 1 rfl rfl (Or.inl rfl))) (XE.see xi_int) rfl)))) (XE.see (xi_ixT (XE.see (xi_var 1 rfl rfl (Or.inl rfl))) (XE.see xi_int) rfl)))) (XE.see xi_int) (nomark _)), fun hb => ?_, fun hb => ?_⟩
    · have hb : ¬ (r - q.1) % q.2 = 0 := by simpa using hb
      have e2 : joinR q.1 q.2 p.2 (f + 1) r = joinR q.1 q.2 p.2 f (r + p.2) := by show (if _ then _ else _) = _; rw [if_neg hb]
      refine xs_aug 2 rfl nd rfl (Or.inl rfl) ip_add (XE.see (xi_var 3 rfl rfl (Or.inl rfl))) ?_
      cases i with
      | zero =>
        exfalso
        apply hb
        have z : r + ((0 : Nat) : Int) * p.2 - q.1 = r - q.1 := by simp
        rw [z] at he
        exact he
      | succ i =>
        refine xs_nil ⟨f, Nat.lt_succ_self _, r + p.2, i, by omega, ?_, by rw [← e2]; exact hj, rfl⟩
        have z : r + p.2 + (i : Int) * p.2 - q.1 = r + ((i + 1 : Nat) : Int) * p.2 - q.1 := by push_cast; rw [Int.add_mul, Int.one_mul]; omega
        rw [z]
        exact he
    · have hb : (r - q.1) % q.2 = 0 := by simpa using hb
      have e2 : joinR q.1 q.2 p.2 (f + 1) r = r := by show (if _ then _ else _) = _; rw [if_pos hb]
      rw [← hj, e2]
  · rintro S' rfl
    have hL := lcmV_pos h0 h1
    refine xs_set 4 nd rfl (Or.inl rfl) (xe_callD G_common (hr.mono (by decide)) rfl (xa_cons (xi_var 3 rfl rfl (Or.inl rfl)) (xa_cons (xi_ixT (XE.see (xi_var 1 rfl rfl (Or.inl rfl))) (XE.see xi_int) rfl) xa_nil)) ⟨_, _, rfl, by omega, h1, h2, rfl⟩) ?_
    refine xs_ret (xi_tup (xa_cons (xe_bin bin_add (XE.see (xe_bin (bin_mod hL) (XE.see (xe_bin bin_sub (XE.see (xi_var 2 rfl rfl (Or.inl rfl))) (XE.see xi_int))) (XE.see (xi_var 4 rfl rfl (Or.inl rfl))))) (XE.see xi_int)) (xa_cons (xi_var 4 rfl rfl (Or.inl rfl)) xa_nil)) (Nat.le_of_ble_eq_true rfl)) ?_
    exact hR
abbrev s_steps_for : Stmt := top 10
abbrev N_steps_for : List Str := ["many", "order", "back", "rows", "later", "ahead", "found", "row"]
theorem sc_steps_for : FnScope N_steps_for ["many", "order", "back"] (defScope s_steps_for) := ⟨rfl, rfl, rfl, by decide +kernel, rfl, by decide +kernel, by decide +kernel⟩
def pr_steps_for : Pr := fun ds R => ∃ (many : Int) (ps : List Int) (back : Bool), ds = [.int many, .tup (ps.map D.int), .bl back] ∧ 0 ≤ many ∧ many ≤ 1000 ∧ Beg (rng many) ps ∧ R (.im (stepsV (askGo back (rng many) ps)))
theorem ok_steps_for {f : Addr} {fd : FuncData} (F : Fun K "steps_for" "steps_for" s_steps_for f fd) (T : Txt P w K mg base) (G_asked : Dk P w K mg base 1 "asked" ["many", "order", "back"] 2 ["back"] (.bl false) pr_asked) (G_clashes : Df P w K mg base 2 "clashes" ["one", "other"] pr_clashes) (G_joined : Df P w K mg base 3 "joined" ["one", "other"] pr_joined) : FnOk P w K mg base CX0 4 f fd ["many", "order", "back"] (spD K pr_steps_for) := by
  have nd := sc_steps_for.nd
  refine fun_ok F sc_steps_for (by rintro ds R ⟨_, _, _, rfl, _⟩; rfl) (by decide) fun cdv A outer s H E hr ds R h => ?_
  obtain ⟨many, ps, back, rfl, h0, h1, hB, hR⟩ := h
  refine xs_setO 3 nd rfl (Or.inl rfl) (xe_callKw G_asked (hr.mono (by decide)) rfl (xa_cons (xi_var 0 rfl rfl (Or.inl rfl)) (xa_cons (xi_var 1 rfl rfl (Or.inl rfl)) xa_nil)) rfl rfl (xi_var 2 rfl rfl (Or.inl rfl)) ⟨many, ps, back, rfl, h0, h1, hB, rfl⟩) ?_
  refine xs_freeze 3 rfl ?_
  have hbd := askGo_bd (back := back) hB
  have hlen := askGo_length back ps (rng many)
  have hle := hB.le
  rw [rng_length] at hle hbd
  generalize askGo back (rng many) ps = rows at hbd hlen hR
  have hposq : ∀ z ∈ rows, 0 < z.2 := fun z hz => by have := hbd z hz; omega
  have hat : ∀ i : Nat, i < rows.length → atI (rows.map pairD) (i : Int) = some (pairD (rows.getD i (0, 0))) ∧ 0 < (rows.getD i (0, 0)).2 := by
    intro i hi
    have e := at_pairs (rows := rows) (i := (i : Int)) (by omega) (by omega)
    rw [Int.toNat_natCast] at e
    refine ⟨e, ?_⟩
    rw [List.getD_eq_getElem?_getD, List.getElem?_eq_getElem hi]
    exact hposq _ (List.getElem_mem hi)
  refine xs_for (xf_range1 (XE.see (xe_callB c_lenL (XE.see (xi_var 3 rfl rfl (Or.inl rfl))) rfl T.b_len PySem.boot_len)) (by rw [List.length_map]; omega) (by omega) (xg_name 4 nd rfl (Or.inl rfl)) rfl T.b_range) (M := fun S' => pairsOf rows rows.length = [] ∧ ∃ s4 s5, S' = ([.im (.int many), .im (.tup (ps.map D.int)), .im (.bl back), .im (.lst (rows.map pairD)), s4, s5, .no, .no] : Sg))
    (fun i S' => pairsOf rows i = [] ∧ ∃ s4 s5, S' = ([.im (.int many), .im (.tup (ps.map D.int)), .im (.bl back), .im (.lst (rows.map pairD)), s4, s5, .no, .no] : Sg)) ⟨rfl, _, _, rfl⟩ ?_ ?_ ?_ rfl
  · rintro i l S' hl ⟨hno, s4, s5, rfl⟩
    obtain ⟨hi, el⟩ := List.getElem?_eq_some_iff.mp hl
    rw [List.getElem_range] at el
    subst el
    rw [List.length_range, List.length_map, Int.toNat_natCast] at hi
    refine xs_for (xf_range1 (XE.see (xi_var 4 rfl rfl (Or.inl rfl))) (by omega) (by omega) (xg_name 5 nd rfl (Or.inl rfl)) rfl T.b_range) (M := fun S' => pairsIn rows i i = [] ∧ ∃ s5, S' = ([.im (.int many), .im (.tup (ps.map D.int)), .im (.bl back), .im (.lst (rows.map pairD)), .im (.int (i : Int)), s5, .no, .no] : Sg))
      (fun j S' => pairsIn rows i j = [] ∧ ∃ s5, S' = ([.im (.int many), .im (.tup (ps.map D.int)), .im (.bl back), .im (.lst (rows.map pairD)), .im (.int (i : Int)), s5, .no, .no] : Sg)) ⟨rfl, _, rfl⟩ ?_ ?_ ?_ rfl
    · rintro j a S' ha ⟨hno2, s5, rfl⟩
      obtain ⟨hj, ea⟩ := List.getElem?_eq_some_iff.mp ha
      rw [List.getElem_range] at ea
      subst ea
      rw [List.length_range, Int.toNat_natCast] at hj
      obtain ⟨a1, a2⟩ := hat i hi
      obtain ⟨b1, b2⟩ := hat j (by omega)
      refine xs_ifr (xt_val (XE.see (xe_callD G_clashes (hr.mono (by decide)) rfl (xa_cons (xi_ixL (XE.see (xi_var 3 rfl rfl (Or.inl rfl))) (XE.see (xi_var 5 rfl rfl (Or.inl rfl))) b1) (xa_cons (xi_ixL (XE.see (xi_var 3 rfl rfl (Or.inl rfl))) (XE.see (xi_var 4 rfl rfl (Or.inl rfl))) a1) xa_nil)) ⟨_, _, rfl, by omega, a2, rfl⟩))) (fun hb => ?_) (fun hb => ?_)
      · obtain ⟨R', e⟩ := pairs_first hno hno2 hj hi hb
        refine xs_ret (xi_tup (xa_cons xi_str (xa_cons (xi_var 5 rfl rfl (Or.inl rfl)) (xa_cons (xi_var 4 rfl rfl (Or.inl rfl)) xa_nil))) (Nat.le_of_ble_eq_true rfl)) ?_
        have e2 : stepsV rows = .tup [.str "clash", .int (j : Int), .int (i : Int)] := by
          unfold stepsV
          rw [e]
        rw [e2] at hR
        exact hR
      · refine xs_nil ⟨?_, _, rfl⟩
        rw [pairsIn_succ, hno2, hb]
        rfl
    · rintro S' ⟨h, s5, rfl⟩
      rw [List.length_range, Int.toNat_natCast] at h
      exact ⟨h, _, rfl⟩
    · rintro S' ⟨h, s5, rfl⟩
      refine xs_nil ⟨?_, _, _, rfl⟩
      show pairsOf rows i ++ pairsIn rows i i = []
      rw [hno, h]
      rfl
  · rintro S' ⟨h, s4, s5, rfl⟩
    rw [List.length_range, List.length_map, Int.toNat_natCast] at h
    exact ⟨h, _, _, rfl⟩
  · rintro S' ⟨hno, s4, s5, rfl⟩
    have hpw := pairs_none hno
    refine xs_set 6 nd rfl (Or.inl rfl) (xi_tup (xa_cons xi_int (xa_cons xi_int xa_nil)) (Nat.le_of_ble_eq_true rfl)) ?_
    refine xs_for (xf_list (gd := pairD) (xi_var 3 rfl rfl (Or.inl rfl)) (xg_name 7 nd rfl (Or.inl rfl))) (M := fun S' => ∃ s7, S' = ([.im (.int many), .im (.tup (ps.map D.int)), .im (.bl back), .im (.lst (rows.map pairD)), s4, s5, .im (pairD (joinAll rows)), s7] : Sg))
      (fun i S' => ∃ p s7, FG (rows.take i) (rows.drop i) p ∧ (rows.drop i).foldl joinV p = joinAll rows ∧ S' = ([.im (.int many), .im (.tup (ps.map D.int)), .im (.bl back), .im (.lst (rows.map pairD)), s4, s5, .im (pairD p), s7] : Sg))
      ⟨(1, 1), _, FG.first hposq, rfl, rfl⟩ ?_ ?_ ?_ rfl
    · rintro i q S' hq ⟨p, s7, hF, hfo, rfl⟩
      obtain ⟨hi, eq⟩ := List.getElem?_eq_some_iff.mp hq
      have hd : rows.drop i = q :: rows.drop (i + 1) := by rw [List.drop_eq_getElem_cons hi, eq]
      have ht : rows.take (i + 1) = rows.take i ++ [q] := by rw [List.take_succ_eq_append_getElem hi, eq]
      have hq1 := hbd q (List.mem_of_getElem? hq)
      rw [hd] at hF hfo
      have hpw2 : (q :: rows.drop (i + 1)).Pairwise (fun a b => clashB a b = false) := by rw [← hd]; exact hpw.sublist (List.drop_sublist _ _)
      have hst := hF.step (fun z hz => hposq z (List.mem_of_mem_drop (by rw [hd]; exact hz))) (List.pairwise_cons.mp hpw2).1
      rw [← ht] at hst
      refine xs_set 6 nd rfl (Or.inl rfl) (xe_callD G_joined (hr.mono (by decide)) rfl (xa_cons (xi_var 6 rfl rfl (Or.inl rfl)) (xa_cons (xi_var 7 rfl rfl (Or.inl rfl)) xa_nil)) ⟨p, q, rfl, hF.pos, by omega, by omega, hF.com q List.mem_cons_self, rfl⟩) ?_
      exact xs_nil ⟨_, _, hst, hfo, rfl⟩
    · rintro S' ⟨p, s7, hF, hfo, rfl⟩
      rw [List.drop_length] at hfo
      have hfo : p = joinAll rows := hfo
      exact ⟨_, by rw [hfo]⟩
    · rintro S' ⟨s7, rfl⟩
      refine xs_ret (xe_bin (bin_catT (Nat.le_of_ble_eq_true rfl)) (XE.see (xi_tup (xa_cons xi_str xa_nil) (Nat.le_of_ble_eq_true rfl))) (XE.see (xi_var 6 rfl rfl (Or.inl rfl)))) ?_
      have e2 : stepsV rows = .tup [.str "steps", .int (joinAll rows).1, .int (joinAll rows).2] := by
        unfold stepsV
        rw [hno]
      rw [e2] at hR
      exact hR

abbrev s__law_walk : Stmt := top 17
abbrev N__law_walk : List Str := ["many", "steps", "row", "gap", "found", "step", "at"]
theorem sc__law_walk : FnScope N__law_walk ["many", "steps"] (defScope s__law_walk) := ⟨rfl, rfl, rfl, by decide +kernel, rfl, by decide +kernel, by decide +kernel⟩
def pr__law_walk : Pr := fun ds R => ∃ (many : Int) (ss : List Int), ds = [.int many, .lst (ss.map D.int)] ∧ 0 ≤ many ∧ many ≤ 1000 ∧ R (.ow ((walkGo (ss.take many.toNat) (rng many)).map D.int))
theorem ok__law_walk {f : Addr} {fd : FuncData} (F : Fun K "_law_walk" "_law_walk" s__law_walk f fd) (T : Txt P w K mg base) : FnOk P w K mg base CX0 1 f fd ["many", "steps"] (spD K pr__law_walk) := by
  have nd := sc__law_walk.nd
  refine fun_ok F sc__law_walk (by rintro ds R ⟨_, _, rfl, _⟩; rfl) (by decide) fun cdv A outer s H E hr ds R h => ?_
  obtain ⟨many, ss, rfl, h0, h1, hR⟩ := h
  refine xs_setO 2 nd rfl (Or.inl rfl) (xe_listR1 rfl h0 (by omega) (XE.see (xi_var 0 rfl rfl (Or.inl rfl))) rfl T.b_list rfl T.b_range) ?_
  refine xs_set 3 nd rfl (Or.inl rfl) xi_int ?_
  refine xs_setO 4 nd rfl (Or.inl rfl) (xe_lst xa_nil (Nat.le_of_ble_eq_true rfl)) ?_
  have ht : (ss.take many.toNat).length ≤ many.toNat := by rw [List.length_take]; omega
  have ec : cut ss none (some many) = ss.take many.toNat := cut_to ss h0
  refine xs_for (xf_list (gd := D.int) (XE.fix (xe_slI (XE.see (xi_var 1 rfl rfl (Or.inl rfl))) xp_none (xp_some (XE.see (xi_var 0 rfl rfl (Or.inl rfl)))))) (xg_name 5 nd rfl (Or.inl rfl))) (M := fun S' => ∃ s2 s3, S' = ([.im (.int many), .im (.lst (ss.map D.int)), s2, s3, .ow ((walkGo (ss.take many.toNat) (rng many)).map D.int), .no, .no] : Sg))
    (fun i S' => ∃ (row found : List Int) (gap : Nat), (row.length : Int) = many - i ∧ (row = [] ∨ gap < row.length) ∧ (row = [] → gap = 0) ∧ found.length = i ∧ found ++ walkGo ((ss.take many.toNat).drop i) (rot row gap) = walkGo (ss.take many.toNat) (rng many) ∧
      S' = ([.im (.int many), .im (.lst (ss.map D.int)), .ow (row.map D.int), .im (.int (gap : Int)), .ow (found.map D.int), .no, .no] : Sg))
    ⟨rng many, [], 0, by rw [rng_length]; omega, by
      by_cases e : rng many = []
      · exact .inl e
      · exact .inr (List.length_pos_iff.mpr e), fun _ => rfl, rfl, by rw [rot_zero]; rfl, rfl⟩ ?_ ?_ ?_ rfl
  · rintro i st S' ha ⟨row, found, gap, hlen, hgap, hgap0, hfl, hfo, rfl⟩
    rw [ec] at ha
    obtain ⟨hi, ea⟩ := List.getElem?_eq_some_iff.mp ha
    have hp : (0 : Int) < row.length := by omega
    have hg : gap < row.length := by
      rcases hgap with e | e
      · rw [e] at hp; exact absurd hp (by decide)
      · exact e
    have hd : (ss.take many.toNat).drop i = st :: (ss.take many.toNat).drop (i + 1) := by rw [List.drop_eq_getElem_cons hi, ea]
    rw [hd] at hfo
    have hpb := placeBy_bd st hp
    have hrl := rot_length row gap
    have hgs := gap_step row (g := (gap : Int)) (by omega) (by omega) hpb.1 hpb.2 rfl
    have hfo' : found ++ ((rot row gap).getD (placeBy st ((rot row gap).length : Int)).toNat 0 :: walkGo ((ss.take many.toNat).drop (i + 1)) (turnTo (rot row gap) (placeBy st ((rot row gap).length : Int)))) = walkGo (ss.take many.toNat) (rng many) := hfo
    rw [Int.toNat_natCast] at hgs
    rw [hrl, hgs.2.2.1, hgs.2.2.2] at hfo'
    have ht0 := hgs.1
    have ht1 := hgs.2.1
    clear hgs
    refine xs_set 6 nd rfl (Or.inl rfl) (xi_ifI (xt_cmp cmp_gt (XE.see (xi_var 5 rfl rfl (Or.inl rfl))) (XE.see xi_int) (nomark _)) (fun hb => (xe_bin (bin_mod hp) (XE.see (xe_bin bin_sub (XE.see (xe_bin bin_add (XE.see (xi_var 3 rfl rfl (Or.inl rfl))) (XE.see (xi_var 5 rfl rfl (Or.inl rfl))))) (XE.see xi_int))) (XE.see (xe_callB c_lenI (xw_own 2 rfl rfl (Or.inl rfl)) rfl T.b_len PySem.boot_len)))) (fun hb => (xe_bin (bin_mod hp) (XE.see (xe_bin bin_add (XE.see (xi_var 3 rfl rfl (Or.inl rfl))) (XE.see (xi_var 5 rfl rfl (Or.inl rfl))))) (XE.see (xe_callB c_lenI (xw_own 2 rfl rfl (Or.inl rfl)) rfl T.b_len PySem.boot_len))))) ?_
    rw [gap_place hp]
    generalize ((gap : Int) + placeBy st row.length) % row.length = t at hfo' ht0 ht1
    refine xs_appendI 4 rfl rfl (Or.inl rfl) (xi_ixL (xw_own 2 rfl rfl (Or.inl rfl)) (XE.see (xi_var 6 rfl rfl (Or.inl rfl))) (at_ints ht0 ht1)) (by omega) ?_
    have ecut : cut row none (some t) ++ cut row (some (t + 1)) none = row.eraseIdx t.toNat := by
      rw [cut_to _ ht0, cut_from _ (by omega), List.eraseIdx_eq_take_drop_succ]
      have e : (t + 1).toNat = t.toNat + 1 := by omega
      rw [e]
    have hel : (row.eraseIdx t.toNat).length + 1 = row.length := by rw [List.length_eraseIdx_of_lt (by omega)]; omega
    refine xs_setO 2 nd rfl (Or.inl rfl) (xe_bin (bin_catI (by have := congrArg List.length ecut; rw [List.length_append] at this; omega)) (XE.seeN (xe_slI (xw_own 2 rfl rfl (Or.inl rfl)) xp_none (xp_some (XE.see (xi_var 6 rfl rfl (Or.inl rfl)))))) (XE.seeN (xe_slI (xw_own 2 rfl rfl (Or.inl rfl)) (xp_some (XE.see (xe_bin bin_add (XE.see (xi_var 6 rfl rfl (Or.inl rfl))) (XE.see xi_int)))) xp_none))) ?_
    rw [ecut]
    generalize row.getD t.toNat 0 = hand at hfo'
    generalize row.eraseIdx t.toNat = row' at hfo' hel
    by_cases hne : row' = []
    · subst hne
      have hl0 : ([] : List Int).length = 0 := rfl
      refine xs_set (d := .int 0) 3 nd rfl (Or.inl rfl) (xi_ifI (XT.eq (xt_cmp (cmp_neD (hr.mono (Nat.zero_le _)) (okQ_ints ([] : List Int)) okQ_nil) (xw_own 2 rfl rfl (Or.inl rfl)) (XE.seeN (xe_lst xa_nil (Nat.le_of_ble_eq_true rfl))) (nomark _)) (by rfl : _ = false)) (fun hb => (nomatch hb : XI _ _ _ (.int 0))) (fun hb => xi_int)) ?_
      refine xs_drop 5 ?_
      refine xs_drop 6 ?_
      refine xs_nil ⟨[], found ++ [hand], 0, by rw [hl0] at hel ⊢; omega, .inl rfl, fun _ => rfl, by rw [List.length_append, List.length_singleton]; omega, ?_, rfl⟩
      rw [List.append_assoc]
      have e : rot ([] : List Int) t.toNat = rot [] 0 := by unfold rot; simp
      rw [e] at hfo'
      exact hfo'
    · have hp2 : (0 : Int) < row'.length := by have := List.length_pos_iff.mpr hne; omega
      refine xs_set (d := .int (t % (row'.length : Int))) 3 nd rfl (Or.inl rfl) (xi_ifI (XT.eq (xt_cmp (cmp_neD (hr.mono (Nat.zero_le _)) (okQ_ints row') okQ_nil) (xw_own 2 rfl rfl (Or.inl rfl)) (XE.seeN (xe_lst xa_nil (Nat.le_of_ble_eq_true rfl))) (nomark _)) (by rw [show (!D.eqv (.lst (row'.map D.int)) (.lst [])) = !decide (row' = []) from by rw [← eqv_ints row' []]; rfl]; simp [hne] : _ = true)) (fun hb => (xe_bin (bin_mod hp2) (XE.see (xi_var 6 rfl rfl (Or.inl rfl))) (XE.see (xe_callB c_lenI (xw_own 2 rfl rfl (Or.inl rfl)) rfl T.b_len PySem.boot_len)))) (fun hb => (nomatch hb : XI _ _ _ (.int 0)))) ?_
      refine xs_drop 5 ?_
      refine xs_drop 6 ?_
      have em : t % (row'.length : Int) = ((t.toNat % row'.length : Nat) : Int) := by
        have e : t = ((t.toNat : Nat) : Int) := by omega
        conv => lhs; rw [e]
        push_cast; rfl
      rw [em]
      have hm := Nat.mod_lt t.toNat (show 0 < row'.length by omega)
      refine xs_nil ⟨row', found ++ [hand], t.toNat % row'.length, by omega, .inr hm, fun e => absurd e hne, by rw [List.length_append, List.length_singleton]; omega, ?_, rfl⟩
      rw [List.append_assoc, rot_mod (by omega) (by omega)]
      exact hfo'
  · rintro S' ⟨row, found, gap, hlen, hgap, hgap0, hfl, hfo, rfl⟩
    rw [ec] at hfo hfl
    rw [List.drop_length] at hfo
    have hfo' : found ++ [] = walkGo (ss.take many.toNat) (rng many) := hfo
    rw [List.append_nil] at hfo'
    exact ⟨_, _, by rw [hfo']⟩
  · rintro S' ⟨s2, s3, rfl⟩
    refine xs_retO 4 rfl rfl (Or.inl rfl) ?_
    exact hR

abbrev s_how_many_orders : Stmt := top 11
abbrev N_how_many_orders : List Str := ["many", "found", "size"]
theorem sc_how_many_orders : FnScope N_how_many_orders ["many"] (defScope s_how_many_orders) := ⟨rfl, rfl, rfl, by decide +kernel, rfl, by decide +kernel, by decide +kernel⟩
def pr_how_many_orders : Pr := fun ds R => ∃ (many : Int), ds = [.int many] ∧ 0 ≤ many ∧ many ≤ 1000 ∧ R (.im (.int (lcmUp many.toNat)))
theorem ok_how_many_orders {f : Addr} {fd : FuncData} (F : Fun K "how_many_orders" "how_many_orders" s_how_many_orders f fd) (T : Txt P w K mg base) (G_common : Df P w K mg base 2 "common" ["one", "other"] pr_common) : FnOk P w K mg base CX0 3 f fd ["many"] (spD K pr_how_many_orders) := by
  have nd := sc_how_many_orders.nd
  refine fun_ok F sc_how_many_orders (by rintro ds R ⟨_, rfl, _⟩; rfl) (by decide) fun cdv A outer s H E hr ds R h => ?_
  obtain ⟨many, rfl, h0, h1, hR⟩ := h
  refine xs_set 1 nd rfl (Or.inl rfl) xi_int ?_
  refine xs_for (xf_range2 (XE.see xi_int) (XE.see (xe_bin bin_add (XE.see (xi_var 0 rfl rfl (Or.inl rfl))) (XE.see xi_int))) (by omega) (xg_name 2 nd rfl (Or.inl rfl)) rfl T.b_range) (M := fun S' => S' = ([.im (.int many), .im (.int (lcmUp many.toNat)), .no] : Sg)) (fun i S' => S' = ([.im (.int many), .im (.int (lcmUp i)), .no] : Sg)) rfl ?_ ?_ ?_ rfl
  · rintro i a S' ha rfl
    obtain ⟨hi, ea⟩ := List.getElem?_eq_some_iff.mp ha
    rw [List.getElem_range] at ea
    subst ea
    rw [List.length_range] at hi
    have hp := lcmUp_pos i
    refine xs_set 1 nd rfl (Or.inl rfl) (xe_callD G_common (hr.mono (by decide)) rfl (xa_cons (xi_var 1 rfl rfl (Or.inl rfl)) (xa_cons (xi_var 2 rfl rfl (Or.inl rfl)) xa_nil)) ⟨_, _, rfl, by omega, by omega, by omega, rfl⟩) ?_
    refine xs_drop 2 ?_
    exact xs_nil rfl
  · rintro S' rfl
    rw [List.length_range]
    have e : (many + 1 - 1).toNat = many.toNat := by omega
    rw [e]
  · rintro S' rfl
    refine xs_ret (xi_var 1 rfl rfl (Or.inl rfl)) ?_
    exact hR

abbrev s_order_number : Stmt := top 12
abbrev N_order_number : List Str := ["many", "number"]
theorem sc_order_number : FnScope N_order_number ["many", "number"] (defScope s_order_number) := ⟨rfl, rfl, rfl, by decide +kernel, rfl, by decide +kernel, by decide +kernel⟩
def pr_order_number : Pr := fun ds R => ∃ (many number : Int), ds = [.int many, .int number] ∧ 0 ≤ many ∧ many ≤ 1000 ∧ R (.ow ((orderOf (.step (number + 1)) many).map D.int))
theorem ok_order_number {f : Addr} {fd : FuncData} (F : Fun K "order_number" "order_number" s_order_number f fd) (T : Txt P w K mg base) (G_order_of : Df P w K mg base 2 "order_of" ["many", "rule"] pr_order_of) : FnOk P w K mg base CX0 3 f fd ["many", "number"] (spD K pr_order_number) := by
  have nd := sc_order_number.nd
  refine fun_ok F sc_order_number (by rintro ds R ⟨_, _, rfl, _⟩; rfl) (by decide) fun cdv A outer s H E hr ds R h => ?_
  obtain ⟨many, number, rfl, h0, h1, hR⟩ := h
  refine xs_ret (xe_callD G_order_of (hr.mono (by decide)) rfl (xa_cons (xi_var 0 rfl rfl (Or.inl rfl)) (xa_cons (xi_tup (xa_cons xi_str (xa_cons (xe_bin bin_add (XE.see (xi_var 1 rfl rfl (Or.inl rfl))) (XE.see xi_int)) xa_nil)) (Nat.le_of_ble_eq_true rfl)) xa_nil)) ⟨.step (number + 1), many, rfl, True.intro, h0, h1, rfl⟩) ?_
  exact hR
abbrev s_last_counts : Stmt := top 13
abbrev N_last_counts : List Str := ["many", "found", "number"]
theorem sc_last_counts : FnScope N_last_counts ["many"] (defScope s_last_counts) := ⟨rfl, rfl, rfl, by decide +kernel, rfl, by decide +kernel, by decide +kernel⟩
def pr_last_counts : Pr := fun ds R => ∃ (many : Int), ds = [.int many] ∧ 1 ≤ many ∧ many ≤ 1000 ∧ lcmUp many.toNat ≤ 1000000 ∧ R (.ow ((lastUp many (lcmUp many.toNat).toNat).map D.int))
theorem ok_last_counts {f : Addr} {fd : FuncData} (F : Fun K "last_counts" "last_counts" s_last_counts f fd) (T : Txt P w K mg base) (G_how_many_orders : Df P w K mg base 3 "how_many_orders" ["many"] pr_how_many_orders) (G_order_number : Df P w K mg base 3 "order_number" ["many", "number"] pr_order_number) : FnOk P w K mg base CX0 4 f fd ["many"] (spD K pr_last_counts) := by
  have nd := sc_last_counts.nd
  refine fun_ok F sc_last_counts (by rintro ds R ⟨_, rfl, _⟩; rfl) (by decide) fun cdv A outer s H E hr ds R h => ?_
  obtain ⟨many, rfl, h0, h1, h2, hR⟩ := h
  have hL := lcmUp_pos many.toNat
  refine xs_setO 1 nd rfl (Or.inl rfl) (xe_bin (bin_rep1I (by omega) (by omega)) (XE.seeN (xe_lst (xa_cons xi_int xa_nil) (Nat.le_of_ble_eq_true rfl))) (XE.see (xi_var 0 rfl rfl (Or.inl rfl)))) ?_
  refine xs_for (xf_range1 (XE.see (xe_callD G_how_many_orders (hr.mono (by decide)) rfl (xa_cons (xi_var 0 rfl rfl (Or.inl rfl)) xa_nil) ⟨many, rfl, by omega, h1, rfl⟩)) (by omega) (by omega) (xg_name 2 nd rfl (Or.inl rfl)) rfl T.b_range) (M := fun S' => ∃ s2, S' = ([.im (.int many), .ow ((lastUp many (lcmUp many.toNat).toNat).map D.int), s2] : Sg))
    (fun i S' => ∃ s2, S' = ([.im (.int many), .ow ((lastUp many i).map D.int), s2] : Sg)) ⟨_, rfl⟩ ?_ ?_ ?_ rfl
  · rintro i a S' ha ⟨s2, rfl⟩
    obtain ⟨hi, ea⟩ := List.getElem?_eq_some_iff.mp ha
    rw [List.getElem_range] at ea
    subst ea
    have hb := lastO_bd h0 i
    unfold lastO at hb
    have hll := lastUp_len many i
    have hol := orderOf_length (.step ((i : Int) + 1)) many
    refine xs_augItemI 1 rfl rfl (Or.inl rfl) (XE.see (xi_ixL (XE.seeN (xe_callD G_order_number (hr.mono (by decide)) rfl (xa_cons (xi_var 0 rfl rfl (Or.inl rfl)) (xa_cons (xi_var 2 rfl rfl (Or.inl rfl)) xa_nil)) ⟨many, i, rfl, by omega, h1, rfl⟩)) (XE.see (xi_neg (XE.see xi_int))) (at_lastI (by omega)))) hb.1 (by omega) ip_add (XE.see xi_int) ?_
    exact xs_nil ⟨_, rfl⟩
  · rintro S' ⟨s2, rfl⟩
    rw [List.length_range]
    exact ⟨_, rfl⟩
  · rintro S' ⟨s2, rfl⟩
    refine xs_retO 1 rfl rfl (Or.inl rfl) ?_
    exact hR

end
end My

set_option Elab.async false
set_option linter.all false
set_option maxRecDepth 100000
set_option maxHeartbeats 4000000
namespace My
open PySem L2 DL LM
section
variable {P : Program} {w : World} {K : PySem.W.Frag} {mg : Str → Option Value} {base : Heap}
theorem cut_butlast {α : Type} (xs : List α) : cut xs none (some (-1)) = xs.take (xs.length - 1) := by
  unfold cut
  rw [HT.sIx_none, List.drop_zero, Nat.sub_zero]
  congr 1
  unfold HT.sIx
  simp
  try omega
theorem ret_true {R : Sl → Prop} (hR : R (.im (.bl true))) {b : Bool} (hb : b = true) : R (.im (.bl b)) := hb ▸ hR
theorem lcm_small {many : Int} (h0 : 1 ≤ many) (h1 : many ≤ 7) : lcmUp many.toNat ≤ 420 := by
  have h : many = 1 ∨ many = 2 ∨ many = 3 ∨ many = 4 ∨ many = 5 ∨ many = 6 ∨ many = 7 := by omega
  rcases h with rfl | rfl | rfl | rfl | rfl | rfl | rfl <;> decide +kernel
abbrev s_law : Stmt := top 18
abbrev N_law : List Str := ["script", "draws", "many", "count", "there", "last_so", "number", "order", "draw", "told"]
theorem sc_law : FnScope N_law ["script"] (defScope s_law) := ⟨rfl, rfl, rfl, by decide +kernel, rfl, by decide +kernel, by decide +kernel⟩
theorem ok_law {f : Addr} {fd : FuncData} (F : Fun K "law" "law" s_law f fd) (T : Txt P w K mg base) (G_order_of : Df P w K mg base 2 "order_of" ["many", "rule"] pr_order_of) (G_steps_for : Dk P w K mg base 4 "steps_for" ["many", "order", "back"] 2 ["back"] (.bl false) pr_steps_for) (G_how_many_orders : Df P w K mg base 3 "how_many_orders" ["many"] pr_how_many_orders) (G_order_number : Df P w K mg base 3 "order_number" ["many", "number"] pr_order_number) (G_last_counts : Df P w K mg base 4 "last_counts" ["many"] pr_last_counts) (G__law_draws : Df P w K mg base 2 "_law_draws" ["script", "k", "many", "base"] pr__law_draws) (G__law_walk : Df P w K mg base 1 "_law_walk" ["many", "steps"] pr__law_walk) : FnOk P w K mg base CX0 6 f fd ["script"] (spD K pr_law) := by
  have nd := sc_law.nd
  refine fun_ok F sc_law (by rintro ds R ⟨_, rfl, _⟩; rfl) (by decide) fun cdv A outer s H E hr ds R h => ?_
  obtain ⟨ns, rfl, hns, hR⟩ := h
  refine xs_setO 1 nd rfl (Or.inl rfl) (xe_callD G__law_draws (hr.mono (by decide)) rfl (xa_cons (xi_var 0 rfl rfl (Or.inl rfl)) (xa_cons xi_int (xa_cons xi_int (xa_cons xi_int xa_nil)))) ⟨ns, 0, 20, 27720, rfl, by decide, by decide, by decide, by decide, by decide, by decide, rfl⟩) ?_
  have hl := lawDraws_length ns 0 20 27720
  have hd := lawDraws_bd ns 0 20 (base := 27720) (by decide)
  generalize lawDraws ns 0 20 27720 = dr at hl hd
  have hl : dr.length = 20 := hl
  refine xs_freeze 1 rfl ?_
  refine xs_for (xf_tup (gd := D.int) (as := ([1, 2, 3, 4, 5, 6, 7] : List Int)) (xi_tup (xa_cons xi_int (xa_cons xi_int (xa_cons xi_int (xa_cons xi_int (xa_cons xi_int (xa_cons xi_int (xa_cons xi_int xa_nil))))))) (Nat.le_of_ble_eq_true rfl)) (xg_name 2 nd rfl (Or.inl rfl))) (M := fun S' => ∃ s2 s3 s4 s5 s6 s7, S' = ([.im (.scr ns), .im (.lst (dr.map D.int)), s2, s3, s4, s5, s6, s7, .no, .no] : Sg))
    (fun i S' => ∃ s2 s3 s4 s5 s6 s7, S' = ([.im (.scr ns), .im (.lst (dr.map D.int)), s2, s3, s4, s5, s6, s7, .no, .no] : Sg)) ⟨_, _, _, _, _, _, rfl⟩ ?_ (fun S' h => h) ?_ rfl
  · rintro i many S' hm ⟨s2, s3, s4, s5, s6, s7, rfl⟩
    have hm := List.mem_of_getElem? hm
    have hmm : 1 ≤ many ∧ many ≤ 7 := by simp at hm; omega
    clear hm
    have hL := lcmUp_pos many.toNat
    have hL2 := lcm_small hmm.1 hmm.2
    refine xs_set 3 nd rfl (Or.inl rfl) (xe_callD G_how_many_orders (hr.mono (by decide)) rfl (xa_cons (xi_var 2 rfl rfl (Or.inl rfl)) xa_nil) ⟨many, rfl, by omega, by omega, rfl⟩) ?_
    refine xs_dnew 4 nd rfl (Or.inl rfl) ?_
    refine xs_setO 5 nd rfl (Or.inl rfl) (xe_bin (bin_rep1I (by omega) (by omega)) (XE.seeN (xe_lst (xa_cons xi_int xa_nil) (Nat.le_of_ble_eq_true rfl))) (XE.see (xi_var 2 rfl rfl (Or.inl rfl)))) ?_
    have hrng : (rng many).length = many.toNat := rng_length many
    refine xs_for (xf_range1 (XE.see (xi_var 3 rfl rfl (Or.inl rfl))) (by omega) (by omega) (xg_name 6 nd rfl (Or.inl rfl)) rfl T.b_range) (M := fun S' => ∃ s6 s7, S' = ([.im (.scr ns), .im (.lst (dr.map D.int)), .im (.int many), .im (.int (lcmUp many.toNat)), .od (numsF many (lcmUp many.toNat).toNat), .ow ((lastUp many (lcmUp many.toNat).toNat).map D.int), s6, s7, .no, .no] : Sg))
      (fun i S' => ∃ s6 s7, S' = ([.im (.scr ns), .im (.lst (dr.map D.int)), .im (.int many), .im (.int (lcmUp many.toNat)), .od (numsF many i), .ow ((lastUp many i).map D.int), s6, s7, .no, .no] : Sg)) ⟨_, _, rfl⟩ ?_ ?_ ?_ rfl
    · rintro i a S' ha ⟨s6, s7, rfl⟩
      obtain ⟨hi, ea⟩ := List.getElem?_eq_some_iff.mp ha
      rw [List.getElem_range] at ea
      subst ea
      rw [List.length_range] at hi
      have hb := lastO_bd hmm.1 i
      unfold lastO at hb
      have hll := lastUp_len many i
      have hol := orderOf_length (.step ((i : Int) + 1)) many
      have hwk := num_walk ((i : Int) + 1) many
      have hnew := nums_new (many := many) (n := i) (by omega)
      have hst := num_steps (many := many) (k := (i : Int) + 1) (by omega) (by omega)
      have hB := beg_num ((i : Int) + 1) many
      have hnx : lastUp many (i + 1) = (lastUp many i).set (lastO many i).toNat ((lastUp many i).getD (lastO many i).toNat 0 + 1) := rfl
      unfold lastO at hnx
      have hns2 := nums_succ many i
      have etk : (List.replicate many.toNat ((i : Int) + 1)).take many.toNat = List.replicate many.toNat ((i : Int) + 1) := List.take_of_length_le (by rw [List.length_replicate]; omega)
      refine xs_setO 7 nd rfl (Or.inl rfl) (xe_callD G_order_number (hr.mono (by decide)) rfl (xa_cons (xi_var 2 rfl rfl (Or.inl rfl)) (xa_cons (xi_var 6 rfl rfl (Or.inl rfl)) xa_nil)) ⟨many, i, rfl, by omega, by omega, rfl⟩) ?_
      generalize orderOf (.step ((i : Int) + 1)) many = o at hb hol hwk hnew hst hB hnx hns2
      refine xs_freeze 7 rfl ?_
      refine xs_ifr (XV.t (xv_or (xt_cmp (cmp_neD (hr.mono (Nat.zero_le _)) (okQ_ints _) (okQ_ints _)) (XE.see (xi_var 7 rfl rfl (Or.inl rfl))) (XE.seeN (xe_callD G__law_walk (hr.mono (by decide)) rfl (xa_cons (xi_var 2 rfl rfl (Or.inl rfl)) (xa_cons (XE.fix (xe_bin (bin_rep1I (by omega) (by omega)) (XE.seeN (xe_lst (xa_cons (xe_bin bin_add (XE.see (xi_var 6 rfl rfl (Or.inl rfl))) (XE.see xi_int)) xa_nil) (Nat.le_of_ble_eq_true rfl))) (XE.see (xi_var 2 rfl rfl (Or.inl rfl))))) xa_nil)) ⟨many, List.replicate many.toNat ((i : Int) + 1), rfl, by omega, by omega, rfl⟩)) (nomark _)) (fun hb => (xv_or1 (xt_not (xt_val (XE.see (xi_isi kit_list (XE.see (xi_var 7 rfl rfl (Or.inl rfl))) rfl T.b_isinstance rfl T.b_list PyProof.Rows.boot_list PyProof.Rows.boot_isinstance (fun _ z => nomatch z))))))))) (fun hb => ?_) (fun _ => ?_)
      · rw [etk, ← hwk] at hb
        exact absurd hb (by simp [eqv_ints, kitD])
      refine xs_dput 4 (hr.mono (Nat.zero_le _)) rfl rfl (Or.inl rfl) (xe_callT c_tupL (XE.see (xi_var 7 rfl rfl (Or.inl rfl))) rfl T.b_tuple PyProof.Rows.boot_tuple) hnew (by rw [nums_len]; omega) ?_
      refine xs_setItemI 5 rfl rfl (Or.inl rfl) (xe_bin bin_add (XE.see (xi_ixL (xw_own 5 rfl rfl (Or.inl rfl)) (XE.see (xi_ixL (XE.see (xi_var 7 rfl rfl (Or.inl rfl))) (XE.see (xi_neg (XE.see xi_int))) (at_lastI (by omega)))) (at_ints hb.1 (by omega)))) (XE.see xi_int)) (XE.see (xi_ixL (XE.see (xi_var 7 rfl rfl (Or.inl rfl))) (XE.see (xi_neg (XE.see xi_int))) (at_lastI (by omega)))) hb.1 (by omega) ?_
      refine xs_ifr (xt_cmp (cmp_neD (hr.mono (Nat.zero_le _)) (okD_stepsV _).q (okD_steps "steps" (by decide +kernel) _ _).q) (XE.see (xe_callKd G_steps_for (fun F => Dd.bl false) (hr.mono (by decide)) rfl (xa_cons (xi_var 2 rfl rfl (Or.inl rfl)) (xa_cons (xe_callT c_tupL (XE.see (xi_var 7 rfl rfl (Or.inl rfl))) rfl T.b_tuple PyProof.Rows.boot_tuple) xa_nil)) ⟨many, o, false, rfl, by omega, by omega, hB, rfl⟩)) (XE.see (xi_tup (xa_cons xi_str (xa_cons (xe_bin bin_add (XE.see (xi_var 6 rfl rfl (Or.inl rfl))) (XE.see xi_int)) (xa_cons (xi_var 3 rfl rfl (Or.inl rfl)) xa_nil))) (Nat.le_of_ble_eq_true rfl))) (nomark _)) (fun hb => ?_) (fun _ => ?_)
      · rw [hst, eqv_refl (okD_steps "steps" (by decide +kernel) _ _).q] at hb
        exact absurd hb (by decide)
      rw [← hnx, ← hns2]
      exact xs_nil ⟨_, _, rfl⟩
    · rintro S' ⟨s6, s7, rfl⟩
      rw [List.length_range]
      exact ⟨_, _, rfl⟩
    rintro S' ⟨s6, s7, rfl⟩
    have hnl := nums_len many (lcmUp many.toNat).toNat
    refine xs_ifr (XV.t (xv_or (xt_cmp cmp_ne (XE.see (xi_lenD 4 rfl rfl (Or.inl rfl) rfl T.b_len)) (XE.see (xi_var 3 rfl rfl (Or.inl rfl))) (nomark _)) (fun hb => (xv_or1 (xt_cmp (cmp_neD (hr.mono (Nat.zero_le _)) (okQ_ints _) (okQ_ints _)) (XE.seeN (xe_callD G_last_counts (hr.mono (by decide)) rfl (xa_cons (xi_var 2 rfl rfl (Or.inl rfl)) xa_nil) ⟨many, rfl, by omega, by omega, by omega, rfl⟩)) (xw_own 5 rfl rfl (Or.inl rfl)) (nomark _)))))) (fun hb => ?_) (fun _ => ?_)
    · rw [hnl, Int.toNat_of_nonneg (Int.le_of_lt hL)] at hb
      exact absurd hb (by simp [eqv_ints])
    have hdm := getD_bd hd (i := many.toNat) (by omega)
    have hin := nums_any (many := many) (s := 1 + dr.getD many.toNat 0 * 27720) (by omega)
    refine xs_ifr (xt_inD 4 (hr.mono (Nat.zero_le _)) rfl rfl (Or.inl rfl) (xe_callT c_tupL (XE.seeN (xe_callD G_order_of (hr.mono (by decide)) rfl (xa_cons (xi_var 2 rfl rfl (Or.inl rfl)) (xa_cons (xi_tup (xa_cons xi_str (xa_cons (xe_bin bin_add (XE.see xi_int) (XE.see (xe_bin (bin_mul (.inr (by omega))) (XE.see (xi_ixL (XE.see (xi_var 1 rfl rfl (Or.inl rfl))) (XE.see (xi_var 2 rfl rfl (Or.inl rfl))) (at_ints (by omega) (by omega)))) (XE.see xi_int)))) xa_nil)) (Nat.le_of_ble_eq_true rfl)) xa_nil)) ⟨.step (1 + dr.getD many.toNat 0 * 27720), many, rfl, True.intro, by omega, by omega, rfl⟩)) rfl T.b_tuple PyProof.Rows.boot_tuple)) (fun hb => ?_) (fun _ => ?_)
    · rw [decide_eq_true hin] at hb
      exact absurd hb (by decide)
    exact xs_nil ⟨_, _, _, _, _, _, rfl⟩
  · rintro S' ⟨s2, s3, s4, s5, s6, s7, rfl⟩
    have ec : cut dr (some 10) (some 12) = (dr.drop 10).take 2 := cut_mid _ (by decide) (by decide)
    refine xs_for (xf_list (gd := D.int) (XE.fix (xe_slI (XE.see (xi_var 1 rfl rfl (Or.inl rfl))) (xp_some (XE.see xi_int)) (xp_some (XE.see xi_int)))) (xg_name 8 nd rfl (Or.inl rfl))) (M := fun S' => ∃ t1 t2 t3 t4 t5 t6 t7 t8, S' = ([.im (.scr ns), .im (.lst (dr.map D.int)), t1, t2, t3, t4, t5, t6, t7, t8] : Sg))
      (fun i S' => ∃ t1 t2 t3 t4 t5 t6 t7 t8, S' = ([.im (.scr ns), .im (.lst (dr.map D.int)), t1, t2, t3, t4, t5, t6, t7, t8] : Sg)) ⟨_, _, _, _, _, _, _, _, rfl⟩ ?_ (fun S' h => h) ?_ rfl
    · rintro i b S' hb ⟨t1, t2, t3, t4, t5, t6, t7, t8, rfl⟩
      have hb := List.mem_of_getElem? hb
      rw [ec] at hb
      have hb := hd _ (List.mem_of_mem_drop (List.mem_of_mem_take hb))
      have m3 := emod_bd (x := b) (p := 3) (by decide)
      have hlm : lcmUp (8 + b % 3).toNat = ([840, 2520, 2520] : List Int).getD (b % 3).toNat 0 ∧ lcmUp (8 + b % 3).toNat ≤ 2520 := by
        have e : b % 3 = 0 ∨ b % 3 = 1 ∨ b % 3 = 2 := by omega
        rcases e with e | e | e <;> rw [e] <;> decide +kernel
      refine xs_set 2 nd rfl (Or.inl rfl) (xe_bin bin_add (XE.see xi_int) (XE.see (xe_bin (bin_mod (by decide)) (XE.see (xi_var 8 rfl rfl (Or.inl rfl))) (XE.see xi_int)))) ?_
      have hm0 : 8 ≤ 8 + b % 3 ∧ 8 + b % 3 ≤ 10 := by omega
      have e3 : ([840, 2520, 2520] : List Int).getD (b % 3).toNat 0 = lcmUp (8 + b % 3).toNat := hlm.1.symm
      have at3 : atI (([840, 2520, 2520] : List Int).map D.int) (b % 3) = some (.int (lcmUp (8 + b % 3).toNat)) := by rw [← e3]; exact at_ints m3.1 m3.2
      have hL2 := hlm.2
      clear hlm e3
      have hL := lcmUp_pos (8 + b % 3).toNat
      generalize 8 + b % 3 = many at hm0 at3 hL2 hL
      refine xs_set 3 nd rfl (Or.inl rfl) (xe_callD G_how_many_orders (hr.mono (by decide)) rfl (xa_cons (xi_var 2 rfl rfl (Or.inl rfl)) xa_nil) ⟨many, rfl, by omega, by omega, rfl⟩) ?_
      refine xs_setO 9 nd rfl (Or.inl rfl) (xe_callD G_last_counts (hr.mono (by decide)) rfl (xa_cons (xi_var 2 rfl rfl (Or.inl rfl)) xa_nil) ⟨many, rfl, by omega, by omega, by omega, rfl⟩) ?_
      have hsum := lastUp_sum (many := many) (by omega) (lcmUp many.toNat).toNat
      have hlen := lastUp_len many (lcmUp many.toNat).toNat
      have hposs : ∀ j : Nat, j < (lcmUp many.toNat).toNat → 1 ≤ (lastUp many (lcmUp many.toNat).toNat).getD (lastO many j).toNat 0 := fun j hj => lastUp_pos (by omega) hj
      rw [Int.toNat_of_nonneg (Int.le_of_lt hL)] at hsum
      generalize lastUp many (lcmUp many.toNat).toNat = tl at hsum hlen hposs
      refine xs_freeze 9 rfl ?_
      refine xs_ifr (XV.t (xv_or (xt_cmp cmp_ne (XE.see (xi_var 3 rfl rfl (Or.inl rfl))) (XE.see (xi_ixL (XE.seeN (xe_lst (xa_cons xi_int (xa_cons xi_int (xa_cons xi_int xa_nil))) (Nat.le_of_ble_eq_true rfl))) (XE.see (xe_bin (bin_mod (by decide)) (XE.see (xi_var 8 rfl rfl (Or.inl rfl))) (XE.see xi_int))) at3)) (nomark _)) (fun hb => (xv_or (xt_cmp cmp_ne (XE.see (xe_callB (c_sum rfl) (XE.see (xi_var 9 rfl rfl (Or.inl rfl))) rfl T.b_sum PyProof.Rows.boot_sum)) (XE.see (xi_var 3 rfl rfl (Or.inl rfl))) (nomark _)) (fun hb => (xv_or1 (xt_cmp cmp_ne (XE.see (xe_callB c_lenI (XE.see (xi_var 9 rfl rfl (Or.inl rfl))) rfl T.b_len PySem.boot_len)) (XE.see (xi_var 2 rfl rfl (Or.inl rfl))) (nomark _)))))))) (fun hb => ?_) (fun _ => ?_)
      · rw [hsum, hlen, Int.toNat_of_nonneg (by omega)] at hb
        exact absurd hb (by simp)
      refine xs_set 6 nd rfl (Or.inl rfl) (xe_bin (bin_mod hL) (XE.see (xi_var 8 rfl rfl (Or.inl rfl))) (XE.see (xi_var 3 rfl rfl (Or.inl rfl)))) ?_
      have hmb := emod_bd (x := b) hL
      generalize b % lcmUp many.toNat = num at hmb
      refine xs_setO 7 nd rfl (Or.inl rfl) (xe_callD G_order_number (hr.mono (by decide)) rfl (xa_cons (xi_var 2 rfl rfl (Or.inl rfl)) (xa_cons (xi_var 6 rfl rfl (Or.inl rfl)) xa_nil)) ⟨many, num, rfl, by omega, by omega, rfl⟩) ?_
      have hlo := hposs num.toNat (by omega)
      have hlb := lastO_bd (many := many) (by omega) num.toNat
      unfold lastO at hlo hlb
      rw [Int.toNat_of_nonneg hmb.1] at hlo hlb
      have hol := orderOf_length (.step (num + 1)) many
      have hst := num_steps (many := many) (k := num + 1) (by omega) (by omega)
      have hB := beg_num (num + 1) many
      generalize orderOf (.step (num + 1)) many = o at hlo hlb hol hst hB
      refine xs_freeze 7 rfl ?_
      refine xs_ifr (XV.t (xv_or (xt_cmp (cmp_neD (hr.mono (Nat.zero_le _)) (okD_stepsV _).q (okD_steps "steps" (by decide +kernel) _ _).q) (XE.see (xe_callKd G_steps_for (fun F => Dd.bl false) (hr.mono (by decide)) rfl (xa_cons (xi_var 2 rfl rfl (Or.inl rfl)) (xa_cons (xe_callT c_tupL (XE.see (xi_var 7 rfl rfl (Or.inl rfl))) rfl T.b_tuple PyProof.Rows.boot_tuple) xa_nil)) ⟨many, o, false, rfl, by omega, by omega, hB, rfl⟩)) (XE.see (xi_tup (xa_cons xi_str (xa_cons (xe_bin bin_add (XE.see (xi_var 6 rfl rfl (Or.inl rfl))) (XE.see xi_int)) (xa_cons (xi_var 3 rfl rfl (Or.inl rfl)) xa_nil))) (Nat.le_of_ble_eq_true rfl))) (nomark _)) (fun hb => (xv_or1 (xt_cmp cmp_lt (XE.see (xi_ixL (XE.see (xi_var 9 rfl rfl (Or.inl rfl))) (XE.see (xi_ixL (XE.see (xi_var 7 rfl rfl (Or.inl rfl))) (XE.see (xi_neg (XE.see xi_int))) (at_lastI (by omega)))) (at_ints hlb.1 (by omega)))) (XE.see xi_int) (nomark _)))))) (fun hb => ?_) (fun _ => ?_)
      · rw [hst, eqv_refl (okD_steps "steps" (by decide +kernel) _ _).q, decide_eq_false (show ¬ (tl.getD (o.getD (o.length - 1) 0).toNat 0 < 1) by omega)] at hb
        exact absurd hb (by decide)
      exact xs_nil ⟨_, _, _, _, _, _, _, _, rfl⟩
    rintro S' ⟨t1, t2, t3, t4, t5, t6, t7, t8, rfl⟩
    have e5 : lcmUp (5 : Int).toNat = 60 := by decide +kernel
    refine xs_setO 9 nd rfl (Or.inl rfl) (xe_callD G_last_counts (hr.mono (by decide)) rfl (xa_cons xi_int xa_nil) ⟨5, rfl, by decide, by decide, by rw [e5]; decide, rfl⟩) ?_
    have hlen := lastUp_len 5 (lcmUp (5 : Int).toNat).toNat
    generalize htl : lastUp 5 (lcmUp (5 : Int).toNat).toNat = tl at hlen
    have hlen : tl.length = 5 := hlen
    refine xs_appendI 9 rfl rfl (Or.inl rfl) xi_int (by omega) ?_
    have ecb : cut (tl ++ [0]) none (some (-1)) = tl := by
      rw [cut_butlast, List.length_append, List.length_singleton, Nat.add_sub_cancel, List.take_left]
    refine xs_ret (xi_cmp (cmp_eqD (hr.mono (Nat.zero_le _)) (okQ_ints _) (okQ_ints _)) (XE.seeN (xe_callD G_last_counts (hr.mono (by decide)) rfl (xa_cons xi_int xa_nil) ⟨5, rfl, by decide, by decide, by rw [e5]; decide, rfl⟩)) (XE.seeN (xe_slI (xw_own 9 rfl rfl (Or.inl rfl)) xp_none (xp_some (XE.see (xi_neg (XE.see xi_int)))))) (nomark _)) ?_
    exact ret_true hR (by rw [ecb, htl, eqv_ints]; exact decide_eq_true rfl)

end
theorem all_mk {l : PySem.W.OpenLaw} {w : World} {K : PySem.W.Frag} {h : Heap} {mg : Str → Option Value} {fa : Addr} (X : K.In h) (G : h.Ns mainGlobals mg) (hfa : mg "law" = some (.ref fa))
    {f0 f1 f2 f3 f4 f5 f6 f7 f8 f9 f10 f11 f12 f13 f14 f15 : Addr} {od0 an0 od1 an1 od2 an2 od3 an3 od4 an4 od5 an5 od6 an6 od7 an7 od8 an8 od9 an9 od10 an10 od11 an11 od12 an12 od13 an13 od14 an14 od15 an15 : Option Addr} {sl0 sl1 sl2 sl3 sl4 sl5 sl6 sl7 sl8 sl9 sl10 sl11 sl12 sl13 sl14 sl15 : Array (Option Value)} {oc0 kV0 dc0 pm0 cd0 ct0 oc1 kV1 dc1 pm1 cd1 ct1 oc2 kV2 dc2 pm2 cd2 ct2 oc3 kV3 dc3 pm3 cd3 ct3 oc4 kV4 dc4 pm4 cd4 ct4 oc5 kV5 dc5 pm5 cd5 ct5 oc6 kV6 dc6 pm6 cd6 ct6 oc7 dc7 pm7 cd7 ct7 oc8 kV8 dc8 pm8 cd8 ct8 oc9 kV9 dc9 pm9 cd9 ct9 oc10 dc10 pm10 cd10 ct10 oc11 kV11 dc11 pm11 cd11 ct11 oc12 kV12 dc12 pm12 cd12 ct12 oc13 kV13 dc13 pm13 cd13 ct13 oc14 kV14 dc14 pm14 cd14 ct14 oc15 kV15 dc15 pm15 cd15 ct15 : Value}
    {D7 D10 : Addr}
    (a0 : PySem.W.nsIn K mainGlobals "_law_cell" = some (some (.ref f0))) (l0 : K.lookup f0 = some ⟨oc0, od0, .func (PySem.W.fnOf "_law_cell" "_law_cell" (defArgs s__law_cell) (defBody s__law_cell) (defScope s__law_cell) .none kV0 dc0 pm0 an0 cd0 ct0), sl0⟩) (c0 : PySem.W.codeIn K cd0 "_law_cell" = true) (k0 : PySem.W.keepIn K (.ref f0) = true)
    (a1 : PySem.W.nsIn K mainGlobals "_law_draws" = some (some (.ref f1))) (l1 : K.lookup f1 = some ⟨oc1, od1, .func (PySem.W.fnOf "_law_draws" "_law_draws" (defArgs s__law_draws) (defBody s__law_draws) (defScope s__law_draws) .none kV1 dc1 pm1 an1 cd1 ct1), sl1⟩) (c1 : PySem.W.codeIn K cd1 "_law_draws" = true) (k1 : PySem.W.keepIn K (.ref f1) = true)
    (a2 : PySem.W.nsIn K mainGlobals "place_by" = some (some (.ref f2))) (l2 : K.lookup f2 = some ⟨oc2, od2, .func (PySem.W.fnOf "place_by" "place_by" (defArgs s_place_by) (defBody s_place_by) (defScope s_place_by) .none kV2 dc2 pm2 an2 cd2 ct2), sl2⟩) (c2 : PySem.W.codeIn K cd2 "place_by" = true) (k2 : PySem.W.keepIn K (.ref f2) = true)
    (a3 : PySem.W.nsIn K mainGlobals "next_step" = some (some (.ref f3))) (l3 : K.lookup f3 = some ⟨oc3, od3, .func (PySem.W.fnOf "next_step" "next_step" (defArgs s_next_step) (defBody s_next_step) (defScope s_next_step) .none kV3 dc3 pm3 an3 cd3 ct3), sl3⟩) (c3 : PySem.W.codeIn K cd3 "next_step" = true) (k3 : PySem.W.keepIn K (.ref f3) = true)
    (a4 : PySem.W.nsIn K mainGlobals "order_of" = some (some (.ref f4))) (l4 : K.lookup f4 = some ⟨oc4, od4, .func (PySem.W.fnOf "order_of" "order_of" (defArgs s_order_of) (defBody s_order_of) (defScope s_order_of) .none kV4 dc4 pm4 an4 cd4 ct4), sl4⟩) (c4 : PySem.W.codeIn K cd4 "order_of" = true) (k4 : PySem.W.keepIn K (.ref f4) = true)
    (a5 : PySem.W.nsIn K mainGlobals "shared" = some (some (.ref f5))) (l5 : K.lookup f5 = some ⟨oc5, od5, .func (PySem.W.fnOf "shared" "shared" (defArgs s_shared) (defBody s_shared) (defScope s_shared) .none kV5 dc5 pm5 an5 cd5 ct5), sl5⟩) (c5 : PySem.W.codeIn K cd5 "shared" = true) (k5 : PySem.W.keepIn K (.ref f5) = true)
    (a6 : PySem.W.nsIn K mainGlobals "common" = some (some (.ref f6))) (l6 : K.lookup f6 = some ⟨oc6, od6, .func (PySem.W.fnOf "common" "common" (defArgs s_common) (defBody s_common) (defScope s_common) .none kV6 dc6 pm6 an6 cd6 ct6), sl6⟩) (c6 : PySem.W.codeIn K cd6 "common" = true) (k6 : PySem.W.keepIn K (.ref f6) = true)
    (a7 : PySem.W.nsIn K mainGlobals "asked" = some (some (.ref f7))) (l7 : K.lookup f7 = some ⟨oc7, od7, .func (PySem.W.fnOf "asked" "asked" (defArgs s_asked) (defBody s_asked) (defScope s_asked) .none (.ref D7) dc7 pm7 an7 cd7 ct7), sl7⟩) (c7 : PySem.W.codeIn K cd7 "asked" = true) (k7 : PySem.W.keepIn K (.ref f7) = true)
    (a8 : PySem.W.nsIn K mainGlobals "clashes" = some (some (.ref f8))) (l8 : K.lookup f8 = some ⟨oc8, od8, .func (PySem.W.fnOf "clashes" "clashes" (defArgs s_clashes) (defBody s_clashes) (defScope s_clashes) .none kV8 dc8 pm8 an8 cd8 ct8), sl8⟩) (c8 : PySem.W.codeIn K cd8 "clashes" = true) (k8 : PySem.W.keepIn K (.ref f8) = true)
    (a9 : PySem.W.nsIn K mainGlobals "joined" = some (some (.ref f9))) (l9 : K.lookup f9 = some ⟨oc9, od9, .func (PySem.W.fnOf "joined" "joined" (defArgs s_joined) (defBody s_joined) (defScope s_joined) .none kV9 dc9 pm9 an9 cd9 ct9), sl9⟩) (c9 : PySem.W.codeIn K cd9 "joined" = true) (k9 : PySem.W.keepIn K (.ref f9) = true)
    (a10 : PySem.W.nsIn K mainGlobals "steps_for" = some (some (.ref f10))) (l10 : K.lookup f10 = some ⟨oc10, od10, .func (PySem.W.fnOf "steps_for" "steps_for" (defArgs s_steps_for) (defBody s_steps_for) (defScope s_steps_for) .none (.ref D10) dc10 pm10 an10 cd10 ct10), sl10⟩) (c10 : PySem.W.codeIn K cd10 "steps_for" = true) (k10 : PySem.W.keepIn K (.ref f10) = true)
    (a11 : PySem.W.nsIn K mainGlobals "_law_walk" = some (some (.ref f11))) (l11 : K.lookup f11 = some ⟨oc11, od11, .func (PySem.W.fnOf "_law_walk" "_law_walk" (defArgs s__law_walk) (defBody s__law_walk) (defScope s__law_walk) .none kV11 dc11 pm11 an11 cd11 ct11), sl11⟩) (c11 : PySem.W.codeIn K cd11 "_law_walk" = true) (k11 : PySem.W.keepIn K (.ref f11) = true)
    (a12 : PySem.W.nsIn K mainGlobals "how_many_orders" = some (some (.ref f12))) (l12 : K.lookup f12 = some ⟨oc12, od12, .func (PySem.W.fnOf "how_many_orders" "how_many_orders" (defArgs s_how_many_orders) (defBody s_how_many_orders) (defScope s_how_many_orders) .none kV12 dc12 pm12 an12 cd12 ct12), sl12⟩) (c12 : PySem.W.codeIn K cd12 "how_many_orders" = true) (k12 : PySem.W.keepIn K (.ref f12) = true)
    (a13 : PySem.W.nsIn K mainGlobals "order_number" = some (some (.ref f13))) (l13 : K.lookup f13 = some ⟨oc13, od13, .func (PySem.W.fnOf "order_number" "order_number" (defArgs s_order_number) (defBody s_order_number) (defScope s_order_number) .none kV13 dc13 pm13 an13 cd13 ct13), sl13⟩) (c13 : PySem.W.codeIn K cd13 "order_number" = true) (k13 : PySem.W.keepIn K (.ref f13) = true)
    (a14 : PySem.W.nsIn K mainGlobals "last_counts" = some (some (.ref f14))) (l14 : K.lookup f14 = some ⟨oc14, od14, .func (PySem.W.fnOf "last_counts" "last_counts" (defArgs s_last_counts) (defBody s_last_counts) (defScope s_last_counts) .none kV14 dc14 pm14 an14 cd14 ct14), sl14⟩) (c14 : PySem.W.codeIn K cd14 "last_counts" = true) (k14 : PySem.W.keepIn K (.ref f14) = true)
    (a15 : PySem.W.nsIn K mainGlobals "law" = some (some (.ref f15))) (l15 : K.lookup f15 = some ⟨oc15, od15, .func (PySem.W.fnOf "law" "law" (defArgs s_law) (defBody s_law) (defScope s_law) .none kV15 dc15 pm15 an15 cd15 ct15), sl15⟩) (c15 : PySem.W.codeIn K cd15 "law" = true) (k15 : PySem.W.keepIn K (.ref f15) = true)
    (d7 : PySem.W.nsIn K D7 "back" = some (some (.bool false)))
    (d10 : PySem.W.nsIn K D10 "back" = some (some (.bool false)))
    (z_len : PySem.W.nsIn K mainGlobals "len" = some none)
    (z_list : PySem.W.nsIn K mainGlobals "list" = some none)
    (z_range : PySem.W.nsIn K mainGlobals "range" = some none)
    (z_tuple : PySem.W.nsIn K mainGlobals "tuple" = some none)
    (z_sum : PySem.W.nsIn K mainGlobals "sum" = some none)
    (z_isinstance : PySem.W.nsIn K mainGlobals "isinstance" = some none)
    : ∃ fd : FuncData, (∀ (s : Shared) (v : Value), BindsTo s fd ⟨[v], []⟩ [("script", v)]) ∧ ∀ base : Heap, K.In base → base.Ns mainGlobals mg → FnOk l.prog w K mg base CX0 6 fa fd ["script"] (spD K pr_law) := by
  have e := hfa.symm.trans (PySem.W.mg_of X G a15)
  cases e
  refine ⟨PySem.W.fnOf "law" "law" (defArgs s_law) (defBody s_law) (defScope s_law) .none kV15 dc15 pm15 an15 cd15 ct15, fun s v => .of_eq rfl, fun base _ _ => ?_⟩
  have T : Txt l.prog w K mg base := ⟨PySem.W.mg_none_of X G z_len, PySem.W.mg_none_of X G z_list, PySem.W.mg_none_of X G z_range, PySem.W.mg_none_of X G z_tuple, PySem.W.mg_none_of X G z_sum, PySem.W.mg_none_of X G z_isinstance⟩
  have F0 := fun_mk (st := s__law_cell) l0 c0 k0
  have G__law_cell : Df l.prog w K mg base 1 "_law_cell" ["script", "k"] pr__law_cell := ⟨_, _, ok__law_cell F0 T, PySem.W.mg_of X G a0, k0, F0.binds (ps := ["script", "k"]) fun _ _ _ _ _ _ us hl => match us, hl with | [_, _], _ => rfl⟩
  have F1 := fun_mk (st := s__law_draws) l1 c1 k1
  have G__law_draws : Df l.prog w K mg base 2 "_law_draws" ["script", "k", "many", "base"] pr__law_draws := ⟨_, _, ok__law_draws F1 T G__law_cell, PySem.W.mg_of X G a1, k1, F1.binds (ps := ["script", "k", "many", "base"]) fun _ _ _ _ _ _ us hl => match us, hl with | [_, _, _, _], _ => rfl⟩
  have F2 := fun_mk (st := s_place_by) l2 c2 k2
  have G_place_by : Df l.prog w K mg base 1 "place_by" ["step", "many"] pr_place_by := ⟨_, _, ok_place_by F2 T, PySem.W.mg_of X G a2, k2, F2.binds (ps := ["step", "many"]) fun _ _ _ _ _ _ us hl => match us, hl with | [_, _], _ => rfl⟩
  have F3 := fun_mk (st := s_next_step) l3 c3 k3
  have G_next_step : Df l.prog w K mg base 1 "next_step" ["rule", "time", "hand"] pr_next_step := ⟨_, _, ok_next_step F3 T, PySem.W.mg_of X G a3, k3, F3.binds (ps := ["rule", "time", "hand"]) fun _ _ _ _ _ _ us hl => match us, hl with | [_, _, _], _ => rfl⟩
  have F4 := fun_mk (st := s_order_of) l4 c4 k4
  have G_order_of : Df l.prog w K mg base 2 "order_of" ["many", "rule"] pr_order_of := ⟨_, _, ok_order_of F4 T G_place_by G_next_step, PySem.W.mg_of X G a4, k4, F4.binds (ps := ["many", "rule"]) fun _ _ _ _ _ _ us hl => match us, hl with | [_, _], _ => rfl⟩
  have F5 := fun_mk (st := s_shared) l5 c5 k5
  have G_shared : Df l.prog w K mg base 1 "shared" ["one", "other"] pr_shared := ⟨_, _, ok_shared F5 T, PySem.W.mg_of X G a5, k5, F5.binds (ps := ["one", "other"]) fun _ _ _ _ _ _ us hl => match us, hl with | [_, _], _ => rfl⟩
  have F6 := fun_mk (st := s_common) l6 c6 k6
  have G_common : Df l.prog w K mg base 2 "common" ["one", "other"] pr_common := ⟨_, _, ok_common F6 T G_shared, PySem.W.mg_of X G a6, k6, F6.binds (ps := ["one", "other"]) fun _ _ _ _ _ _ us hl => match us, hl with | [_, _], _ => rfl⟩
  have F7 := fun_mk (st := s_asked) l7 c7 k7
  have G_asked : Dk l.prog w K mg base 1 "asked" ["many", "order", "back"] 2 ["back"] (.bl false) pr_asked := dk_mk l7 c7 k7 (PySem.W.mg_of X G a7) d7 rfl rfl (ok_asked F7 T) (fun us z hl => match us, hl with | [_, _], _ => rfl) (fun _ _ _ _ _ _ us ks h1 h2 => match us, ks, h1, h2 with | [_, _], [_], _, _ => ⟨_, _, _, _, _, _, rfl, rfl, rfl⟩)
  have F8 := fun_mk (st := s_clashes) l8 c8 k8
  have G_clashes : Df l.prog w K mg base 2 "clashes" ["one", "other"] pr_clashes := ⟨_, _, ok_clashes F8 T G_shared, PySem.W.mg_of X G a8, k8, F8.binds (ps := ["one", "other"]) fun _ _ _ _ _ _ us hl => match us, hl with | [_, _], _ => rfl⟩
  have F9 := fun_mk (st := s_joined) l9 c9 k9
  have G_joined : Df l.prog w K mg base 3 "joined" ["one", "other"] pr_joined := ⟨_, _, ok_joined F9 T G_common, PySem.W.mg_of X G a9, k9, F9.binds (ps := ["one", "other"]) fun _ _ _ _ _ _ us hl => match us, hl with | [_, _], _ => rfl⟩
  have F10 := fun_mk (st := s_steps_for) l10 c10 k10
  have G_steps_for : Dk l.prog w K mg base 4 "steps_for" ["many", "order", "back"] 2 ["back"] (.bl false) pr_steps_for := dk_mk l10 c10 k10 (PySem.W.mg_of X G a10) d10 rfl rfl (ok_steps_for F10 T G_asked G_clashes G_joined) (fun us z hl => match us, hl with | [_, _], _ => rfl) (fun _ _ _ _ _ _ us ks h1 h2 => match us, ks, h1, h2 with | [_, _], [_], _, _ => ⟨_, _, _, _, _, _, rfl, rfl, rfl⟩)
  have F11 := fun_mk (st := s__law_walk) l11 c11 k11
  have G__law_walk : Df l.prog w K mg base 1 "_law_walk" ["many", "steps"] pr__law_walk := ⟨_, _, ok__law_walk F11 T, PySem.W.mg_of X G a11, k11, F11.binds (ps := ["many", "steps"]) fun _ _ _ _ _ _ us hl => match us, hl with | [_, _], _ => rfl⟩
  have F12 := fun_mk (st := s_how_many_orders) l12 c12 k12
  have G_how_many_orders : Df l.prog w K mg base 3 "how_many_orders" ["many"] pr_how_many_orders := ⟨_, _, ok_how_many_orders F12 T G_common, PySem.W.mg_of X G a12, k12, F12.binds (ps := ["many"]) fun _ _ _ _ _ _ us hl => match us, hl with | [_], _ => rfl⟩
  have F13 := fun_mk (st := s_order_number) l13 c13 k13
  have G_order_number : Df l.prog w K mg base 3 "order_number" ["many", "number"] pr_order_number := ⟨_, _, ok_order_number F13 T G_order_of, PySem.W.mg_of X G a13, k13, F13.binds (ps := ["many", "number"]) fun _ _ _ _ _ _ us hl => match us, hl with | [_, _], _ => rfl⟩
  have F14 := fun_mk (st := s_last_counts) l14 c14 k14
  have G_last_counts : Df l.prog w K mg base 4 "last_counts" ["many"] pr_last_counts := ⟨_, _, ok_last_counts F14 T G_how_many_orders G_order_number, PySem.W.mg_of X G a14, k14, F14.binds (ps := ["many"]) fun _ _ _ _ _ _ us hl => match us, hl with | [_], _ => rfl⟩
  have F15 := fun_mk (st := s_law) l15 c15 k15
  exact ok_law F15 T G_order_of G_steps_for G_how_many_orders G_order_number G_last_counts G__law_draws G__law_walk
theorem walk {l : PySem.W.OpenLaw} {q : Program} {loose : List Str} {XP : (Str → Option Value) → Heap → Prop} {YP : World → Heap → Prop} {d : DefRec} {K : Params → PySem.W.Frag} (hn : l.most = some 63) (hdf : d.params.defaults = [])
    (hY : ∀ (w : World) (h : Heap), YP w h → (K w.params).In h)
    (F : ∀ (w : World) (mg : Str → Option Value) (fa : Addr) (h : Heap), (K w.params).In h → h.Ns mainGlobals mg → mg d.name = some (.ref fa) →
      ∃ fd : FuncData, (∀ (s : Shared) (u : Value), BindsTo s fd ⟨[u], []⟩ [("script", u)]) ∧ ∀ base : Heap, (K w.params).In base → base.Ns mainGlobals mg → FnOk l.prog w (K w.params) mg base CX0 6 fa fd ["script"] (spD (K w.params) pr_law)) :
    PySem.W.WalkO q loose XP YP l.row.toRowW d [] (fun f vs => PySem.call f vs) :=
  L2.walk_of (n := 63) (k := 6) (x := "script") (CX := fun _ => CX0) (sp := fun w => spD (K w.params) pr_law) hn (by decide) hdf ⟨rfl, by decide, by decide⟩ hY F (fun _ _ _ _ hl _ hS => law_sp hl hS) fun _ _ _ _ _ z => z
end My
open PySem PySem.W PyProof.Rows in
set_option maxRecDepth 100000 in
set_option maxHeartbeats 0 in
theorem PySem.Challenge.cw_countout_k11_whole_how_many_orders_holds : PySem.Challenge.rw_countout_k11_whole_how_many_orders.Holds := by
  w_on; o_law; k_head; (case hw => w_witness2)
  k_fill
  refine My.walk (l := PySem.Challenge.rw_countout_k11_whole_how_many_orders) rfl rfl (fun w h Y => PySem.W.kIn_of Y) ?F
  case F =>
    intro w mg fa h KX G hmg
    refine' My.all_mk KX G hmg ?a0 ?l0 ?c0 ?k0 ?a1 ?l1 ?c1 ?k1 ?a2 ?l2 ?c2 ?k2 ?a3 ?l3 ?c3 ?k3 ?a4 ?l4 ?c4 ?k4 ?a5 ?l5 ?c5 ?k5 ?a6 ?l6 ?c6 ?k6 ?a7 ?l7 ?c7 ?k7 ?a8 ?l8 ?c8 ?k8 ?a9 ?l9 ?c9 ?k9 ?a10 ?l10 ?c10 ?k10 ?a11 ?l11 ?c11 ?k11 ?a12 ?l12 ?c12 ?k12 ?a13 ?l13 ?c13 ?k13 ?a14 ?l14 ?c14 ?k14 ?a15 ?l15 ?c15 ?k15 ?d7 ?d10 ?z_len ?z_list ?z_range ?z_tuple ?z_sum ?z_isinstance
    (case a0 => k_is)
    (case l0 => k_is)
    (case c0 => k_is)
    (case k0 => k_is)
    (case a1 => k_is)
    (case l1 => k_is)
    (case c1 => k_is)
    (case k1 => k_is)
    (case a2 => k_is)
    (case l2 => k_is)
    (case c2 => k_is)
    (case k2 => k_is)
    (case a3 => k_is)
    (case l3 => k_is)
    (case c3 => k_is)
    (case k3 => k_is)
    (case a4 => k_is)
    (case l4 => k_is)
    (case c4 => k_is)
    (case k4 => k_is)
    (case a5 => k_is)
    (case l5 => k_is)
    (case c5 => k_is)
    (case k5 => k_is)
    (case a6 => k_is)
    (case l6 => k_is)
    (case c6 => k_is)
    (case k6 => k_is)
    (case a7 => k_is)
    (case l7 => k_is)
    (case c7 => k_is)
    (case k7 => k_is)
    (case a8 => k_is)
    (case l8 => k_is)
    (case c8 => k_is)
    (case k8 => k_is)
    (case a9 => k_is)
    (case l9 => k_is)
    (case c9 => k_is)
    (case k9 => k_is)
    (case a10 => k_is)
    (case l10 => k_is)
    (case c10 => k_is)
    (case k10 => k_is)
    (case a11 => k_is)
    (case l11 => k_is)
    (case c11 => k_is)
    (case k11 => k_is)
    (case a12 => k_is)
    (case l12 => k_is)
    (case c12 => k_is)
    (case k12 => k_is)
    (case a13 => k_is)
    (case l13 => k_is)
    (case c13 => k_is)
    (case k13 => k_is)
    (case a14 => k_is)
    (case l14 => k_is)
    (case c14 => k_is)
    (case k14 => k_is)
    (case a15 => k_is)
    (case l15 => k_is)
    (case c15 => k_is)
    (case k15 => k_is)
    (case d7 => k_is)
    (case d10 => k_is)
    (case z_len => k_is)
    (case z_list => k_is)
    (case z_range => k_is)
    (case z_tuple => k_is)
    (case z_sum => k_is)
    (case z_isinstance => k_is)
#print axioms PySem.Challenge.cw_countout_k11_whole_how_many_orders_holds
