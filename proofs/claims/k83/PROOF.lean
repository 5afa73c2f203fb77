import PyProof.Rows.All
import Wide.All
import OpenK.AllK
import Wide.FinOn
import HandS.ForMost
import HandS.IsInst
import HandS.DictComp
import HandS.TupAny
import HandS.Conv
import HandS.Zip
import HandS.SetFor
import HandS.Words
import HandS.WordsExc
import HandS.Codes
import HandS.Defaults
import HandS.Head0
import HandS.Head1
import HandS.Head2
import HandS.HeadEnd
import HandS.HeadHook1
import HandS.HeadHook2
import KE.KStateDown
import HandS.Ends
import HandS.More
import PySem.Challenge.RW_casesruled_k83_whole_readings_within_rea
set_option Elab.async false
set_option linter.all false
set_option maxRecDepth 100000
set_option maxHeartbeats 1000000
/-! Data values D (tuples and lists as values), how they stand in a heap, and the states of the evaluator. -/
namespace E3
open PySem PySem.Spec PyProof.Rows L2

/-- a value of the evaluator: fzl: a list of ints that nobody changes (the script); ref n: the n-th mutable object -/
inductive D where
  | non | bl (b : Bool) | int (i : Int) | str (x : Str)
  | tup (xs : List D) | lst (xs : List D) | dct (kvs : List (Key × D)) | fzl (ns : List Int) | ref (n : Nat)

def FzL (K : PySem.W.Frag) (H : Hp) (a : Addr) (xs : List V) : Prop := (∃ o, H a = some (.frz o (.lst xs))) ∨ SqL K (fun _ => none) a xs
theorem FzL.sq {K : PySem.W.Frag} {H : Hp} {a : Addr} {xs : List V} (h : FzL K H a xs) : SqL K H a xs := by
  rcases h with ⟨o, h⟩ | (h | h)
  · exact .inl (.inr ⟨o, h⟩)
  · rcases h with h | ⟨o, h⟩ <;> cases h
  · exact .inr h

/-- a tuple whose record is known: it has no dict -/
def TpX (K : PySem.W.Frag) (H : Hp) (a : Addr) (xs : List V) : Prop := (∃ o, H a = some (.frz o (.tup xs)) ∧ o.dict = none) ∨ ((∃ o, K.lookup a = some o ∧ o.dict = none) ∧ SqT K (fun _ => none) a xs)
theorem TpX.sq {K : PySem.W.Frag} {H : Hp} {a : Addr} {xs : List V} (h : TpX K H a xs) : SqT K H a xs := by
  rcases h with ⟨o, h, _⟩ | ⟨_, h | h⟩
  · exact .inl (.inr ⟨o, h⟩)
  · rcases h with h | ⟨o, h⟩ <;> cases h
  · exact .inr h
section
variable (K : PySem.W.Frag) (H : Hp) (Z : Addr → Prop) (ι : List Addr)
mutual
/-- v stands for d; Z: the lists and dicts that nobody changes any more; ι: where the mutable objects stand -/
inductive Rel : V → D → Prop
  | non : Rel .non .non
  | bl (b : Bool) : Rel (.bl b) (.bl b)
  | int (i : Int) : Rel (.int i) (.int i)
  | str (x : Str) : Rel (.str x) (.str x)
  | tup {a : Addr} {vs : List V} {ds : List D} : TpX K H a vs → Rels vs ds → Rel (.ref a) (.tup ds)
  | lst {a : Addr} {vs : List V} {ds : List D} : Z a → H a = some (.lst vs) → Rels vs ds → Rel (.ref a) (.lst ds)
  | dct {a : Addr} {kvs : List (Key × V)} {ks : List (Key × D)} : Z a → Rd H a (.dK kvs) → RelK kvs ks → Rel (.ref a) (.dct ks)
  | fzl {a : Addr} {ns : List Int} : FzL K H a (ns.map V.int) → Rel (.ref a) (.fzl ns)
  | ref {a : Addr} {n : Nat} : ι[n]? = some a → Rel (.ref a) (.ref n)
inductive Rels : List V → List D → Prop
  | nil : Rels [] []
  | cons {v : V} {vs : List V} {d : D} {ds : List D} : Rel v d → Rels vs ds → Rels (v :: vs) (d :: ds)
inductive RelK : List (Key × V) → List (Key × D) → Prop
  | nil : RelK [] []
  | cons {k : Key} {v : V} {vs : List (Key × V)} {d : D} {ds : List (Key × D)} : Rel v d → RelK vs ds → RelK ((k, v) :: vs) ((k, d) :: ds)
end
/-- a list or dict by its contents -/
def Top : V → D → Prop
  | v, .lst ds => ∃ a vs, v = .ref a ∧ H a = some (.lst vs) ∧ Rels K H Z ι vs ds
  | v, .dct ks => ∃ a kvs, v = .ref a ∧ H a = some (.dK kvs) ∧ RelK K H Z ι kvs ks
  | _, _ => False
def RelW (v : V) (d : D) : Prop := Rel K H Z ι v d ∨ Top K H Z ι v d
end

section
variable {K : PySem.W.Frag} {H H' : Hp} {Z Z' : Addr → Prop} {ι ι' : List Addr}
/-- what a heap must keep for values to stand -/
structure Kp (K : PySem.W.Frag) (H : Hp) (Z : Addr → Prop) (ι : List Addr) (H' : Hp) (Z' : Addr → Prop) (ι' : List Addr) : Prop where
  t : ∀ a xs, TpX K H a xs → TpX K H' a xs
  s : ∀ a xs, FzL K H a xs → FzL K H' a xs
  z : ∀ a, Z a → Z' a
  l : ∀ a vs, Z a → H a = some (.lst vs) → H' a = some (.lst vs)
  d : ∀ a kvs, Z a → Rd H a (.dK kvs) → Rd H' a (.dK kvs)
  i : ∀ (n : Nat) a, ι[n]? = some a → ι'[n]? = some a
mutual
theorem Rel.mono (k : Kp K H Z ι H' Z' ι') : ∀ {v : V} {d : D}, Rel K H Z ι v d → Rel K H' Z' ι' v d
  | _, _, .non => .non
  | _, _, .bl b => .bl b
  | _, _, .int i => .int i
  | _, _, .str x => .str x
  | _, _, .tup h r => .tup (k.t _ _ h) (Rels.mono k r)
  | _, _, .lst z h r => .lst (k.z _ z) (k.l _ _ z h) (Rels.mono k r)
  | _, _, .dct z h r => .dct (k.z _ z) (k.d _ _ z h) (RelK.mono k r)
  | _, _, .fzl h => .fzl (k.s _ _ h)
  | _, _, .ref h => .ref (k.i _ _ h)
theorem Rels.mono (k : Kp K H Z ι H' Z' ι') : ∀ {v : List V} {d : List D}, Rels K H Z ι v d → Rels K H' Z' ι' v d
  | _, _, .nil => .nil
  | _, _, .cons r t => .cons (Rel.mono k r) (Rels.mono k t)
theorem RelK.mono (k : Kp K H Z ι H' Z' ι') : ∀ {v : List (Key × V)} {d : List (Key × D)}, RelK K H Z ι v d → RelK K H' Z' ι' v d
  | _, _, .nil => .nil
  | _, _, .cons r t => .cons (Rel.mono k r) (RelK.mono k t)
end
theorem Rels.length : ∀ {vs : List V} {ds : List D}, Rels K H Z ι vs ds → vs.length = ds.length
  | _, _, .nil => rfl
  | _, _, .cons _ t => congrArg (· + 1) (Rels.length t)
theorem RelK.length : ∀ {vs : List (Key × V)} {ds : List (Key × D)}, RelK K H Z ι vs ds → vs.length = ds.length
  | _, _, .nil => rfl
  | _, _, .cons _ t => congrArg (· + 1) (RelK.length t)
theorem Rels.get : ∀ {vs : List V} {ds : List D} {i : Nat} {d : D}, Rels K H Z ι vs ds → ds[i]? = some d → ∃ v, vs[i]? = some v ∧ Rel K H Z ι v d
  | _, _, _, _, .nil, e => by simp at e
  | _, _, 0, _, .cons r _, e => by simp at e; subst e; exact ⟨_, rfl, r⟩
  | _, _, i + 1, d, .cons _ t, e => by
    obtain ⟨u, h1, h2⟩ := Rels.get (i := i) (d := d) t (by simpa using e)
    exact ⟨u, by simpa using h1, h2⟩
theorem Rels.getV : ∀ {vs : List V} {ds : List D} {i : Nat} {v : V}, Rels K H Z ι vs ds → vs[i]? = some v → ∃ d, ds[i]? = some d ∧ Rel K H Z ι v d
  | _, _, _, _, .nil, e => by simp at e
  | _, _, 0, _, .cons r _, e => by simp at e; subst e; exact ⟨_, rfl, r⟩
  | _, _, i + 1, d, .cons _ t, e => by
    obtain ⟨u, h1, h2⟩ := Rels.getV (i := i) (v := d) t (by simpa using e)
    exact ⟨u, by simpa using h1, h2⟩
theorem Rels.append : ∀ {vs ws : List V} {ds es : List D}, Rels K H Z ι vs ds → Rels K H Z ι ws es → Rels K H Z ι (vs ++ ws) (ds ++ es)
  | _, _, _, _, .nil, s => s
  | _, _, _, _, .cons r t, s => .cons r (Rels.append t s)
theorem Rels.take : ∀ {vs : List V} {ds : List D} (n : Nat), Rels K H Z ι vs ds → Rels K H Z ι (vs.take n) (ds.take n)
  | _, _, 0, _ => .nil
  | _, _, _ + 1, .nil => .nil
  | _, _, n + 1, .cons r t => .cons r (Rels.take n t)
theorem Rels.drop : ∀ {vs : List V} {ds : List D} (n : Nat), Rels K H Z ι vs ds → Rels K H Z ι (vs.drop n) (ds.drop n)
  | _, _, 0, r => r
  | _, _, _ + 1, .nil => .nil
  | _, _, n + 1, .cons _ t => Rels.drop n t
theorem Rels.set {x : V} {d : D} (r : Rel K H Z ι x d) : ∀ {vs : List V} {ds : List D} (i : Nat), Rels K H Z ι vs ds → Rels K H Z ι (vs.set i x) (ds.set i d)
  | _, _, _, .nil => .nil
  | _, _, 0, .cons _ t => .cons r t
  | _, _, i + 1, .cons q t => .cons q (Rels.set r i t)
theorem Rels.reverse {vs : List V} {ds : List D} (h : Rels K H Z ι vs ds) : Rels K H Z ι vs.reverse ds.reverse := by
  induction vs generalizing ds with
  | nil => cases h; exact .nil
  | cons v vs ih =>
    cases h with
    | cons r t => rw [List.reverse_cons, List.reverse_cons]; exact (ih t).append (.cons r .nil)
theorem Rels.eraseIdx : ∀ {vs : List V} {ds : List D} (i : Nat), Rels K H Z ι vs ds → Rels K H Z ι (vs.eraseIdx i) (ds.eraseIdx i)
  | _, _, _, .nil => .nil
  | _, _, 0, .cons _ t => t
  | _, _, i + 1, .cons q t => .cons q (Rels.eraseIdx i t)
end

abbrev St := L2.St
/-! ### states -/
structure S where
  sl : List (Option (D × Bool))
  mh : List (List D)
inductive Tg where
  | st | fr | bw (i : Nat)
  deriving DecidableEq

/-- what may be written: the mutable objects, the lists and dicts that slots own -/
def Wr (σ : St) (S : S) (ι : List Addr) (a : Addr) : Prop := a ∈ ι ∨ ∃ (i : Nat) (d : D), S.sl[i]? = some (some (d, true)) ∧ σ[i]? = some (some (.ref a))

structure SR (K : PySem.W.Frag) (H : Hp) (Z : Addr → Prop) (ι : List Addr) (σ : St) (S : S) : Prop where
  len : σ.length = S.sl.length
  st : ∀ (i : Nat) d, S.sl[i]? = some (some (d, false)) → ∃ v, σ[i]? = some (some v) ∧ Rel K H Z ι v d
  ow : ∀ (i : Nat) d, S.sl[i]? = some (some (d, true)) → ∃ a, σ[i]? = some (some (.ref a)) ∧ Top K H Z ι (.ref a) d ∧ ¬ Z a ∧ a ∉ ι
  ap : ∀ (i j : Nat) d d' a, S.sl[i]? = some (some (d, true)) → S.sl[j]? = some (some (d', true)) → σ[i]? = some (some (.ref a)) → σ[j]? = some (some (.ref a)) → i = j
  il : ι.length = S.mh.length
  mh : ∀ (n : Nat) a ds, ι[n]? = some a → S.mh[n]? = some ds → ¬ Z a ∧ ∃ vs, H a = some (.lst vs) ∧ Rels K H Z ι vs ds
  nd : ι.Nodup
  zd : ∀ a, Z a → (∃ vs, H a = some (.lst vs)) ∨ ∃ kvs, Rd H a (.dK kvs)

section
variable {K : PySem.W.Frag} {H H' : Hp} {Z Z' : Addr → Prop} {ι ι' : List Addr} {σ : St} {S0 S1 S2 : S}
theorem Top.obj {v : V} {d : D} (h : Top K H Z ι v d) : ∃ a, v = .ref a ∧ ((∃ vs, H a = some (.lst vs)) ∨ ∃ kvs, H a = some (.dK kvs)) := by
  cases d with
  | lst ds => obtain ⟨a, vs, e, h, _⟩ := h; exact ⟨a, e, .inl ⟨vs, h⟩⟩
  | dct ks => obtain ⟨a, vs, e, h, _⟩ := h; exact ⟨a, e, .inr ⟨vs, h⟩⟩
  | _ => exact h.elim
/-- what may be written is a list or a dict -/
theorem SR.wr (R : SR K H Z ι σ S0) {a : Addr} (h : Wr σ S0 ι a) : (∃ vs, H a = some (.lst vs)) ∨ ∃ kvs, H a = some (.dK kvs) := by
  rcases h with h | ⟨i, d, h1, h2⟩
  · obtain ⟨n, hn, e⟩ := List.getElem_of_mem h
    have hm : n < S0.mh.length := by rw [← R.il]; exact hn
    obtain ⟨_, vs, q, _⟩ := R.mh n a S0.mh[n] (by rw [List.getElem?_eq_getElem hn, e]) (List.getElem?_eq_getElem hm)
    exact .inl ⟨vs, q⟩
  · obtain ⟨b, h3, t, _⟩ := R.ow i d h1
    rw [h2] at h3; cases h3
    obtain ⟨c, e, q⟩ := t.obj
    cases e
    exact q
theorem SR.wrZ (R : SR K H Z ι σ S0) {a : Addr} (h : Wr σ S0 ι a) : ¬ Z a := by
  rcases h with h | ⟨i, d, h1, h2⟩
  · obtain ⟨n, hn, e⟩ := List.getElem_of_mem h
    have hm : n < S0.mh.length := by rw [← R.il]; exact hn
    exact (R.mh n a S0.mh[n] (by rw [List.getElem?_eq_getElem hn, e]) (List.getElem?_eq_getElem hm)).1
  · obtain ⟨b, h3, _, z, _⟩ := R.ow i d h1
    rw [h2] at h3; cases h3
    exact z
theorem SR.wrSome (R : SR K H Z ι σ S0) {a : Addr} (h : Wr σ S0 ι a) : H a ≠ none := by
  rcases R.wr h with ⟨_, e⟩ | ⟨_, e⟩ <;> rw [e] <;> simp
theorem SR.zSome (R : SR K H Z ι σ S0) {a : Addr} (h : Z a) : H a ≠ none := by
  rcases R.zd a h with ⟨_, e⟩ | ⟨_, e | ⟨_, e⟩⟩ <;> rw [e] <;> simp

/-- from one state to a later one, the slots of the frame as they are -/
structure Nxt (K : PySem.W.Frag) (σ : St) (H : Hp) (Z : Addr → Prop) (ι : List Addr) (S0 : S) (H' : Hp) (Z' : Addr → Prop) (ι' : List Addr) (S1 : S) : Prop where
  sr : SR K H' Z' ι' σ S1
  fr : ∀ a o, H a = some o → ¬ Wr σ S0 ι a → H' a = some o
  zs : ∀ a, Z a → Z' a
  zn : ∀ a, Z' a → Z a ∨ H a = none ∨ Wr σ S0 ι a
  wn : ∀ a, Wr σ S1 ι' a → Wr σ S0 ι a ∨ H a = none
  dm : ∀ a, H a ≠ none → H' a ≠ none
  ip : ∀ (n : Nat) a, ι[n]? = some a → ι'[n]? = some a

theorem notup (R : SR K H Z ι σ S0) {a : Addr} {o : HO} (e : H a = some o) (h : (∀ vs, o ≠ .lst vs) ∧ ∀ kvs, o ≠ .dK kvs) : ¬ Wr σ S0 ι a := fun w => by
  rcases R.wr w with ⟨vs, q⟩ | ⟨vs, q⟩
  · rw [e] at q; cases q; exact h.1 vs rfl
  · rw [e] at q; cases q; exact h.2 vs rfl
theorem Nxt.kp (R : SR K H Z ι σ S0) (N : Nxt K σ H Z ι S0 H' Z' ι' S1) : Kp K H Z ι H' Z' ι' where
  t := fun a xs h => by
    rcases h with ⟨o, h, dn⟩ | h
    · exact .inl ⟨o, N.fr a _ h (notup R h ⟨fun _ e => (by cases e), fun _ e => (by cases e)⟩), dn⟩
    · exact .inr h
  s := fun a xs h => by
    rcases h with ⟨o, h⟩ | h
    · exact .inl ⟨o, N.fr a _ h (notup R h ⟨fun _ e => (by cases e), fun _ e => (by cases e)⟩)⟩
    · exact .inr h
  z := N.zs
  l := fun a vs z h => N.fr a _ h fun w => R.wrZ w z
  d := fun a kvs z h => by
    rcases h with h | ⟨o, h⟩
    · exact .inl (N.fr a _ h fun w => R.wrZ w z)
    · exact .inr ⟨o, N.fr a _ h fun w => R.wrZ w z⟩
  i := N.ip
theorem Nxt.refl (R : SR K H Z ι σ S0) : Nxt K σ H Z ι S0 H Z ι S0 :=
  ⟨R, fun _ _ e _ => e, fun _ h => h, fun _ h => .inl h, fun _ h => .inl h, fun _ h => h, fun _ _ h => h⟩
theorem Nxt.trans {H1 H2 : Hp} {Z1 Z2 : Addr → Prop} {ι1 ι2 : List Addr} (R : SR K H Z ι σ S0) (N : Nxt K σ H Z ι S0 H1 Z1 ι1 S1) (M : Nxt K σ H1 Z1 ι1 S1 H2 Z2 ι2 S2) : Nxt K σ H Z ι S0 H2 Z2 ι2 S2 where
  sr := M.sr
  fr := fun a o e w => M.fr a o (N.fr a o e w) fun w1 => by
    rcases N.wn a w1 with q | q
    · exact w q
    · rw [e] at q; cases q
  zs := fun a z => M.zs a (N.zs a z)
  zn := fun a z => by
    rcases M.zn a z with q | q | q
    · exact N.zn a q
    · by_cases h : H a = none
      · exact .inr (.inl h)
      · exact absurd q (N.dm a h)
    · rcases N.wn a q with q | q
      · exact .inr (.inr q)
      · exact .inr (.inl q)
  wn := fun a w => by
    rcases M.wn a w with q | q
    · exact N.wn a q
    · by_cases h : H a = none
      · exact .inr h
      · exact absurd q (N.dm a h)
  dm := fun a h => M.dm a (N.dm a h)
  ip := fun n a h => M.ip n a (N.ip n a h)

/-- a grown heap -/
theorem kp_ext (h : ∀ a o, H a = some o → H' a = some o) : Kp K H Z ι H' Z ι where
  t := fun a xs q => by
    rcases q with ⟨o, q, dn⟩ | q
    · exact .inl ⟨o, h _ _ q, dn⟩
    · exact .inr q
  s := fun a xs q => by
    rcases q with ⟨o, q⟩ | q
    · exact .inl ⟨o, h _ _ q⟩
    · exact .inr q
  z := fun _ z => z
  l := fun a vs _ q => h _ _ q
  d := fun a kvs _ q => by
    rcases q with q | ⟨o, q⟩
    · exact .inl (h _ _ q)
    · exact .inr ⟨o, h _ _ q⟩
  i := fun _ _ h => h
theorem Top.mono (k : Kp K H Z ι H' Z' ι') {v : V} {d : D} (h : Top K H Z ι v d) (q : ∀ a o, v = .ref a → H a = some o → H' a = some o) : Top K H' Z' ι' v d := by
  cases d with
  | lst ds => obtain ⟨a, vs, e, h, r⟩ := h; exact ⟨a, vs, e, q a _ e h, r.mono k⟩
  | dct ks => obtain ⟨a, vs, e, h, r⟩ := h; exact ⟨a, vs, e, q a _ e h, r.mono k⟩
  | _ => exact h.elim
theorem SR.ext (R : SR K H Z ι σ S0) (h : ∀ a o, H a = some o → H' a = some o) : SR K H' Z ι σ S0 where
  len := R.len
  st := fun i d e => let ⟨v, h1, r⟩ := R.st i d e; ⟨v, h1, r.mono (kp_ext h)⟩
  ow := fun i d e => let ⟨a, h1, t, r⟩ := R.ow i d e; ⟨a, h1, t.mono (kp_ext h) fun _ _ _ => h _ _, r⟩
  ap := R.ap
  il := R.il
  mh := fun n a ds e1 e2 => let ⟨z, vs, q, r⟩ := R.mh n a ds e1 e2; ⟨z, vs, h _ _ q, r.mono (kp_ext h)⟩
  nd := R.nd
  zd := fun a z => by
    rcases R.zd a z with ⟨vs, q⟩ | ⟨kvs, q | ⟨o, q⟩⟩
    · exact .inl ⟨vs, h _ _ q⟩
    · exact .inr ⟨kvs, .inl (h _ _ q)⟩
    · exact .inr ⟨kvs, .inr ⟨o, h _ _ q⟩⟩
theorem Nxt.ext (R : SR K H Z ι σ S0) (h : ∀ a o, H a = some o → H' a = some o) : Nxt K σ H Z ι S0 H' Z ι S0 :=
  ⟨R.ext h, fun a o e _ => h a o e, fun _ z => z, fun _ z => .inl z, fun _ w => .inl w, fun a q => by
    cases e : H a with
    | none => exact absurd e q
    | some o => rw [h a o e]; simp, fun _ _ e => e⟩
theorem ext_upd {p : Addr} {o : HO} (hp : H p = none) : ∀ a u, H a = some u → upd H p o a = some u := fun a u e => by rw [upd_ne (ne_of_none e hp)]; exact e
/-- a new object -/
theorem Nxt.new (R : SR K H Z ι σ S0) {p : Addr} {o : HO} (hp : H p = none) : Nxt K σ H Z ι S0 (upd H p o) Z ι S0 := Nxt.ext R (ext_upd hp)
/-- a fresh list or dict is given up: nobody changes it any more -/
theorem SR.give (R : SR K H Z ι σ S0) {p : Addr} (hz : ¬ Wr σ S0 ι p) (ho : (∃ vs, H p = some (.lst vs)) ∨ ∃ kvs, H p = some (.dK kvs)) : SR K H (fun a => Z a ∨ a = p) ι σ S0 := by
  have k : Kp K H Z ι H (fun a => Z a ∨ a = p) ι := ⟨fun _ _ h => h, fun _ _ h => h, fun _ z => .inl z, fun _ _ _ h => h, fun _ _ _ h => h, fun _ _ h => h⟩
  refine ⟨R.len, fun i d e => let ⟨v, h1, r⟩ := R.st i d e; ⟨v, h1, r.mono k⟩, fun i d e => ?_, R.ap, R.il, fun n a ds e1 e2 => ?_, R.nd, fun a z => ?_⟩
  · obtain ⟨a, h1, t, z, n⟩ := R.ow i d e
    exact ⟨a, h1, t.mono k fun _ _ _ h => h, fun q => q.elim z fun q => hz (.inr ⟨i, d, e, q ▸ h1⟩), n⟩
  · obtain ⟨z, vs, q, r⟩ := R.mh n a ds e1 e2
    exact ⟨fun q => q.elim z fun q => hz (.inl (q ▸ List.mem_of_getElem? e1)), vs, q, r.mono k⟩
  · rcases z with z | z
    · exact R.zd a z
    · subst z
      rcases ho with ⟨vs, q⟩ | ⟨kvs, q⟩
      · exact .inl ⟨vs, q⟩
      · exact .inr ⟨kvs, .inl q⟩
end
end E3
set_option Elab.async false
set_option linter.all false
set_option maxRecDepth 100000
set_option maxHeartbeats 1000000
/-! Rules that make tuples, the new record known. -/
namespace E3
open PySem PySem.Spec PyProof.Rows L2
section
variable {X : Cx} {pos : Pos} {es : List Expr} {t : TA}
theorem tup_laid {pins : List (Addr × Obj)} {σ : St} {H : Hp} {s : Shared} {xs : List V} {us : List Value} {tk : Nat} (I : Inv X pins σ H s) (r : Vals xs us) (z : xs.length ≤ sizeLine) :
    Inv X pins σ (upd H s.heap.objs.size (.frz { cls := .type "tuple", data := .seq us.toArray } (.tup xs))) { s with heap := s.heap.push { cls := .type "tuple", data := .seq us.toArray }, toks := tk } :=
  I.laid (t' := tk) (fun b u e => Heap.get?_push_of_some _ e) (Nat.le_refl _) ⟨Heap.get?_push_size _ rfl, z, us, r, IsTup.new _ _⟩
def tTupX (t : TA) : TE := fun σ H Q => t σ H fun xs H1 => xs.length ≤ sizeLine ∧ ∀ p o, H1 p = none → o.dict = none → Q (.ref p) (upd H1 p (.frz o (.tup xs)))
theorem pe_tupX {x1} (h : PA X es t) : PE X (.Tuple es x1 pos) (tTupX t) := by
  refine ⟨fun pins s σ H Q I hq => ?_⟩
  refine wpAny_Tuple_spliced (thn (h.run pos pins s σ H _ I hq) fun us s1 ⟨xs, H1, I1, r, z, q⟩ => ⟨by rw [← r.length]; exact z, ?_⟩)
  have hf : H1 s1.heap.objs.size = none := I1.hok.fresh (Nat.le_refl _)
  exact ⟨.ref s1.heap.objs.size, _, tup_laid I1 r z, rfl, q _ _ hf rfl⟩
def rCatX (K : PySem.W.Frag) : R2 := fun x y H Q => ∃ a b xs ys, x = .ref a ∧ y = .ref b ∧ SqT K H a xs ∧ SqT K H b ys ∧ xs.length + ys.length ≤ sizeLine ∧
  (xs = [] → Q (.ref b) H) ∧ (xs ≠ [] → ys = [] → Q (.ref a) H) ∧ (xs ≠ [] → ys ≠ [] → ∀ p o, H p = none → o.dict = none → Q (.ref p) (upd H p (.frz o (.tup (xs ++ ys)))))
theorem op_catX : OpR X (binaryOp .Add) (rCatX X.K) := by
  intro pins s σ H x y v u Q I rx ry h
  obtain ⟨a, b, xs, ys, rfl, rfl, ha, hb, hz, q0, q1, q2⟩ := h
  by_cases hx : xs = []
  · exact op_catA pins s σ H _ _ v u Q I rx ry ⟨a, b, xs, ys, rfl, rfl, ha, hb, hz, q0, q1, fun n => absurd hx n⟩
  · cases rx
    cases ry
    obtain ⟨its, r1, p1, _⟩ := I.tuple ha
    obtain ⟨its2, r2, p2, _⟩ := I.tuple hb
    refine HT.cat_tup p1 p2 (fun z => hx (r1.nil_iff.mp z)) (fun z => ⟨.ref a, H, I, rfl, q1 hx (r2.nil_iff.mp z)⟩) (fun z => ?_) (by rw [← r1.length, ← r2.length]; exact hz)
    exact ⟨.ref s.heap.objs.size, _, tup_laid I (r1.append r2) (by rw [List.length_append]; exact hz), rfl, q2 hx (fun w => z (r2.nil_iff.mpr w)) _ _ (I.hok.fresh (Nat.le_refl _)) rfl⟩
def rSlX (K : PySem.W.Frag) : V → Option Int → Option Int → Hp → VK → Prop := fun x lo hi H Q => ∃ a xs, x = .ref a ∧ SqT K H a xs ∧
  (HT.sIx xs.length 0 lo = 0 ∧ HT.sIx xs.length xs.length hi = xs.length → Q (.ref a) H) ∧ (¬ (HT.sIx xs.length 0 lo = 0 ∧ HT.sIx xs.length xs.length hi = xs.length) → ∀ p o, H p = none → o.dict = none → Q (.ref p) (upd H p (.frz o (.tup (cutV xs lo hi)))))
theorem sl_tupX : SlR X (rSlX X.K) := by
  intro pins s σ H x v vl vu lo hi sl Q I rx hs pl pu h
  obtain ⟨a, xs, rfl, hx, q1, q2⟩ := h
  by_cases hw : HT.sIx xs.length 0 lo = 0 ∧ HT.sIx xs.length xs.length hi = xs.length
  · exact sl_tupA pins s σ H _ v vl vu lo hi sl Q I rx hs pl pu ⟨a, xs, rfl, hx, q1, fun n => absurd hw n⟩
  · cases rx
    obtain ⟨its, r, ht, hz⟩ := I.tuple hx
    have hlen : its.toArray.size = xs.length := by rw [List.size_toArray]; exact r.length.symm
    refine ⟨"tuple", _, PyProof.Rows.slot_tuple_getitem.lookup, ht.typeIs, ?_⟩
    refine HT.getItem_tuple_cut ht hs pl pu (by rw [hlen]; exact hw) ?_ (by rw [hlen]; exact hz)
    rw [hlen]
    exact ⟨.ref s.heap.objs.size, _, tup_laid I ((r.drop (HT.sIx xs.length 0 lo)).take (HT.sIx xs.length xs.length hi - HT.sIx xs.length 0 lo)) (Nat.le_trans (cutV_length xs lo hi) hz), rfl, q2 hw _ _ (I.hok.fresh (Nat.le_refl _)) rfl⟩
theorem call_tuple_ofX : CallR X (.type "tuple") (fun xs H Q => ∃ p ys, xs = [.ref p] ∧ ((SqL X.K H p ys ∧ ∀ l o, H l = none → o.dict = none → Q (.ref l) (upd H l (.frz o (.tup ys)))) ∨ (SqT X.K H p ys ∧ Q (.ref p) H))) := by
  intro pins s σ H xs us Q I r h
  obtain ⟨p, ys, rfl, h⟩ := h
  rcases h with ⟨hq, q⟩ | h
  · obtain ⟨u, rfl, rx⟩ := vals1 r
    cases rx
    obtain ⟨its, r', pl, hz⟩ := I.list hq
    have hlen := r'.length
    refine call_tuple_list pl.isList (fun h' kp => ?_) (by simp only [List.size_toArray] <;> omega)
    have I1 : Inv X pins σ H { s with heap := h' } := I.kept (t' := s.toks) kp
    exact ⟨.ref h'.objs.size, _, tup_laid (s := { s with heap := h' }) I1 r' hz, rfl, q _ _ (I1.hok.fresh (Nat.le_refl _)) rfl⟩
  · exact call_tuple_of pins s σ H _ us Q I r ⟨p, ys, rfl, .inr h⟩
end
end E3
set_option Elab.async false
set_option linter.all false
set_option maxRecDepth 100000
set_option maxHeartbeats 1000000
/-! The little language: expressions E, targets Tn, commands C, and what they compute. -/
namespace E3
open PySem PySem.Spec PyProof.Rows L2

inductive Cop where | eq | ne | lt | le | gt | ge | inn | nin
  deriving DecidableEq
inductive Bop where | add | sub | mul | fdv | mod
  deriving DecidableEq
/-- built-ins of one value -/
inductive B1 where | len | all | any | tuple | list | dict | int | min1 | max1 | srtset
  deriving DecidableEq
inductive Ty where | int | bool | str | tuple | list
  deriving DecidableEq
inductive Tn where | nm (i : Nat) | tp (r : Tn) | nil | cons (a r : Tn)
inductive E where
  | v (i : Nat) | cint (i : Int) | cbl (b : Bool) | cnon | cstr (x : Str) | glob (j : Nat)
  | bin (o : Bop) (a b : E) | neg (a : E)
  | cmp (o : Cop) (a b : E) | chn (o p : Cop) (a b c : E) | isn (a : E) | ntn (a : E)
  | and (a b : E) | or (a b : E) | one (a : E) | nt (a : E) | ife (c a b : E)
  | ix (a i : E) | sl (a lo hi : E) | rev (a : E) | nop
  | tup (as : E) | lst (as : E) | new (as : E) | dnil
  | nil | cons (a as : E)
  | call (j : Nat) (keep : Bool) (as : E) | callr (j : Nat) (as : E) | bor (e : E)
  | b1 (f : B1) (a : E) | min2 (a b : E) | max2 (a b : E) | isi (a : E) (t : Ty)
  | lc (own : List (Str × Nat)) (tg : Tn) (it cd el : E) | dc (own : List (Str × Nat)) (tg : Tn) (it cd ky el : E) | dk (own : List (Str × Nat)) (i j : Nat) (cd ky el : E)
  | pop (i : Nat) | rx (i : Nat) (k : E)
  | rg1 (a : E) | rg2 (a b : E) | zp (a b : E)
inductive C where
  | skip | seq (a b : C) | asg (t : Tn) (e : E) | par (i j : Nat) (a b : E)
  | ret (e : E) | retf (e : E) | retn | ite (c : E) (a b : C) | forr (t : Tn) (it : E) (b : C) | whl (c : E) (b : C)
  | app (i : Nat) (e : E) | ext (i : Nat) (e : E) | ins (i : Nat) (e : E) | setd (i : Nat) (k e : E) | setr (i : Nat) (k e : E) | never
  | brk | cont

/-! ### values -/
def ixD {α : Type} (xs : List α) (i : Int) : Option α := atI xs i
def cutD {α : Type} (xs : List α) (lo hi : Option Int) : List α := (xs.drop (HT.sIx xs.length 0 lo)).take (HT.sIx xs.length xs.length hi - HT.sIx xs.length 0 lo)
def getD (ks : List (Key × D)) (k : Key) : Option D := (ks.find? fun kv => decide (kv.1 = k)).map (·.2)
def putD (ks : List (Key × D)) (k : Key) (d : D) : List (Key × D) :=
  if ks.any (fun kv => decide (kv.1 = k)) then ks.map fun kv => if kv.1 = k then (kv.1, d) else kv else ks ++ [(k, d)]
def keyD : D → Option Key
  | .int i => some (.inl i)
  | .str x => some (.inr x)
  | _ => none
def dKey : Key → D
  | .inl i => .int i
  | .inr x => .str x
def flat : D → Bool
  | .lst _ | .dct _ | .fzl _ | .ref _ => false
  | .tup xs => flatL xs
  | _ => true
where flatL : List D → Bool
  | [] => true
  | d :: ds => flat d && flatL ds
def noRef : D → Bool
  | .ref _ => false
  | .tup xs => noRefL xs
  | .lst xs => noRefL xs
  | .dct ks => noRefK ks
  | _ => true
where
  noRefL : List D → Bool
  | [] => true
  | d :: ds => noRef d && noRefL ds
  noRefK : List (Key × D) → Bool
  | [] => true
  | (_, d) :: ds => noRef d && noRefK ds
/-- == of data -/
def eqD : D → D → Bool
  | .non, .non => true
  | .bl a, .bl b => a == b
  | .bl a, .int j => (if a then 1 else 0) == j
  | .int i, .bl b => i == (if b then 1 else 0)
  | .int i, .int j => i == j
  | .str x, .str y => x == y
  | .tup xs, .tup ys => eqL xs ys
  | .lst xs, .lst ys => eqL xs ys
  | _, _ => false
where eqL : List D → List D → Bool
  | [], [] => true
  | x :: xs, y :: ys => eqD x y && eqL xs ys
  | _, _ => false
def scalD : D → Bool
  | .non | .bl _ | .int _ | .str _ => true
  | _ => false
/-- data that == looks through: how deep, and its texts are plain -/
def dataOk : Nat → D → Bool
  | _, .non | _, .bl _ | _, .int _ => true
  | _, .str x => PyData.strOk x
  | n + 1, .tup xs => xs.all (dataOk n)
  | n + 1, .lst xs => xs.all (dataOk n)
  | _, _ => false
def isBI : D → D → Bool
  | .bl _, .int _ | .int _, .bl _ => true
  | _, _ => false
def deq (a b : D) : Option Bool :=
  if scalD a && scalD b && !isBI a b then some (eqD a b)
  else if dataOk 60 a && dataOk 60 b then some (eqD a b) else none
def flatS : D → Bool
  | .non | .bl _ | .int _ | .str _ => true
  | _ => false
def memD (x : D) : D → Option Bool
  | .tup ys => if flatS x && ys.all flatS then some (ys.any fun y => eqD y x) else if dataOk 60 x && dataOk 60 (.lst ys) then none else none
  | .lst ys => if flatS x && ys.all flatS then some (ys.any fun y => eqD y x) else none
  | .dct ks => match keyD x with
    | some k => some (getD ks k).isSome
    | none => none
  | _ => none
def copD : Cop → D → D → Option Bool
  | .eq, a, b => deq a b
  | .ne, a, b => (deq a b).map (!·)
  | .lt, .int i, .int j => some (decide (i < j))
  | .le, .int i, .int j => some (decide (i ≤ j))
  | .gt, .int i, .int j => some (decide (j < i))
  | .ge, .int i, .int j => some (decide (j ≤ i))
  | .inn, a, b => memD a b
  | .nin, a, b => (memD a b).map (!·)
  | _, _, _ => none
def small64 (i : Int) : Bool := decide (-(2 ^ 64) < i) && decide (i < 2 ^ 64)
def bopD : Bop → D → D → Option (D × Tg)
  | .add, .int i, .int j => some (.int (i + j), .st)
  | .sub, .int i, .int j => some (.int (i - j), .st)
  | .mul, .int i, .int j => if small64 i || small64 j then some (.int (i * j), .st) else none
  | .fdv, .int i, .int j => if decide (0 < j) && decide (j < 1073741824) then some (.int (i / j), .st) else none
  | .mod, .int i, .int j => if decide (0 < j) then some (.int (i % j), .st) else none
  | .add, .str x, .str y => if decide (x.length + y.length ≤ sizeLine) then some (.str (x ++ y), .st) else none
  | .add, .lst xs, .lst ys => if decide (xs.length + ys.length ≤ sizeLine) then some (.lst (xs ++ ys), .fr) else none
  | .add, .tup xs, .tup ys => if decide (xs.length + ys.length ≤ sizeLine) then some (.tup (xs ++ ys), .st) else none
  | _, _, _ => none
def itemD : D → D → Option D
  | .tup xs, .int i => ixD xs i
  | .lst xs, .int i => ixD xs i
  | .str x, .int i => if decide (x.length ≤ sizeLine) then (ixD x.cps.toList i).map fun c => .str ⟨#[c]⟩ else none
  | .dct ks, d => (keyD d).bind (getD ks)
  | _, _ => none
def boundD : Option D → Option (Option Int)
  | none => some none
  | some (.int i) => some (some i)
  | _ => none
def sliceD : D → Option Int → Option Int → Option (D × Tg)
  | .tup xs, lo, hi => some (.tup (cutD xs lo hi), .st)
  | .lst xs, lo, hi => some (.lst (cutD xs lo hi), .fr)
  | .fzl ns, lo, hi => some (.lst ((cutD ns lo hi).map .int), .fr)
  | _, _, _ => none
def tyD : Ty → D → Option Bool
  | .int, .int _ => some true
  | .int, .bl _ => some true
  | .bool, .bl _ => some true
  | .str, .str _ => some true
  | .tuple, .tup _ => some true
  | .list, .lst _ => some true
  | _, .ref _ => none
  | _, .fzl _ => none
  | _, _ => some false
def bools : List D → Option (List Bool)
  | [] => some []
  | .bl b :: r => (bools r).map (b :: ·)
  | _ => none
def intsD : List D → Option (List Int)
  | [] => some []
  | .int i :: r => (intsD r).map (i :: ·)
  | _ => none
def strsD : List D → Option (List Str)
  | [] => some []
  | .str x :: r => (strsD r).map (x :: ·)
  | _ => none
def pairsD : List D → Option (List (Key × D))
  | [] => some []
  | .tup [k, d] :: r => match keyD k, pairsD r with
    | some k, some r => some ((k, d) :: r)
    | _, _ => none
  | _ => none
def minL : List Int → Int
  | [] => 0
  | [x] => x
  | x :: r => if minL r < x then minL r else x
def maxL : List Int → Int
  | [] => 0
  | [x] => x
  | x :: r => if x < maxL r then maxL r else x
/-- the texts in a list, each once, by their order -/
def insT (x : Str) : List Str → List Str
  | [] => [x]
  | y :: r => if x = y then y :: r else if ltCps x.cps.toList y.cps.toList then x :: y :: r else y :: insT x r
def srtS (xs : List Str) : List Str := xs.foldr insT []
def b1D : B1 → D → Option (D × Tg)
  | .len, .tup xs => some (.int xs.length, .st)
  | .len, .lst xs => some (.int xs.length, .st)
  | .len, .dct xs => some (.int xs.length, .st)
  | .len, .str x => if decide (x.length ≤ sizeLine) then some (.int x.length, .st) else none
  | .all, .lst xs => (bools xs).map fun bs => (.bl (bs.all id), .st)
  | .any, .lst xs => (bools xs).map fun bs => (.bl (bs.any id), .st)
  | .tuple, .lst xs => some (.tup xs, .st)
  | .tuple, .tup xs => some (.tup xs, .st)
  | .list, .lst xs => some (.lst xs, .fr)
  | .list, .tup xs => some (.lst xs, .fr)
  | .list, .fzl ns => some (.lst (ns.map .int), .fr)
  | .list, .dct ks => some (.lst (ks.map fun k => dKey k.1), .fr)
  | .dict, .lst xs => (pairsD xs).map fun ks => (.dct (ks.foldl (fun a k => putD a k.1 k.2) []), .fr)
  | .dict, .tup xs => (pairsD xs).map fun ks => (.dct (ks.foldl (fun a k => putD a k.1 k.2) []), .fr)
  | .int, .int i => some (.int i, .st)
  | .min1, .lst xs => match intsD xs with
    | some (x :: r) => some (.int (minL (x :: r)), .st)
    | _ => none
  | .max1, .lst xs => match intsD xs with
    | some (x :: r) => some (.int (maxL (x :: r)), .st)
    | _ => none
  | .srtset, .lst xs => match strsD xs with
    | some ys => if decide (ys.length ≤ 60) then some (.lst ((srtS ys).map .str), .fr) else none
    | none => none
  | _, _ => none
def rgD (lo hi : Int) : List D := (List.range (hi - lo).toNat).map fun i => .int (lo + (i : Nat))
def rgOk (i : Int) : Bool := decide (-(2 ^ 62) ≤ i) && decide (i < 2 ^ 62)
/-- what a for walks -/
def itemsD : D → Option (List D)
  | .tup xs => some xs
  | .lst xs => some xs
  | .fzl ns => some (ns.map .int)
  | _ => none
def zipD (xs ys : List D) : List D := (xs.zip ys).map fun p => .tup [p.1, p.2]

/-! ### states -/
def S.set (s : S) (i : Nat) (d : D) (o : Bool) : S := { s with sl := s.sl.set i (some (d, o)) }
def wk (s : S) : D × Tg → Option D
  | (_, .bw i) => match s.sl[i]? with
    | some (some (d, _)) => some d
    | _ => none
  | (d, _) => some d
/-- the value is kept somewhere: a list or dict is given up by its slot -/
def hold (s : S) : D × Tg → Option (D × S)
  | (_, .bw i) => match s.sl[i]? with
    | some (some (d, _)) => some (d, s.set i d false)
    | _ => none
  | (d, _) => some (d, s)
def holdAll (s : S) : List (D × Tg) → Option (List D × S)
  | [] => some ([], s)
  | a :: r => (hold s a).bind fun p => (holdAll p.2 r).map fun q => (p.1 :: q.1, q.2)
def bindX : Tn → List D → S → Option S
  | .nm i, [d], s => if i < s.sl.length then some (s.set i d false) else none
  | .tp r, [.tup ds], s => bindX r ds s
  | .nil, [], s => some s
  | .cons a r, d :: ds, s => (bindX a [d] s).bind (bindX r ds)
  | _, _, _ => none
def wipeS (s : S) : List Nat → S
  | [] => s
  | i :: is => let t := wipeS s is; { t with sl := t.sl.set i none }
def backS (s0 s : S) : List Nat → S
  | [] => s
  | i :: is => let t := backS s0 s is; { t with sl := t.sl.set i ((s0.sl[i]?).getD none) }
def lcLoop (bd : D → S → Option S) (cd : S → Option (Bool × S)) (el : S → Option (D × S)) (wp : S → S) : List D → List D → S → Option (List D × S)
  | [], acc, s => some (acc, s)
  | d :: ds, acc, s => (bd d (wp s)).bind fun s1 => (cd s1).bind fun c =>
    if c.1 then (el c.2).bind fun x => if acc.length < sizeLine then lcLoop bd cd el wp ds (acc ++ [x.1]) x.2 else none
    else lcLoop bd cd el wp ds acc c.2
def dcLoop (bd : D → S → Option S) (cd : S → Option (Bool × S)) (ky el : S → Option (D × S)) (wp : S → S) : List D → List (Key × D) → S → Option (List (Key × D) × S)
  | [], acc, s => some (acc, s)
  | d :: ds, acc, s => (bd d (wp s)).bind fun s1 => (cd s1).bind fun c =>
    if c.1 then (ky c.2).bind fun y => (el y.2).bind fun x => (keyD y.1).bind fun k => if acc.length < sizeLine then dcLoop bd cd ky el wp ds (putD acc k x.1) x.2 else none
    else dcLoop bd cd ky el wp ds acc c.2

abbrev Fn := Nat → List D → List (List D) → Option (D × List (List D))
inductive Out where
  | nx (s : S) | rt (d : D) (s : S) | rf (d : D) (s : S) | bk (s : S) | ct (s : S)

abbrev Fv := S → Option (D × Tg × S)
abbrev Fa := S → Option (List D × S)
abbrev Ft := S → Option (List (D × Tg) × S)
abbrev Fc := S → Option (Bool × S)
abbrev Fb := S → Option (Option Int × S)
/-! ### what the forms do -/
def vF (i : Nat) : Fv := fun s => match s.sl[i]? with
  | some (some (d, true)) => some (d, .bw i, s)
  | some (some (d, false)) => some (d, .st, s)
  | _ => none
def cF (d : D) : Fv := fun s => some (d, .st, s)
def oF (d : Option D) : Fv := fun s => d.map fun d => (d, .st, s)
def op2F (k : D → D → Option (D × Tg)) (f g : Fv) : Fv := fun s => (f s).bind fun x => (g x.2.2).bind fun y => (wk y.2.2 (x.1, x.2.1)).bind fun d => (wk y.2.2 (y.1, y.2.1)).bind fun e => (k d e).map fun r => (r.1, r.2, y.2.2)
def op1F (k : D → Option (D × Tg)) (f : Fv) : Fv := fun s => (f s).bind fun x => (wk x.2.2 (x.1, x.2.1)).bind fun d => (k d).map fun r => (r.1, r.2, x.2.2)
def binF (o : Bop) (f g : Fv) : Fv := op2F (bopD o) f g
def negD : D → Option (D × Tg)
  | .int i => some (.int (-i), .st)
  | _ => none
def negF (f : Fv) : Fv := op1F negD f
def blT (b : Bool) : D × Tg := (.bl b, .st)
def cmpF (o : Cop) (f g : Fv) : Fv := op2F (fun d e => (copD o d e).map blT) f g
def chnF (o p : Cop) (f g h : Fv) : Fv := fun s => (f s).bind fun x => (g x.2.2).bind fun y => (wk y.2.2 (x.1, x.2.1)).bind fun d => (wk y.2.2 (y.1, y.2.1)).bind fun e => (copD o d e).bind fun r =>
  if r then (h y.2.2).bind fun z => (wk z.2.2 (y.1, y.2.1)).bind fun e => (wk z.2.2 (z.1, z.2.1)).bind fun k => (copD p e k).bind fun r => some (.bl r, .st, z.2.2) else some (.bl false, .st, y.2.2)
def isN : D → Bool
  | .non => true
  | _ => false
def isnF (f : Fv) : Fv := op1F (fun d => some (blT (isN d))) f
def ntnF (f : Fv) : Fv := op1F (fun d => some (blT (!isN d))) f
def boolD : D → Option Bool
  | .bl b => some b
  | _ => none
def andF (f g : Fv) : Fv := fun s => (f s).bind fun x => (boolD x.1).bind fun b => if b then g x.2.2 else some (.bl false, .st, x.2.2)
def orF (f g : Fv) : Fv := fun s => (f s).bind fun x => (boolD x.1).bind fun b => if b then some (.bl true, .st, x.2.2) else g x.2.2
def ntF (f : Fv) : Fv := fun s => (f s).bind fun x => (boolD x.1).bind fun b => some (.bl (!b), .st, x.2.2)
def iteF (c f g : Fv) : Fv := fun s => (c s).bind fun x => (boolD x.1).bind fun b => if b then f x.2.2 else g x.2.2
def ixF (f g : Fv) : Fv := op2F (fun d e => (itemD d e).map fun r => (r, Tg.st)) f g
def slF (f : Fv) (lo hi : Fb) : Fv := fun s => (f s).bind fun x => (lo x.2.2).bind fun l => (hi l.2).bind fun h => (wk h.2 (x.1, x.2.1)).bind fun d => (sliceD d l.1 h.1).map fun r => (r.1, r.2, h.2)
def revD : D → Option (D × Tg)
  | .tup xs => some (.tup xs.reverse, .st)
  | _ => none
def revF (f : Fv) : Fv := op1F revD f
def sized (xs : List D) : Bool := decide (xs.length ≤ sizeLine)
def tupF (f : Fa) : Fv := fun s => (f s).bind fun x => if sized x.1 then some (.tup x.1, .st, x.2) else none
def lstF (f : Fa) : Fv := fun s => (f s).bind fun x => if sized x.1 then some (.lst x.1, .fr, x.2) else none
def newF (f : Fa) : Fv := fun s => (f s).bind fun x => if sized x.1 then some (.ref x.2.mh.length, .st, { x.2 with mh := x.2.mh ++ [x.1] }) else none
def dnilF : Fv := fun s => some (.dct [], .fr, s)
/-- a def whose lists are lent: it sees no object, hands back nothing that holds a list -/
def lendF (h : List D → List (List D) → Option (D × List (List D))) (f : Ft) : Fv := fun s => (f s).bind fun x => (x.1.mapM (wk x.2)).bind fun ds => if ds.all noRef then (h ds []).bind fun r => if flat r.1 then some (r.1, .st, x.2) else none else none
def callF (h : List D → List (List D) → Option (D × List (List D))) (f : Fa) : Fv := fun s => (f s).bind fun x => (h x.1 x.2.mh).map fun r => (r.1, .st, { x.2 with mh := r.2 })
/-- a def that hands back a new list or dict -/
def callrF (h : List D → List (List D) → Option (D × List (List D))) (f : Fa) : Fv := fun s => (f s).bind fun x => (h x.1 x.2.mh).map fun r => (r.1, .fr, { x.2 with mh := r.2 })
/-- what is seen of a state when all is lent: nothing is owned, no object is there -/
def frzS (s : S) : S := ⟨s.sl.map fun o => match o with
  | some (d, _) => if noRef d then some (d, false) else none
  | none => none, []⟩
def flatT : D × Tg → Bool
  | (d, .st) => flat d
  | (.lst ds, .fr) => flat.flatL ds
  | _ => false
/-- a value found while all lists are lent -/
def borF (f : Fv) : Fv := fun s => (f (frzS s)).bind fun x => if flatT (x.1, x.2.1) then some (x.1, x.2.1, s) else none
def b1F (o : B1) (f : Fv) : Fv := op1F (b1D o) f
def intD : D → Option Int
  | .int i => some i
  | _ => none
def ii2F (h : Int → Int → Int) (f g : Fv) : Fv := op2F (fun d e => (intD d).bind fun i => (intD e).bind fun j => some (.int (h i j), .st)) f g
def isiF (t : Ty) (f : Fv) : Fv := op1F (fun d => (tyD t d).map blT) f
def popF (i : Nat) : Fv := fun s => match s.sl[i]? with
  | some (some (.lst xs, true)) => match xs.getLast? with
    | some d => some (d, .st, s.set i (.lst xs.dropLast) true)
    | none => none
  | _ => none
def refD (s : S) (i : Nat) : Option Nat := match s.sl[i]? with
  | some (some (.ref n, false)) => some n
  | _ => none
/-- an item of a mutable object -/
def rxF (i : Nat) (g : Fv) : Fv := fun s => (refD s i).bind fun n => (g s).bind fun y => (intD y.1).bind fun z => (y.2.2.mh[n]?).bind fun xs => (ixD xs z).map fun d => (d, .st, y.2.2)
def hF (f : Fv) : S → Option (D × S) := fun s => (f s).bind fun x => hold x.2.2 (x.1, x.2.1)
def toC (f : Fv) : Fc := fun s => (f s).bind fun x => (boolD x.1).bind fun b => some (b, x.2.2)
def toB (f : Fv) : Fb := fun s => (f s).bind fun x => (intD x.1).bind fun i => some (some i, x.2.2)
def toI (f : Fv) : Fa := fun s => (f s).bind fun x => (hold x.2.2 (x.1, x.2.1)).bind fun h => (itemsD h.1).map fun r => (r, h.2)
def rg1F (f : Fv) : Fa := fun s => (f s).bind fun x => (intD x.1).bind fun i => if rgOk i then some (rgD 0 i, x.2.2) else none
def rg2F (f g : Fv) : Fa := fun s => (f s).bind fun x => (g x.2.2).bind fun y => (intD x.1).bind fun i => (intD y.1).bind fun j => if rgOk i && rgOk j then some (rgD i j, y.2.2) else none
def zpF (f g : Fv) : Fa := fun s => (hF f s).bind fun x => (hF g x.2).bind fun y => (itemsD x.1).bind fun xs => (itemsD y.1).bind fun ys => some (zipD xs ys, y.2)
def lcF (own : List Nat) (tg : Tn) (it : Fa) (cd : Fc) (el : Fv) : Fv := fun s => (it s).bind fun x =>
  (lcLoop (fun d s => bindX tg [d] s) cd (hF el) (fun s => wipeS s own) x.1 [] x.2).map fun r => (.lst r.1, .fr, backS x.2 r.2 own)
/-- {..: .. for name in d if ..}, d what slot j has, a dict -/
def dkF (own : List Nat) (i j : Nat) (cd : Fc) (ky el : Fv) : Fv := fun s => match s.sl[j]? with
  | some (some (.dct ks, o)) => (dcLoop (fun d s => bindX (.nm i) [d] s) cd (hF ky) (hF el) (fun s => wipeS s own) (ks.map fun k => dKey k.1) [] (s.set j (.dct ks) false)).map fun r => (.dct r.1, .fr, backS (s.set j (.dct ks) false) r.2 own)
  | _ => none
def dcF (own : List Nat) (tg : Tn) (it : Fa) (cd : Fc) (ky el : Fv) : Fv := fun s => (it s).bind fun x =>
  (dcLoop (fun d s => bindX tg [d] s) cd (hF ky) (hF el) (fun s => wipeS s own) x.1 [] x.2).map fun r => (.dct r.1, .fr, backS x.2 r.2 own)

structure Sm where
  v : Fv
  a : Fa := fun _ => none
  t : Ft := fun _ => none
  i : Fa := toI v
  c : Fc := toC v
  b : Fb := toB v
abbrev noF : Fv := fun _ => none
section
variable (G : Nat → Option D) (F : Fn)
def sm : E → Sm
  | .v i => { v := vF i }
  | .cint i => { v := cF (.int i) }
  | .cbl b => { v := cF (.bl b) }
  | .cnon => { v := cF .non }
  | .cstr x => { v := cF (.str x) }
  | .glob j => { v := oF (G j) }
  | .bin o a b => { v := binF o (sm a).v (sm b).v }
  | .neg a => { v := negF (sm a).v }
  | .cmp o a b => { v := cmpF o (sm a).v (sm b).v }
  | .chn o p a b c => { v := chnF o p (sm a).v (sm b).v (sm c).v }
  | .isn a => { v := isnF (sm a).v }
  | .ntn a => { v := ntnF (sm a).v }
  | .and a b => { v := andF (sm a).v (sm b).v }
  | .or a b => { v := orF (sm a).v (sm b).v }
  | .one a => { v := (sm a).v }
  | .nt a => { v := ntF (sm a).v }
  | .ife c a b => { v := iteF (sm c).v (sm a).v (sm b).v }
  | .ix a i => { v := ixF (sm a).v (sm i).v }
  | .sl a lo hi => { v := slF (sm a).v (sm lo).b (sm hi).b }
  | .rev a => { v := revF (sm a).v }
  | .nop => { v := noF, c := fun s => some (true, s), b := fun s => some (none, s) }
  | .tup as => { v := tupF (sm as).a }
  | .lst as => { v := lstF (sm as).a }
  | .new as => { v := newF (sm as).a }
  | .dnil => { v := dnilF }
  | .nil => { v := noF, a := fun s => some ([], s), t := fun s => some ([], s) }
  | .cons a as => { v := noF, a := fun s => (hF (sm a).v s).bind fun h => ((sm as).a h.2).map fun r => (h.1 :: r.1, r.2), t := fun s => ((sm a).v s).bind fun x => ((sm as).t x.2.2).map fun r => ((x.1, x.2.1) :: r.1, r.2) }
  | .call j keep as => { v := if keep then lendF (F j) (sm as).t else callF (F j) (sm as).a }
  | .callr j as => { v := callrF (F j) (sm as).a }
  | .bor a => { v := borF (sm a).v }
  | .b1 f a => { v := b1F f (sm a).v }
  | .min2 a b => { v := ii2F (fun i j => if j < i then j else i) (sm a).v (sm b).v }
  | .max2 a b => { v := ii2F (fun i j => if j > i then j else i) (sm a).v (sm b).v }
  | .isi a t => { v := isiF t (sm a).v }
  | .lc own tg it cd el => { v := lcF (own.map (·.2)) tg (sm it).i (sm cd).c (sm el).v }
  | .dc own tg it cd ky el => { v := dcF (own.map (·.2)) tg (sm it).i (sm cd).c (sm ky).v (sm el).v }
  | .dk own i j cd ky el => { v := dkF (own.map (·.2)) i j (sm cd).c (sm ky).v (sm el).v }
  | .pop i => { v := popF i }
  | .rx i k => { v := rxF i (sm k).v }
  | .rg1 a => { v := noF, i := rg1F (sm a).v }
  | .rg2 a b => { v := noF, i := rg2F (sm a).v (sm b).v }
  | .zp a b => { v := noF, i := zpF (sm a).v (sm b).v }

/-! ### commands -/
def forLoop (bd : D → S → Option S) (body : S → Option Out) : List D → S → Option Out
  | [], s => some (.nx s)
  | d :: ds, s => (bd d s).bind fun s1 => (body s1).bind fun o => match o with
    | .nx s2 => forLoop bd body ds s2
    | .ct s2 => forLoop bd body ds s2
    | .bk s2 => some (.nx s2)
    | .rt d s2 => some (.rt d s2)
    | .rf d s2 => some (.rf d s2)
def whlLoop (c : Fc) (body : S → Option Out) (s : S) : Option Out := do
  let x ← c s
  if x.1 then
    let o ← body x.2
    match o with
    | .nx s2 => whlLoop c body s2
    | .ct s2 => whlLoop c body s2
    | .bk s2 => pure (.nx s2)
    | .rt d s2 => pure (.rt d s2)
    | .rf d s2 => pure (.rf d s2)
  else pure (.nx x.2)
partial_fixpoint
/-- name = value: a fresh list or dict becomes the slot's own -/
def keepT (s : S) : D × Tg → Option (D × Bool × S)
  | (d, .fr) => some (d, true, s)
  | x => (hold s x).map fun h => (h.1, false, h.2)
def asgF (i : Nat) (f : Fv) : S → Option S := fun s => (f s).bind fun x => (keepT x.2.2 (x.1, x.2.1)).bind fun k => if i < k.2.2.sl.length then some (k.2.2.set i k.1 k.2.1) else none
def parF (i j : Nat) (f g : Fv) : S → Option S := fun s => (f s).bind fun x => (g x.2.2).bind fun y => (keepT y.2.2 (x.1, x.2.1)).bind fun k => (keepT k.2.2 (y.1, y.2.1)).bind fun l =>
  if i < l.2.2.sl.length ∧ j < l.2.2.sl.length ∧ i ≠ j then some ((l.2.2.set i k.1 k.2.1).set j l.1 l.2.1) else none
def ownL (s : S) (i : Nat) : Option (List D) := match s.sl[i]? with
  | some (some (.lst xs, true)) => some xs
  | _ => none
def ownK (s : S) (i : Nat) : Option (List (Key × D)) := match s.sl[i]? with
  | some (some (.dct xs, true)) => some xs
  | _ => none
def listD : D → Option (List D)
  | .lst xs => some xs
  | _ => none
/-- a new list or dict, or one that a slot owns, is handed back -/
def fresh (s : S) : D × Tg → Option D
  | (d, .fr) => some d
  | (_, .bw i) => match s.sl[i]? with
    | some (some (d, true)) => some d
    | _ => none
  | _ => none
def nxS (s : Option S) : Option Out := s.map Out.nx
def cm : C → S → Option Out
  | .skip => fun s => some (.nx s)
  | .seq a b => fun s => (cm a s).bind fun o => match o with
    | .nx s1 => cm b s1
    | o => some o
  | .asg (.nm i) e => fun s => nxS (asgF i (sm G F e).v s)
  | .asg t e => fun s => nxS ((hF (sm G F e).v s).bind fun h => bindX t [h.1] h.2)
  | .par i j a b => fun s => nxS (parF i j (sm G F a).v (sm G F b).v s)
  | .ret e => fun s => (hF (sm G F e).v s).map fun h => .rt h.1 h.2
  | .retf e => fun s => ((sm G F e).v s).bind fun x => (fresh x.2.2 (x.1, x.2.1)).map fun d => .rf d x.2.2
  | .retn => fun s => some (.rt .non s)
  | .ite c a b => fun s => (toC (sm G F c).v s).bind fun x => if x.1 then cm a x.2 else cm b x.2
  | .forr t it b => fun s => ((sm G F it).i s).bind fun x => forLoop (fun d s => bindX t [d] s) (cm b) x.1 x.2
  | .whl c b => whlLoop (toC (sm G F c).v) (cm b)
  | .app i e => fun s => nxS ((ownL s i).bind fun _ => (hF (sm G F e).v s).bind fun h => (ownL h.2 i).bind fun xs => if xs.length < sizeLine then some (h.2.set i (.lst (xs ++ [h.1])) true) else none)
  | .ext i e => fun s => nxS ((ownL s i).bind fun _ => (hF (sm G F e).v s).bind fun h => (listD h.1).bind fun ys => (ownL h.2 i).bind fun xs => if xs.length + ys.length ≤ sizeLine then some (h.2.set i (.lst (xs ++ ys)) true) else none)
  | .ins i e => fun s => nxS ((ownL s i).bind fun _ => (hF (sm G F e).v s).bind fun h => (ownL h.2 i).bind fun xs => if xs.length < sizeLine then some (h.2.set i (.lst (h.1 :: xs)) true) else none)
  | .setd i k e => fun s => nxS ((hF (sm G F e).v s).bind fun h => (ownK h.2 i).bind fun _ => ((sm G F k).v h.2).bind fun y => (ownK y.2.2 i).bind fun ks => (keyD y.1).bind fun k => if ks.length < sizeLine then some (y.2.2.set i (.dct (putD ks k h.1)) true) else none)
  | .setr i k e => fun s => nxS ((hF (sm G F e).v s).bind fun h => (refD h.2 i).bind fun n => ((sm G F k).v h.2).bind fun y => (intD y.1).bind fun z => (y.2.2.mh[n]?).bind fun xs => (ixN xs.length z).bind fun j => some { y.2.2 with mh := y.2.2.mh.set n (xs.set j h.1) })
  | .never => fun _ => none
  | .brk => fun s => some (.bk s)
  | .cont => fun s => some (.ct s)
end
end E3
set_option Elab.async false
set_option linter.all false
set_option maxRecDepth 100000
set_option maxHeartbeats 1000000
/-! Readings of the hand layer from the evaluator: values, one operation at a time. -/
namespace E3
open PySem PySem.Spec PyProof.Rows L2

/-- a value by its tag: st: it stands; fr: a new list or dict that nobody holds; bw i: what slot i owns -/
def VR (H0 : Hp) (K : PySem.W.Frag) (H : Hp) (Z : Addr → Prop) (ι : List Addr) (σ : St) (s : S) (v : V) (d : D) : Tg → Prop
  | .st => Rel K H Z ι v d
  | .fr => ∃ a, v = .ref a ∧ H0 a = none ∧ ¬ Z a ∧ ¬ Wr σ s ι a ∧ Top K H Z ι v d
  | .bw i => σ[i]? = some (some v) ∧ s.sl[i]? = some (some (d, true))

def tE (K : PySem.W.Frag) (f : Fv) : TE := fun σ H Q => ∃ Z ι s d tg s', SR K H Z ι σ s ∧ f s = some (d, tg, s') ∧
  ∀ v H' Z' ι', Nxt K σ H Z ι s H' Z' ι' s' → VR H K H' Z' ι' σ s' v d tg → Q v H'
def tEA (K : PySem.W.Frag) (f : Fa) : TA := fun σ H Q => ∃ Z ι s ds s', SR K H Z ι σ s ∧ f s = some (ds, s') ∧
  ∀ vs H' Z' ι', Nxt K σ H Z ι s H' Z' ι' s' → Rels K H' Z' ι' vs ds → Q vs H'
def tET (K : PySem.W.Frag) (f : Fc) : TT := fun σ H Q => ∃ Z ι s b s', SR K H Z ι σ s ∧ f s = some (b, s') ∧
  ∀ H' Z' ι', Nxt K σ H Z ι s H' Z' ι' s' → Q b H'

theorem PE.imp {X : Cx} {e : Expr} {t t' : TE} (h : PE X e t) (i : ∀ σ H Q, t' σ H Q → t σ H Q) : PE X e t' := ⟨fun pins s σ H Q I q => h.run pins s σ H Q I (i σ H Q q)⟩
theorem PE.or {X : Cx} {e : Expr} {t t' : TE} (h : PE X e t) (h' : PE X e t') : PE X e (fun σ H Q => t σ H Q ∨ t' σ H Q) :=
  ⟨fun pins s σ H Q I q => q.elim (h.run pins s σ H Q I) (h'.run pins s σ H Q I)⟩
theorem PA.imp {X : Cx} {e : List Expr} {t t' : TA} (h : PA X e t) (i : ∀ σ H Q, t' σ H Q → t σ H Q) : PA X e t' := ⟨fun pos pins s σ H Q I q => h.run pos pins s σ H Q I (i σ H Q q)⟩
theorem PT.imp {X : Cx} {e : Expr} {t t' : TT} (h : PT X e t) (i : ∀ σ H Q, t' σ H Q → t σ H Q) : PT X e t' := ⟨fun pins s σ H Q I q => h.run pins s σ H Q I (i σ H Q q)⟩
theorem PW.imp {X : Cx} {e : Expr} {t t' : TT} (h : PW X e t) (i : ∀ σ H Q, t' σ H Q → t σ H Q) : PW X e t' := ⟨fun wh pins s σ H Q I q => h.run wh pins s σ H Q I (i σ H Q q)⟩
theorem PS.imp {X : Cx} {e : Stmt} {t t' : TS} (h : PS X e t) (i : ∀ D σ H, t' D σ H → t D σ H) : PS X e t' := ⟨fun pins s σ H D I q => h.run pins s σ H D I (i D σ H q)⟩
theorem PSs.imp {X : Cx} {e : List Stmt} {t t' : TS} (h : PSs X e t) (i : ∀ D σ H, t' D σ H → t D σ H) : PSs X e t' := ⟨fun pins s σ H D I q => h.run pins s σ H D I (i D σ H q)⟩

section
variable {K : PySem.W.Frag} {H H' H0 H1 H2 : Hp} {Z Z' Z0 Z1 Z2 : Addr → Prop} {ι ι' ι0 ι1 ι2 : List Addr} {σ : St} {s s' s0 s1 s2 s3 : S} {v : V} {d e : D} {tg : Tg}

/-! ### what stands for what -/
theorem RelW.non (h : RelW K H Z ι v .non) : v = .non := by
  rcases h with h | h
  · cases h; rfl
  · exact h.elim
theorem RelW.int {i : Int} (h : RelW K H Z ι v (.int i)) : v = .int i := by
  rcases h with h | h
  · cases h; rfl
  · exact h.elim
theorem RelW.bl {i : Bool} (h : RelW K H Z ι v (.bl i)) : v = .bl i := by
  rcases h with h | h
  · cases h; rfl
  · exact h.elim
theorem RelW.str {i : Str} (h : RelW K H Z ι v (.str i)) : v = .str i := by
  rcases h with h | h
  · cases h; rfl
  · exact h.elim
theorem RelW.tupX {ds : List D} (h : RelW K H Z ι v (.tup ds)) : ∃ a vs, v = .ref a ∧ TpX K H a vs ∧ Rels K H Z ι vs ds := by
  rcases h with h | h
  · cases h with | tup h r => exact ⟨_, _, rfl, h, r⟩
  · exact h.elim
theorem RelW.tup {ds : List D} (h : RelW K H Z ι v (.tup ds)) : ∃ a vs, v = .ref a ∧ SqT K H a vs ∧ Rels K H Z ι vs ds :=
  let ⟨a, vs, e, h, r⟩ := h.tupX; ⟨a, vs, e, h.sq, r⟩
theorem RelW.lst {ds : List D} (h : RelW K H Z ι v (.lst ds)) : ∃ a vs, v = .ref a ∧ H a = some (.lst vs) ∧ Rels K H Z ι vs ds := by
  rcases h with h | h
  · cases h with | lst z h r => exact ⟨_, _, rfl, h, r⟩
  · exact h
theorem RelW.dct {ds : List (Key × D)} (h : RelW K H Z ι v (.dct ds)) : ∃ a vs, v = .ref a ∧ Rd H a (.dK vs) ∧ RelK K H Z ι vs ds := by
  rcases h with h | h
  · cases h with | dct z h r => exact ⟨_, _, rfl, h, r⟩
  · obtain ⟨a, vs, e, h, r⟩ := h; exact ⟨a, vs, e, .inl h, r⟩
theorem RelW.fzl {ns : List Int} (h : RelW K H Z ι v (.fzl ns)) : ∃ a, v = .ref a ∧ FzL K H a (ns.map V.int) := by
  rcases h with h | h
  · cases h with | fzl h => exact ⟨_, rfl, h⟩
  · exact h.elim
theorem RelW.ref {n : Nat} (h : RelW K H Z ι v (.ref n)) : ∃ a, v = .ref a ∧ ι[n]? = some a := by
  rcases h with h | h
  · cases h with | ref h => exact ⟨_, rfl, h⟩
  · exact h.elim

/-! ### lent, held -/
theorem wk_ok (R : SR K H1 Z1 ι1 σ s1) (vr : VR H0 K H1 Z1 ι1 σ s1 v d tg) (N : Nxt K σ H1 Z1 ι1 s1 H2 Z2 ι2 s2) (w : wk s2 (d, tg) = some e) : RelW K H2 Z2 ι2 v e := by
  cases tg with
  | st =>
    have : d = e := by simpa [wk] using w
    subst this
    exact .inl (Rel.mono (N.kp R) vr)
  | fr =>
    have : d = e := by simpa [wk] using w
    subst this
    obtain ⟨a, rfl, _, z, nw, t⟩ := vr
    exact .inr (t.mono (N.kp R) fun b o eb h => by cases eb; exact N.fr _ o h nw)
  | bw i =>
    obtain ⟨h1, _⟩ := vr
    have w' : (match s2.sl[i]? with | some (some (d, _)) => some d | _ => none) = some e := w
    split at w'
    · rename_i d' o' h3
      cases w'
      cases o' with
      | false =>
        obtain ⟨v', h4, r⟩ := N.sr.st i _ h3
        rw [h1] at h4; cases h4
        exact .inl r
      | true =>
        obtain ⟨a, h4, t, _⟩ := N.sr.ow i _ h3
        rw [h1] at h4; cases h4
        exact .inr t
    · cases w'
theorem set_self {l : List (Option (D × Bool))} {i : Nat} {x : Option (D × Bool)} (h : l[i]? = some x) : l.set i x = l := by
  obtain ⟨hi, e⟩ := List.getElem?_eq_some_iff.mp h
  apply List.ext_getElem?
  intro j
  rw [List.getElem?_set]
  split
  · rename_i hj; subst hj; simp [hi, e]
  · rfl
/-- a slot gives its list or dict up -/
theorem SR.freeze {i : Nat} {a : Addr} (R : SR K H Z ι σ s) (h : s.sl[i]? = some (some (d, true))) (hσ : σ[i]? = some (some (.ref a))) :
    Nxt K σ H Z ι s H (fun b => Z b ∨ b = a) ι (s.set i d false) ∧ Rel K H (fun b => Z b ∨ b = a) ι (.ref a) d := by
  obtain ⟨b, h1, t, z, nι⟩ := R.ow i d h
  rw [hσ] at h1; cases h1
  have k : Kp K H Z ι H (fun b => Z b ∨ b = a) ι := ⟨fun _ _ h => h, fun _ _ h => h, fun _ z => .inl z, fun _ _ _ h => h, fun _ _ _ h => h, fun _ _ h => h⟩
  have hi : i < s.sl.length := (List.getElem?_eq_some_iff.mp h).1
  have get : ∀ (j : Nat) x o, (s.set i d false).sl[j]? = some (some (x, o)) → (j = i ∧ x = d ∧ o = false) ∨ (j ≠ i ∧ s.sl[j]? = some (some (x, o))) := fun j x o e => by
    have e' : (s.sl.set i (some (d, false)))[j]? = some (some (x, o)) := e
    rw [List.getElem?_set] at e'
    split at e'
    · rename_i hj
      cases e'
      exact .inl ⟨hj.symm, rfl, rfl⟩
    · rename_i hj
      exact .inr ⟨fun q => hj q.symm, e'⟩
  have rel : Rel K H (fun b => Z b ∨ b = a) ι (.ref a) d := by
    cases d with
    | lst ds => obtain ⟨c, vs, e, q, r⟩ := t; cases e; exact .lst (.inr rfl) q (r.mono k)
    | dct ks => obtain ⟨c, vs, e, q, r⟩ := t; cases e; exact .dct (.inr rfl) (.inl q) (r.mono k)
    | _ => exact t.elim
  have wr : ∀ b, Wr σ (s.set i d false) ι b → Wr σ s ι b := fun b w => by
    rcases w with w | ⟨j, x, e, q⟩
    · exact .inl w
    · rcases get j x true e with ⟨_, _, c⟩ | ⟨_, e⟩
      · cases c
      · exact .inr ⟨j, x, e, q⟩
  refine ⟨⟨⟨by simpa [S.set] using R.len, fun j x e => ?_, fun j x e => ?_, fun j l x y b e1 e2 q1 q2 => ?_, R.il, fun n b ds e1 e2 => ?_, R.nd, fun b zb => ?_⟩,
    fun _ _ e _ => e, fun _ z => .inl z, fun b z => z.elim .inl fun q => .inr (.inr (.inr ⟨i, d, h, q ▸ hσ⟩)), fun b w => .inl (wr b w), fun _ h => h, fun _ _ h => h⟩, rel⟩
  · rcases get j x false e with ⟨rfl, rfl, _⟩ | ⟨_, e⟩
    · exact ⟨.ref a, hσ, rel⟩
    · obtain ⟨v, q, r⟩ := R.st j x e
      exact ⟨v, q, r.mono k⟩
  · rcases get j x true e with ⟨_, _, c⟩ | ⟨hj, e⟩
    · cases c
    · obtain ⟨b, q, t, z', n'⟩ := R.ow j x e
      refine ⟨b, q, t.mono k fun _ _ _ h => h, fun c => ?_, n'⟩
      rcases c with c | rfl
      · exact z' c
      · exact hj (R.ap j i x d b e h q hσ)
  · rcases get j x true e1 with ⟨_, _, c⟩ | ⟨_, e1⟩
    · cases c
    · rcases get l y true e2 with ⟨_, _, c⟩ | ⟨_, e2⟩
      · cases c
      · exact R.ap j l x y b e1 e2 q1 q2
  · obtain ⟨z', vs, q, r⟩ := R.mh n b ds e1 e2
    refine ⟨fun c => c.elim z' fun c => nι ?_, vs, q, r.mono k⟩
    rw [← c]
    exact List.mem_of_getElem? e1
  · rcases zb with zb | rfl
    · exact R.zd b zb
    · obtain ⟨c, e, q⟩ := t.obj
      cases e
      rcases q with q | ⟨kvs, q⟩
      · exact .inl q
      · exact .inr ⟨kvs, .inl q⟩
theorem VR.base (vr : VR H1 K H Z ι σ s v d tg) (h : ∀ a, H0 a ≠ none → H1 a ≠ none) : VR H0 K H Z ι σ s v d tg := by
  cases tg with
  | st => exact vr
  | fr =>
    obtain ⟨a, e, n, r⟩ := vr
    refine ⟨a, e, ?_, r⟩
    cases q : H0 a with
    | none => rfl
    | some o => exact absurd n (h a (by rw [q]; simp))
  | bw i => exact vr
theorem hold_ok (R : SR K H0 Z0 ι0 σ s0) (M : Nxt K σ H0 Z0 ι0 s0 H1 Z1 ι1 s1) (vr : VR H0 K H1 Z1 ι1 σ s1 v d tg) (N : Nxt K σ H1 Z1 ι1 s1 H2 Z2 ι2 s2) (w : hold s2 (d, tg) = some (e, s3)) :
    ∃ Z3, Nxt K σ H0 Z0 ι0 s0 H2 Z3 ι2 s3 ∧ Rel K H2 Z3 ι2 v e ∧ Kp K H2 Z2 ι2 H2 Z3 ι2 := by
  have R1 := M.sr
  have B := Nxt.trans R M N
  cases tg with
  | st =>
    have w' : some (d, s2) = some (e, s3) := w
    cases w'
    exact ⟨Z2, B, Rel.mono (N.kp R1) vr, kp_ext fun _ _ h => h⟩
  | fr =>
    have w' : some (d, s2) = some (e, s3) := w
    cases w'
    obtain ⟨a, rfl, h0, z, nw, t⟩ := vr
    have ha : ∀ o, H1 a = some o → H2 a = some o := fun o h => N.fr _ o h nw
    have t2 : Top K H2 Z2 ι2 (.ref a) d := t.mono (N.kp R1) fun b o eb h => by cases eb; exact ha o h
    obtain ⟨b, eb, ob⟩ := t2.obj
    cases eb
    have hs : H1 a ≠ none := by
      obtain ⟨b, eb, ob⟩ := t.obj
      cases eb
      rcases ob with ⟨_, q⟩ | ⟨_, q⟩ <;> rw [q] <;> simp
    have nw2 : ¬ Wr σ s2 ι2 a := fun w => (N.wn a w).elim nw hs
    have k : Kp K H2 Z2 ι2 H2 (fun b => Z2 b ∨ b = a) ι2 := ⟨fun _ _ h => h, fun _ _ h => h, fun _ z => .inl z, fun _ _ _ h => h, fun _ _ _ h => h, fun _ _ h => h⟩
    refine ⟨fun b => Z2 b ∨ b = a, ⟨N.sr.give nw2 ob, B.fr, fun c z => .inl (B.zs c z), fun c zc => ?_, B.wn, B.dm, B.ip⟩, ?_, k⟩
    · rcases zc with zc | rfl
      · exact B.zn c zc
      · exact .inr (.inl h0)
    · cases d with
      | lst ds => obtain ⟨c, vs, e, q, r⟩ := t2; cases e; exact .lst (.inr rfl) q (r.mono k)
      | dct ks => obtain ⟨c, vs, e, q, r⟩ := t2; cases e; exact .dct (.inr rfl) (.inl q) (r.mono k)
      | _ => exact t2.elim
  | bw i =>
    obtain ⟨h1, _⟩ := vr
    have w' : (match s2.sl[i]? with | some (some (d, _)) => some (d, s2.set i d false) | _ => none) = some (e, s3) := w
    split at w'
    · rename_i d' o' h3
      cases w'
      cases o' with
      | false =>
        obtain ⟨v', h4, r⟩ := N.sr.st i _ h3
        rw [h1] at h4; cases h4
        have es : s2.set i e false = s2 := by
          unfold S.set
          rw [set_self h3]
        rw [es]
        exact ⟨Z2, B, r, kp_ext fun _ _ h => h⟩
      | true =>
        obtain ⟨a, h4, t, _⟩ := N.sr.ow i _ h3
        rw [h1] at h4; cases h4
        obtain ⟨M2, r⟩ := N.sr.freeze h3 h1
        exact ⟨_, Nxt.trans R B M2, r, M2.kp N.sr⟩
    · cases w'
end
end E3
set_option Elab.async false
set_option linter.all false
set_option maxRecDepth 100000
set_option maxHeartbeats 1000000
/-! Rules: operations by values. -/
namespace E3
open PySem PySem.Spec PyProof.Rows L2
section
variable {K : PySem.W.Frag} {H H' H0 H1 H2 : Hp} {Z Z' Z0 Z1 Z2 : Addr → Prop} {ι ι' ι0 ι1 ι2 : List Addr} {σ : St} {s s' s0 s1 s2 s3 : S} {v : V} {d e : D} {tg : Tg}

theorem new_lst {p : Addr} {vs : List V} {ds : List D} (R : SR K H Z ι σ s) (b : ∀ a, H0 a ≠ none → H a ≠ none) (hp : H p = none) (r : Rels K H Z ι vs ds) :
    Nxt K σ H Z ι s (upd H p (.lst vs)) Z ι s ∧ VR H0 K (upd H p (.lst vs)) Z ι σ s (.ref p) (.lst ds) .fr := by
  refine ⟨Nxt.new R hp, p, rfl, ?_, fun z => R.zSome z hp, fun w => R.wrSome w hp, p, vs, rfl, upd_same, r.mono (kp_ext (ext_upd hp))⟩
  cases q : H0 p with
  | none => rfl
  | some o => exact absurd hp (b p (by rw [q]; simp))
theorem new_dct {p : Addr} {vs : List (Key × V)} {ds : List (Key × D)} (R : SR K H Z ι σ s) (b : ∀ a, H0 a ≠ none → H a ≠ none) (hp : H p = none) (r : RelK K H Z ι vs ds) :
    Nxt K σ H Z ι s (upd H p (.dK vs)) Z ι s ∧ VR H0 K (upd H p (.dK vs)) Z ι σ s (.ref p) (.dct ds) .fr := by
  refine ⟨Nxt.new R hp, p, rfl, ?_, fun z => R.zSome z hp, fun w => R.wrSome w hp, p, vs, rfl, upd_same, r.mono (kp_ext (ext_upd hp))⟩
  cases q : H0 p with
  | none => rfl
  | some o => exact absurd hp (b p (by rw [q]; simp))
theorem new_tup {p : Addr} {o : Obj} {vs : List V} {ds : List D} (R : SR K H Z ι σ s) (hp : H p = none) (ho : o.dict = none) (r : Rels K H Z ι vs ds) :
    Nxt K σ H Z ι s (upd H p (.frz o (.tup vs))) Z ι s ∧ VR H0 K (upd H p (.frz o (.tup vs))) Z ι σ s (.ref p) (.tup ds) .st :=
  ⟨Nxt.new R hp, .tup (.inl ⟨o, upd_same, ho⟩) (r.mono (kp_ext (ext_upd hp)))⟩
theorem rels_fzl : ∀ (ns : List Int), Rels K H Z ι (ns.map V.int) (ns.map D.int)
  | [] => .nil
  | n :: r => .cons (.int n) (rels_fzl r)

/-- an operation on two values that are lent -/
def Val2 (K : PySem.W.Frag) (r : R2) (k : D → D → Option (D × Tg)) : Prop :=
  ∀ (H0 H : Hp) (Z : Addr → Prop) (ι : List Addr) (σ : St) (s : S) (x y : V) (a b d : D) (tg : Tg) (Q : VK), SR K H Z ι σ s → (∀ a, H0 a ≠ none → H a ≠ none) → RelW K H Z ι x a → RelW K H Z ι y b →
    k a b = some (d, tg) → (∀ v H', Nxt K σ H Z ι s H' Z ι s → VR H0 K H' Z ι σ s v d tg → Q v H') → r x y H Q
def Val1 (K : PySem.W.Frag) (r : V → Hp → VK → Prop) (k : D → Option (D × Tg)) : Prop :=
  ∀ (H0 H : Hp) (Z : Addr → Prop) (ι : List Addr) (σ : St) (s : S) (x : V) (a d : D) (tg : Tg) (Q : VK), SR K H Z ι σ s → (∀ a, H0 a ≠ none → H a ≠ none) → RelW K H Z ι x a →
    k a = some (d, tg) → (∀ v H', Nxt K σ H Z ι s H' Z ι s → VR H0 K H' Z ι σ s v d tg → Q v H') → r x H Q
theorem op2 {r : R2} {k : D → D → Option (D × Tg)} {f g : Fv} {Q : VK} (V2 : Val2 K r k) (h : tE K (op2F k f g) σ H Q) : tOp r (tE K f) (tE K g) σ H Q := by
  obtain ⟨Z, ι, s, d, tg, s', R, hf, hq⟩ := h
  unfold op2F at hf
  obtain ⟨⟨d1, t1, s1⟩, f1, hf⟩ := Option.bind_eq_some_iff.mp hf
  obtain ⟨⟨d2, t2, s2⟩, f2, hf⟩ := Option.bind_eq_some_iff.mp hf
  obtain ⟨e1, w1, hf⟩ := Option.bind_eq_some_iff.mp hf
  obtain ⟨e2, w2, hf⟩ := Option.bind_eq_some_iff.mp hf
  obtain ⟨⟨d', tg'⟩, hk, hf⟩ := Option.map_eq_some_iff.mp hf
  cases hf
  refine ⟨Z, ι, s, d1, t1, s1, R, f1, fun x H1 Z1 ι1 N1 v1 => ⟨Z1, ι1, s1, d2, t2, _, N1.sr, f2, fun y H2 Z2 ι2 N2 v2 => ?_⟩⟩
  have N := Nxt.trans R N1 N2
  refine V2 H H2 Z2 ι2 σ _ x y e1 e2 _ _ Q N2.sr N.dm (wk_ok N1.sr v1 N2 w1) (wk_ok N2.sr v2 (Nxt.refl N2.sr) w2) hk fun v H' M vr => ?_
  exact hq v H' Z2 ι2 (Nxt.trans R N M) vr
theorem op1 {r : V → Hp → VK → Prop} {k : D → Option (D × Tg)} {f : Fv} {Q : VK} (V1 : Val1 K r k) (h : tE K (op1F k f) σ H Q) : tUn r (tE K f) σ H Q := by
  obtain ⟨Z, ι, s, d, tg, s', R, hf, hq⟩ := h
  unfold op1F at hf
  obtain ⟨⟨d1, t1, s1⟩, f1, hf⟩ := Option.bind_eq_some_iff.mp hf
  obtain ⟨e1, w1, hf⟩ := Option.bind_eq_some_iff.mp hf
  obtain ⟨⟨d', tg'⟩, hk, hf⟩ := Option.map_eq_some_iff.mp hf
  cases hf
  refine ⟨Z, ι, s, d1, t1, _, R, f1, fun x H1 Z1 ι1 N1 v1 => ?_⟩
  refine V1 H H1 Z1 ι1 σ _ x e1 _ _ Q N1.sr N1.dm (wk_ok N1.sr v1 (Nxt.refl N1.sr) w1) hk fun v H' M vr => ?_
  exact hq v H' Z1 ι1 (Nxt.trans R N1 M) vr
theorem Val2.or {r r' : R2} {k : D → D → Option (D × Tg)} (h : ∀ (H0 H : Hp) (Z : Addr → Prop) (ι : List Addr) (σ : St) (s : S) (x y : V) (a b d : D) (tg : Tg) (Q : VK), SR K H Z ι σ s → (∀ a, H0 a ≠ none → H a ≠ none) → RelW K H Z ι x a → RelW K H Z ι y b →
    k a b = some (d, tg) → (∀ v H', Nxt K σ H Z ι s H' Z ι s → VR H0 K H' Z ι σ s v d tg → Q v H') → r x y H Q ∨ r' x y H Q) : Val2 K (fun x y H Q => r x y H Q ∨ r' x y H Q) k := h

/-! ### + - * // % -/
def rAddA (K : PySem.W.Frag) : R2 := fun x y H Q => rI0 (fun i j => .int (i + j)) x y H Q ∨ (∃ i j, x = .str i ∧ y = .str j ∧ i.length + j.length ≤ sizeLine ∧ Q (.str (i ++ j)) H) ∨ rCat x y H Q ∨ rCatX K x y H Q
theorem op_addA {X : Cx} : OpR X (binaryOp .Add) (rAddA X.K) := op_add.or (op_add_str.or (op_cat.or op_catX))
theorem v2_add : Val2 K (rAddA K) (bopD .add) := by
  intro H0 H Z ι σ s x y a b d tg Q R hb r1 r2 hk hq
  cases a with
  | int i =>
    cases b with
    | int j => cases hk; exact .inl ⟨i, j, r1.int, r2.int, hq _ _ (Nxt.refl R) (.int _)⟩
    | _ => cases hk
  | str i =>
    cases b with
    | str j =>
      have hk' : (if decide (i.length + j.length ≤ sizeLine) then some (D.str (i ++ j), Tg.st) else none) = some (d, tg) := hk
      split at hk'
      · rename_i hl
        cases hk'
        exact .inr (.inl ⟨i, j, r1.str, r2.str, of_decide_eq_true hl, hq _ _ (Nxt.refl R) (.str _)⟩)
      · cases hk'
    | _ => cases hk
  | lst xs =>
    cases b with
    | lst ys =>
      have hk' : (if decide (xs.length + ys.length ≤ sizeLine) then some (D.lst (xs ++ ys), Tg.fr) else none) = some (d, tg) := hk
      split at hk'
      · rename_i hl
        cases hk'
        obtain ⟨p, vs, rfl, h1, q1⟩ := r1.lst
        obtain ⟨q, ws, rfl, h2, q2⟩ := r2.lst
        refine .inr (.inr (.inl ⟨p, q, vs, ws, rfl, rfl, h1, h2, by rw [q1.length, q2.length]; exact of_decide_eq_true hl, fun c hc => ?_⟩))
        obtain ⟨N, vr⟩ := new_lst (H0 := H0) R hb hc (q1.append q2)
        exact hq _ _ N vr
      · cases hk'
    | _ => cases hk
  | tup xs =>
    cases b with
    | tup ys =>
      have hk' : (if decide (xs.length + ys.length ≤ sizeLine) then some (D.tup (xs ++ ys), Tg.st) else none) = some (d, tg) := hk
      split at hk'
      · rename_i hl
        cases hk'
        obtain ⟨p, vs, rfl, h1, q1⟩ := r1.tupX
        obtain ⟨q, ws, rfl, h2, q2⟩ := r2.tupX
        refine .inr (.inr (.inr ⟨p, q, vs, ws, rfl, rfl, h1.sq, h2.sq, by rw [q1.length, q2.length]; exact of_decide_eq_true hl, fun e => ?_, fun _ e => ?_, fun _ _ c o hc ho => ?_⟩))
        · subst e
          cases q1
          exact hq _ _ (Nxt.refl R) (.tup h2 q2)
        · subst e
          cases q2
          rw [List.append_nil] at hq
          exact hq _ _ (Nxt.refl R) (.tup h1 q1)
        · obtain ⟨N, vr⟩ := new_tup (H0 := H0) R hc ho (q1.append q2)
          exact hq _ _ N vr
      · cases hk'
    | _ => cases hk
  | _ => cases b <;> cases hk
theorem v2_sub : Val2 K (rI0 fun i j => .int (i - j)) (bopD .sub) := by
  intro H0 H Z ι σ s x y a b d tg Q R hb r1 r2 hk hq
  cases a with
  | int i =>
    cases b with
    | int j => cases hk; exact ⟨i, j, r1.int, r2.int, hq _ _ (Nxt.refl R) (.int _)⟩
    | _ => cases hk
  | _ => cases b <;> cases hk
theorem small_of {i : Int} (h : small64 i = true) : -(2 ^ 64) < i ∧ i < 2 ^ 64 := by
  unfold small64 at h
  rw [Bool.and_eq_true] at h
  exact ⟨of_decide_eq_true h.1, of_decide_eq_true h.2⟩
theorem v2_mul : Val2 K (rI CMul fun i j => .int (i * j)) (bopD .mul) := by
  intro H0 H Z ι σ s x y a b d tg Q R hb r1 r2 hk hq
  cases a with
  | int i =>
    cases b with
    | int j =>
      have hk' : (if small64 i || small64 j then some (D.int (i * j), Tg.st) else none) = some (d, tg) := hk
      split at hk'
      · rename_i hl
        cases hk'
        refine ⟨i, j, r1.int, r2.int, ?_, hq _ _ (Nxt.refl R) (.int _)⟩
        rw [Bool.or_eq_true] at hl
        exact hl.elim (fun h => .inl (small_of h)) fun h => .inr (small_of h)
      · cases hk'
    | _ => cases hk
  | _ => cases b <;> cases hk
theorem v2_fdv : Val2 K (rI CDiv fun i j => .int (i / j)) (bopD .fdv) := by
  intro H0 H Z ι σ s x y a b d tg Q R hb r1 r2 hk hq
  cases a with
  | int i =>
    cases b with
    | int j =>
      have hk' : (if decide (0 < j) && decide (j < 1073741824) then some (D.int (i / j), Tg.st) else none) = some (d, tg) := hk
      split at hk'
      · rename_i hl
        cases hk'
        rw [Bool.and_eq_true] at hl
        exact ⟨i, j, r1.int, r2.int, ⟨of_decide_eq_true hl.1, of_decide_eq_true hl.2⟩, hq _ _ (Nxt.refl R) (.int _)⟩
      · cases hk'
    | _ => cases hk
  | _ => cases b <;> cases hk
theorem v2_mod : Val2 K (rI (fun _ j => 0 < j) fun i j => .int (i % j)) (bopD .mod) := by
  intro H0 H Z ι σ s x y a b d tg Q R hb r1 r2 hk hq
  cases a with
  | int i =>
    cases b with
    | int j =>
      have hk' : (if decide (0 < j) then some (D.int (i % j), Tg.st) else none) = some (d, tg) := hk
      split at hk'
      · rename_i hl
        cases hk'
        exact ⟨i, j, r1.int, r2.int, of_decide_eq_true hl, hq _ _ (Nxt.refl R) (.int _)⟩
      · cases hk'
    | _ => cases hk
  | _ => cases b <;> cases hk
def bopOf : Bop → Operator
  | .add => .Add
  | .sub => .Sub
  | .mul => .Mult
  | .fdv => .FloorDiv
  | .mod => .Mod
theorem pe_binF {X : Cx} {a b : Expr} {f g : Fv} {pos : Pos} (o : Bop) (ha : PE X a (tE X.K f)) (hb : PE X b (tE X.K g)) : PE X (.BinOp a (bopOf o) b pos) (tE X.K (binF o f g)) := by
  cases o with
  | add => exact PE.imp (pe_op op_addA ha hb) fun σ H Q => op2 v2_add
  | sub => exact PE.imp (pe_op op_sub ha hb) fun σ H Q => op2 v2_sub
  | mul => exact PE.imp (pe_op op_mul ha hb) fun σ H Q => op2 v2_mul
  | fdv => exact PE.imp (pe_op op_fdiv ha hb) fun σ H Q => op2 v2_fdv
  | mod => exact PE.imp (pe_op op_mod ha hb) fun σ H Q => op2 v2_mod
theorem pe_negF {X : Cx} {a : Expr} {f : Fv} {pos : Pos} (ha : PE X a (tE X.K f)) : PE X (.UnaryOp .USub a pos) (tE X.K (negF f)) := by
  refine PE.imp (pe_un un_neg ha) fun σ H Q => op1 ?_
  intro H0 H Z ι σ s x a d tg Q R hb r1 hk hq
  cases a with
  | int i => cases hk; exact ⟨i, r1.int, hq _ _ (Nxt.refl R) (.int _)⟩
  | _ => cases hk
end
end E3
set_option Elab.async false
set_option linter.all false
set_option maxRecDepth 100000
set_option maxHeartbeats 1000000
/-! Rules: comparisons. -/
namespace E3
open PySem PySem.Spec PyProof.Rows L2

/-! ### data -/
mutual
def toP : D → PyData
  | .non => .none
  | .bl b => .bool b
  | .int i => .int i
  | .str x => .str x
  | .tup xs => .tuple (toPL xs)
  | .lst xs => .list (toPL xs)
  | .dct _ => .none
  | .fzl _ => .none
  | .ref _ => .none
def toPL : List D → List PyData
  | [] => []
  | d :: ds => toP d :: toPL ds
end
section
variable {K : PySem.W.Frag} {H H' H0 H1 H2 : Hp} {Z Z' Z0 Z1 Z2 : Addr → Prop} {ι ι' ι0 ι1 ι2 : List Addr} {σ : St} {s s' s0 s1 s2 s3 : S} {v : V} {d e : D} {tg : Tg}
theorem dataOk_list {n : Nat} {xs : List D} : dataOk (n + 1) (.tup xs) = xs.all (dataOk n) := rfl
theorem dataOk_zero_tup {xs : List D} : dataOk 0 (.tup xs) = false := rfl
theorem dataOk_zero_lst {xs : List D} : dataOk 0 (.lst xs) = false := rfl
theorem dp_of : ∀ (n : Nat) (d : D) (v : V), dataOk n d = true → RelW K H Z ι v d → Dp K H v (toP d) := by
  intro n
  induction n with
  | zero =>
    intro d v h r
    cases d with
    | non => rw [r.non]; exact .non
    | bl b => rw [r.bl]; exact .bl b
    | int i => rw [r.int]; exact .int i
    | str x => rw [r.str]; exact .str x
    | _ => cases h
  | succ n ih =>
    have all : ∀ (xs : List D) (vs : List V), xs.all (dataOk n) = true → Rels K H Z ι vs xs → DpAll K H vs (toPL xs) := by
      intro xs
      induction xs with
      | nil => intro vs _ r; cases r; exact .nil
      | cons x xs ih2 =>
        intro vs h r
        rw [List.all_cons, Bool.and_eq_true] at h
        cases r with
        | cons r t => exact .cons (ih x _ h.1 (.inl r)) (ih2 _ h.2 t)
    intro d v h r
    cases d with
    | non => rw [r.non]; exact .non
    | bl b => rw [r.bl]; exact .bl b
    | int i => rw [r.int]; exact .int i
    | str x => rw [r.str]; exact .str x
    | tup xs =>
      obtain ⟨a, vs, rfl, hs, q⟩ := r.tup
      exact .tup hs (all xs vs h q)
    | lst xs =>
      obtain ⟨a, vs, rfl, hs, q⟩ := r.lst
      exact .lst (.inl (.inl hs)) (all xs vs h q)
    | _ => cases h
theorem lay_of : ∀ (n : Nat) (d : D), dataOk n d = true → (toP d).canLay0 = true ∧ (toP d).depth ≤ n := by
  intro n
  induction n with
  | zero =>
    intro d h
    cases d with
    | non => exact ⟨by simp [toP, PyData.canLay0], by simp [toP, PyData.depth]⟩
    | bl b => exact ⟨by simp [toP, PyData.canLay0], by simp [toP, PyData.depth]⟩
    | int i => exact ⟨by simp [toP, PyData.canLay0], by simp [toP, PyData.depth]⟩
    | str x => exact ⟨by have h' : PyData.strOk x = true := h; simpa [toP, PyData.canLay0] using h', by simp [toP, PyData.depth]⟩
    | _ => cases h
  | succ n ih =>
    have all : ∀ (xs : List D), xs.all (dataOk n) = true → PyData.canLayAll0 (toPL xs) = true ∧ PyData.depthAll (toPL xs) ≤ n := by
      intro xs
      induction xs with
      | nil => intro _; exact ⟨by simp [toPL, PyData.canLayAll0], by simp [toPL, PyData.depthAll]⟩
      | cons x xs ih2 =>
        intro h
        rw [List.all_cons, Bool.and_eq_true] at h
        obtain ⟨h1, h2⟩ := ih x h.1
        obtain ⟨h3, h4⟩ := ih2 h.2
        exact ⟨by simp [toPL, PyData.canLayAll0, h1, h3], by simp [toPL, PyData.depthAll]; omega⟩
    intro d h
    cases d with
    | non => exact ⟨by simp [toP, PyData.canLay0], by simp [toP, PyData.depth]⟩
    | bl b => exact ⟨by simp [toP, PyData.canLay0], by simp [toP, PyData.depth]⟩
    | int i => exact ⟨by simp [toP, PyData.canLay0], by simp [toP, PyData.depth]⟩
    | str x => exact ⟨by have h' : PyData.strOk x = true := h; simpa [toP, PyData.canLay0] using h', by simp [toP, PyData.depth]⟩
    | tup xs =>
      obtain ⟨h1, h2⟩ := all xs h
      exact ⟨by simp [toP, PyData.canLay0, h1], by simp [toP, PyData.depth]; omega⟩
    | lst xs =>
      obtain ⟨h1, h2⟩ := all xs h
      exact ⟨by simp [toP, PyData.canLay0, h1], by simp [toP, PyData.depth]; omega⟩
    | _ => cases h
theorem eqv_of : ∀ (n : Nat) (a b : D), dataOk n a = true → dataOk n b = true → PyData.eqv (toP a) (toP b) = eqD a b := by
  intro n
  induction n with
  | zero =>
    intro a b ha hb
    cases a <;> cases b <;> first
      | (cases ha; done)
      | (cases hb; done)
      | (simp [toP, PyData.eqv, eqD]; done)
  | succ n ih =>
    have all : ∀ (xs ys : List D), xs.all (dataOk n) = true → ys.all (dataOk n) = true → PyData.eqvAll (toPL xs) (toPL ys) = eqD.eqL xs ys := by
      intro xs
      induction xs with
      | nil => intro ys _ _; cases ys <;> simp [toPL, PyData.eqvAll, eqD.eqL]
      | cons x xs ih2 =>
        intro ys h1 h2
        cases ys with
        | nil => simp [toPL, PyData.eqvAll, eqD.eqL]
        | cons y ys =>
          rw [List.all_cons, Bool.and_eq_true] at h1 h2
          simp [toPL, PyData.eqvAll, eqD.eqL, ih x y h1.1 h2.1, ih2 ys h1.2 h2.2]
    intro a b ha hb
    cases a <;> cases b <;> first
      | (cases ha; done)
      | (cases hb; done)
      | (simp [toP, PyData.eqv, eqD]; done)
      | (simp only [toP, PyData.eqv, eqD]; exact all _ _ ha hb)
/-! ### == and != -/
def rEqA (K : PySem.W.Frag) : R2 := fun x y H Q => rEq x y H Q ∨ rEqD K x y H Q
def rNeA (K : PySem.W.Frag) : R2 := fun x y H Q => rNe x y H Q ∨ rNeD K x y H Q
theorem scal_of {x y : V} {a b : D} (ra : RelW K H Z ι x a) (rb : RelW K H Z ι y b) (ha : scalD a = true) (hb : scalD b = true) (n : isBI a b = false) : scal x y = true ∧ decide (x = y) = eqD a b := by
  cases a <;> first
    | (cases ha; done)
    | (cases b <;> first
      | (cases hb; done)
      | (cases n; done)
      | (first | rw [ra.non] | rw [ra.bl] | rw [ra.int] | rw [ra.str]
         first | rw [rb.non] | rw [rb.bl] | rw [rb.int] | rw [rb.str]
         refine ⟨rfl, ?_⟩
         first
           | rfl
           | (simp [eqD]; done)
           | (rw [Bool.eq_iff_iff]; simp [eqD])))
theorem deq_cases {a b : D} {r : Bool} (h : deq a b = some r) : (scalD a = true ∧ scalD b = true ∧ isBI a b = false ∧ r = eqD a b) ∨ (dataOk 60 a = true ∧ dataOk 60 b = true ∧ r = eqD a b) := by
  unfold deq at h
  split at h
  · rename_i q
    cases h
    simp only [Bool.and_eq_true, Bool.not_eq_true'] at q
    exact .inl ⟨q.1.1, q.1.2, q.2, rfl⟩
  · split at h
    · rename_i q
      cases h
      rw [Bool.and_eq_true] at q
      exact .inr ⟨q.1, q.2, rfl⟩
    · cases h
theorem shaped_of {a : D} (h : dataOk 60 a = true) : SeqAt.shaped (toP a) = true := by
  obtain ⟨h1, h2⟩ := lay_of 60 a h
  unfold SeqAt.shaped
  rw [h1, Bool.true_and]
  exact decide_eq_true (by omega)
theorem v2_eq : Val2 K (rEqA K) (fun d e => (copD .eq d e).map blT) := by
  intro H0 H Z ι σ s x y a b d tg Q R hb r1 r2 hk hq
  obtain ⟨r, hr, e⟩ := Option.map_eq_some_iff.mp hk
  cases e
  rcases deq_cases hr with ⟨h1, h2, h3, rfl⟩ | ⟨h1, h2, rfl⟩
  · obtain ⟨q1, q2⟩ := scal_of r1 r2 h1 h2 h3
    refine .inl ⟨q1, ?_⟩
    rw [q2]
    exact hq _ _ (Nxt.refl R) (.bl _)
  · refine .inr ⟨_, _, dp_of 60 a x h1 r1, dp_of 60 b y h2 r2, shaped_of h1, shaped_of h2, ?_⟩
    rw [eqv_of 60 a b h1 h2]
    exact hq _ _ (Nxt.refl R) (.bl _)
theorem v2_ne : Val2 K (rNeA K) (fun d e => (copD .ne d e).map blT) := by
  intro H0 H Z ι σ s x y a b d tg Q R hb r1 r2 hk hq
  obtain ⟨r', hr', e⟩ := Option.map_eq_some_iff.mp hk
  obtain ⟨r, hr, e'⟩ := Option.map_eq_some_iff.mp (show (deq a b).map (!·) = some r' from hr')
  cases e'
  cases e
  rcases deq_cases hr with ⟨h1, h2, h3, rfl⟩ | ⟨h1, h2, rfl⟩
  · obtain ⟨q1, q2⟩ := scal_of r1 r2 h1 h2 h3
    refine .inl ⟨q1, ?_⟩
    rw [q2]
    exact hq _ _ (Nxt.refl R) (.bl _)
  · refine .inr ⟨_, _, dp_of 60 a x h1 r1, dp_of 60 b y h2 r2, shaped_of h1, shaped_of h2, ?_⟩
    rw [eqv_of 60 a b h1 h2]
    exact hq _ _ (Nxt.refl R) (.bl _)
/-! ### < <= > >= -/
theorem v2_cmpI {o : Cop} {p : Int → Int → Bool} (h1 : ∀ i j, copD o (.int i) (.int j) = some (p i j)) (h2 : ∀ a b r, copD o a b = some r → ∃ i j, a = .int i ∧ b = .int j) :
    Val2 K (rI0 fun i j => .bl (p i j)) (fun d e => (copD o d e).map blT) := by
  intro H0 H Z ι σ s x y a b d tg Q R hb r1 r2 hk hq
  obtain ⟨r, hr, e⟩ := Option.map_eq_some_iff.mp hk
  cases e
  obtain ⟨i, j, rfl, rfl⟩ := h2 a b r hr
  rw [h1] at hr
  cases hr
  exact ⟨i, j, r1.int, r2.int, hq _ _ (Nxt.refl R) (.bl _)⟩
/-! ### in, not in -/
def rInA (K : PySem.W.Frag) (neg : Bool) : R2 := fun x y H Q => rIn K neg x y H Q ∨ ∃ a o, y = .ref a ∧ DGet H a x o ∧ Q (.bl (if neg then !o.isSome else o.isSome)) H
theorem op_inA {X : Cx} (hu : X.A.units + 1 < cLine) : OpR X (compareOp .In) (rInA X.K false) := by
  refine op_in_seq.or ?_
  intro pins s σ H x y v u Q I rx ry h
  obtain ⟨a, o, rfl, g, q⟩ := h
  cases ry
  exact d_in hu I g rx fun s' I' => ⟨.bl _, H, I', rfl, q⟩
theorem op_ninA {X : Cx} (hu : X.A.units + 1 < cLine) : OpR X (compareOp .NotIn) (rInA X.K true) := by
  refine op_notIn_seq.or ?_
  intro pins s σ H x y v u Q I rx ry h
  obtain ⟨a, o, rfl, g, q⟩ := h
  cases ry
  exact d_notIn hu I g rx fun s' I' => ⟨.bl _, H, I', rfl, q⟩
theorem flat_rel {a : D} {x : V} (r : RelW K H Z ι x a) (h : flatS a = true) : flatV x = true := by
  cases a <;> first
    | (cases h; done)
    | (first | rw [r.non] | rw [r.bl] | rw [r.int] | rw [r.str]
       rfl)
theorem eqV_rel {a b : D} {x y : V} (ra : RelW K H Z ι x a) (rb : RelW K H Z ι y b) (ha : flatS a = true) (hb : flatS b = true) : eqV x y = eqD a b := by
  cases a <;> first
    | (cases ha; done)
    | (cases b <;> first
      | (cases hb; done)
      | (first | rw [ra.non] | rw [ra.bl] | rw [ra.int] | rw [ra.str]
         first | rw [rb.non] | rw [rb.bl] | rw [rb.int] | rw [rb.str]
         rfl))
theorem inV_rel {a : D} {x : V} (ra : RelW K H Z ι x a) (ha : flatS a = true) : ∀ {vs : List V} {ds : List D}, Rels K H Z ι vs ds → ds.all flatS = true → vs.all flatV = true ∧ inV x vs = ds.any fun y => eqD y a
  | _, _, .nil, _ => ⟨rfl, rfl⟩
  | _, _, .cons (v := v) (vs := vs) (d := d) (ds := ds) r t, h => by
    rw [List.all_cons, Bool.and_eq_true] at h
    obtain ⟨h1, h2⟩ := inV_rel ra ha t h.2
    refine ⟨by rw [List.all_cons, flat_rel (.inl r) h.1, h1]; rfl, ?_⟩
    unfold inV at h2 ⊢
    rw [List.any_cons, List.any_cons, h2, eqV_rel (.inl r) ra h.1 ha]
theorem valV_rel {kvs : List (Key × V)} {ks : List (Key × D)} (r : RelK K H Z ι kvs ks) (k : Key) : (valV kvs k = none ∧ getD ks k = none) ∨ ∃ v d, valV kvs k = some v ∧ getD ks k = some d ∧ Rel K H Z ι v d := by
  induction ks generalizing kvs with
  | nil => cases r; exact .inl ⟨rfl, rfl⟩
  | cons p ks ih =>
    cases r with
    | @cons k' v vs d ds r t =>
      by_cases h : k' = k
      · subst h
        exact .inr ⟨v, d, by simp [valV, List.find?_cons], by simp [getD, List.find?_cons], r⟩
      · have e1 : valV ((k', v) :: vs) k = valV vs k := valV_neg h
        have e2 : getD ((k', d) :: ks) k = getD ks k := by simp [getD, List.find?_cons, h]
        rw [e1, e2]
        exact ih t
theorem key_rel {a : D} {x : V} {k : Key} (r : RelW K H Z ι x a) (h : keyD a = some k) : x = kV k := by
  cases a with
  | int i => cases h; exact r.int
  | str i => cases h; exact r.str
  | _ => cases h
theorem in_cases {a b : D} {x y : V} {r neg : Bool} {Q : VK} (r1 : RelW K H Z ι x a) (r2 : RelW K H Z ι y b) (h : memD a b = some r) (q : Q (.bl (if neg then !r else r)) H) : rInA K neg x y H Q := by
  cases b with
  | tup ys =>
    have h' : (if flatS a && ys.all flatS then some (ys.any fun y => eqD y a) else if dataOk 60 a && dataOk 60 (.lst ys) then none else none) = some r := h
    split at h'
    · rename_i c
      cases h'
      rw [Bool.and_eq_true] at c
      obtain ⟨p, vs, rfl, hs, rr⟩ := r2.tup
      obtain ⟨c1, c2⟩ := inV_rel r1 c.1 rr c.2
      exact .inl ⟨p, vs, rfl, .inr hs, flat_rel r1 c.1, c1, by rw [c2]; exact q⟩
    · split at h' <;> cases h'
  | lst ys =>
    have h' : (if flatS a && ys.all flatS then some (ys.any fun y => eqD y a) else none) = some r := h
    split at h'
    · rename_i c
      cases h'
      rw [Bool.and_eq_true] at c
      obtain ⟨p, vs, rfl, hs, rr⟩ := r2.lst
      obtain ⟨c1, c2⟩ := inV_rel r1 c.1 rr c.2
      exact .inl ⟨p, vs, rfl, .inl (.inl (.inl hs)), flat_rel r1 c.1, c1, by rw [c2]; exact q⟩
    · cases h'
  | dct ks =>
    have h' : (match keyD a with | some k => some (getD ks k).isSome | none => none) = some r := h
    split at h'
    · rename_i k hk
      cases h'
      obtain ⟨p, kvs, rfl, hs, rr⟩ := r2.dct
      have e := key_rel r1 hk
      subst e
      refine .inr ⟨p, valV kvs k, rfl, .inl ⟨kvs, k, hs, rfl, rfl⟩, ?_⟩
      rcases valV_rel rr k with ⟨e1, e2⟩ | ⟨v, d, e1, e2, _⟩
      · rw [e1]; rw [e2] at q; exact q
      · rw [e1]; rw [e2] at q; exact q
    · cases h'
  | _ => cases h
theorem v2_inn : Val2 K (rInA K false) (fun d e => (copD .inn d e).map blT) := by
  intro H0 H Z ι σ s x y a b d tg Q R hb r1 r2 hk hq
  obtain ⟨r, hr, e⟩ := Option.map_eq_some_iff.mp hk
  cases e
  exact in_cases r1 r2 (show memD a b = some r from hr) (hq _ _ (Nxt.refl R) (.bl _))
theorem v2_nin : Val2 K (rInA K true) (fun d e => (copD .nin d e).map blT) := by
  intro H0 H Z ι σ s x y a b d tg Q R hb r1 r2 hk hq
  obtain ⟨r', hr', e⟩ := Option.map_eq_some_iff.mp hk
  obtain ⟨r, hr, e'⟩ := Option.map_eq_some_iff.mp (show (memD a b).map (!·) = some r' from hr')
  cases e'
  cases e
  exact in_cases r1 r2 hr (hq _ _ (Nxt.refl R) (.bl _))
def copOf : Cop → CmpOp
  | .eq => .Eq
  | .ne => .NotEq
  | .lt => .Lt
  | .le => .LtE
  | .gt => .Gt
  | .ge => .GtE
  | .inn => .In
  | .nin => .NotIn
def rCop (K : PySem.W.Frag) : Cop → R2
  | .eq => rEqA K
  | .ne => rNeA K
  | .lt => rI0 fun i j => .bl (decide (i < j))
  | .le => rI0 fun i j => .bl (decide (i ≤ j))
  | .gt => rI0 fun i j => .bl (decide (j < i))
  | .ge => rI0 fun i j => .bl (decide (j ≤ i))
  | .inn => rInA K false
  | .nin => rInA K true
theorem op_cop {X : Cx} (hu : X.A.units + 64 < cLine) (o : Cop) : OpR X (compareOp (copOf o)) (rCop X.K o) := by
  cases o with
  | eq => exact op_eq.or (op_eqD hu)
  | ne => exact op_ne.or (op_neD hu)
  | lt => exact op_lt
  | le => exact op_le
  | gt => exact op_gt
  | ge => exact op_ge
  | inn => exact op_inA (by omega)
  | nin => exact op_ninA (by omega)
theorem v2_cop (o : Cop) : Val2 K (rCop K o) (fun d e => (copD o d e).map blT) := by
  have two : ∀ (o : Cop), (o = .lt ∨ o = .le ∨ o = .gt ∨ o = .ge) → ∀ a b r, copD o a b = some r → ∃ i j, a = .int i ∧ b = .int j := by
    intro o ho a b r h
    rcases ho with rfl | rfl | rfl | rfl <;>
    · cases a with
      | int i =>
        cases b with
        | int j => exact ⟨i, j, rfl, rfl⟩
        | _ => cases h
      | _ => cases b <;> cases h
  cases o with
  | eq => exact v2_eq
  | ne => exact v2_ne
  | lt => exact v2_cmpI (fun _ _ => rfl) (two _ (.inl rfl))
  | le => exact v2_cmpI (fun _ _ => rfl) (two _ (.inr (.inl rfl)))
  | gt => exact v2_cmpI (fun _ _ => rfl) (two _ (.inr (.inr (.inl rfl))))
  | ge => exact v2_cmpI (fun _ _ => rfl) (two _ (.inr (.inr (.inr rfl))))
  | inn => exact v2_inn
  | nin => exact v2_nin
theorem pe_cmpF {X : Cx} {a b : Expr} {f g : Fv} {pos : Pos} (hu : X.A.units + 64 < cLine) (o : Cop) (hm : behindInMarks (copOf o) b = false) (ha : PE X a (tE X.K f)) (hb : PE X b (tE X.K g)) :
    PE X (.Compare a [copOf o] [b] pos) (tE X.K (cmpF o f g)) := PE.imp (pe_cmpR (op_cop hu o) ha hb hm) fun σ H Q => op2 (v2_cop o)
theorem isN_rel {a : D} {x : V} (r : RelW K H Z ι x a) : decide (x = V.non) = isN a := by
  cases a with
  | non => rw [r.non]; rfl
  | bl _ => rw [r.bl]; rfl
  | int _ => rw [r.int]; rfl
  | str _ => rw [r.str]; rfl
  | tup _ => obtain ⟨p, vs, rfl, _⟩ := r.tup; rfl
  | lst _ => obtain ⟨p, vs, rfl, _⟩ := r.lst; rfl
  | dct _ => obtain ⟨p, vs, rfl, _⟩ := r.dct; rfl
  | fzl _ => obtain ⟨p, rfl, _⟩ := r.fzl; rfl
  | ref _ => obtain ⟨p, rfl, _⟩ := r.ref; rfl
theorem pe_isnF {X : Cx} {a : Expr} {f : Fv} {pos pos' : Pos} {j : Nat} (ha : PE X a (tE X.K f)) : PE X (.Compare a [.Is] [.Constant .none j pos'] pos) (tE X.K (isnF f)) := by
  refine PE.imp (pe_cmp (pc_isN ha) rfl) fun σ H Q h => ?_
  show tUn (fun x H Q => Q (.bl (decide (x = .non))) H) (tE X.K f) σ H Q
  refine op1 ?_ h
  intro H0 H Z ι σ s x a d tg Q R hb r1 hk hq
  cases hk
  rw [isN_rel r1]
  exact hq _ _ (Nxt.refl R) (.bl _)
theorem pe_ntnF {X : Cx} {a : Expr} {f : Fv} {pos pos' : Pos} {j : Nat} (ha : PE X a (tE X.K f)) : PE X (.Compare a [.IsNot] [.Constant .none j pos'] pos) (tE X.K (ntnF f)) := by
  refine PE.imp (pe_cmp (pc_notN ha) rfl) fun σ H Q h => ?_
  show tUn (fun x H Q => Q (.bl (!decide (x = .non))) H) (tE X.K f) σ H Q
  refine op1 ?_ h
  intro H0 H Z ι σ s x a d tg Q R hb r1 hk hq
  cases hk
  rw [isN_rel r1]
  exact hq _ _ (Nxt.refl R) (.bl _)
end
end E3
set_option Elab.async false
set_option linter.all false
set_option maxRecDepth 100000
set_option maxHeartbeats 1000000
/-! Rules: names, constants, and / or / not, chains, items, slices, displays. -/
namespace E3
open PySem PySem.Spec PyProof.Rows L2
section
variable {X : Cx} {a b c : Expr} {f g h : Fv} {pos : Pos}
variable {K : PySem.W.Frag} {H H' H0 H1 H2 : Hp} {Z Z' Z0 Z1 Z2 : Addr → Prop} {ι ι' ι0 ι1 ι2 : List Addr} {σ : St} {s s' s0 s1 s2 s3 : S} {v : V} {d e : D} {tg : Tg}
theorem vr_weak (R : SR K H Z ι σ s) (vr : VR H0 K H Z ι σ s v d tg) : RelW K H Z ι v d := by
  cases tg with
  | st => exact .inl vr
  | fr => obtain ⟨a, _, _, _, _, t⟩ := vr; exact .inr t
  | bw i =>
    obtain ⟨h1, h2⟩ := vr
    obtain ⟨a, h3, t, _⟩ := R.ow i d h2
    rw [h1] at h3; cases h3
    exact .inr t
theorem pe_vF {i : Nat} {x : Str} (hN : X.N[i]? = some x) (hv : Vis X.env.scope x) (hd : (x == ("__debug__" : Str)) = false) (hcd : (x == ("__classdict__" : Str)) = false) : PE X (.Name x pos) (tE X.K (vF i)) := by
  refine PE.imp (pe_var hN hv hd hcd) fun σ H Q ⟨Z, ι, s, d, tg, s', R, hf, hq⟩ => ?_
  have hf' : (match s.sl[i]? with | some (some (d, true)) => some (d, Tg.bw i, s) | some (some (d, false)) => some (d, Tg.st, s) | _ => none) = some (d, tg, s') := hf
  split at hf'
  · rename_i d' h1
    cases hf'
    obtain ⟨a, h2, _⟩ := R.ow i _ h1
    exact ⟨_, h2, hq _ H Z ι (Nxt.refl R) ⟨h2, h1⟩⟩
  · rename_i d' h1
    cases hf'
    obtain ⟨v, h2, r⟩ := R.st i _ h1
    exact ⟨_, h2, hq _ H Z ι (Nxt.refl R) r⟩
  · cases hf'
theorem pe_cF {v : V} (h : PE X a (tC v)) (r : ∀ H Z ι, Rel X.K H Z ι v d) : PE X a (tE X.K (cF d)) := by
  refine PE.imp h fun σ H Q ⟨Z, ι, s, d', tg, s', R, hf, hq⟩ => ?_
  have hf' : some (d, Tg.st, s) = some (d', tg, s') := hf
  cases hf'
  exact hq v H Z ι (Nxt.refl R) (r H Z ι)
theorem pe_oF {o : Option D} (h : ∀ d, o = some d → PE X a (tE X.K (cF d))) (hn : o ≠ none) : PE X a (tE X.K (oF o)) := by
  cases o with
  | none => exact absurd rfl hn
  | some d => exact PE.imp (h d rfl) fun σ H Q q => q
/-! ### and, or, not -/
theorem boolD_some {d : D} {b : Bool} (h : boolD d = some b) : d = .bl b := by
  cases d <;> first | (cases h; rfl) | cases h
theorem intD_some {d : D} {b : Int} (h : intD d = some b) : d = .int b := by
  cases d <;> first | (cases h; rfl) | cases h
/-- what follows a value -/
theorem then_E {Q : VK} {d : D} {tg : Tg} (R : SR K H Z ι σ s) (N : Nxt K σ H Z ι s H1 Z1 ι1 s1) (hf : f s1 = some (d, tg, s2)) (hq : ∀ v H' Z' ι', Nxt K σ H Z ι s H' Z' ι' s2 → VR H K H' Z' ι' σ s2 v d tg → Q v H') : tE K f σ H1 Q :=
  ⟨Z1, ι1, s1, d, tg, s2, N.sr, hf, fun v H' Z' ι' M vr => hq v H' Z' ι' (Nxt.trans R N M) (vr.base N.dm)⟩
theorem pe_andF {rest : List Expr} (ha : PE X a (tE X.K f)) (hb : PE X (.BoolOp .And (b :: rest) pos) (tE X.K g)) : PE X (.BoolOp .And (a :: b :: rest) pos) (tE X.K (andF f g)) := by
  refine PE.imp (pe_and ha hb) fun σ H Q ⟨Z, ι, s, d, tg, s', R, hf, hq⟩ => ?_
  obtain ⟨⟨d1, t1, s1⟩, f1, hf⟩ := Option.bind_eq_some_iff.mp hf
  obtain ⟨b, hb, hf⟩ := Option.bind_eq_some_iff.mp hf
  have e := boolD_some hb
  refine ⟨Z, ι, s, d1, t1, s1, R, f1, fun x H1 Z1 ι1 N1 v1 => ⟨b, ?_, ?_⟩⟩
  · have e' : d1 = .bl b := e
    subst e'
    exact (vr_weak N1.sr v1).bl
  · cases b with
    | true => exact then_E R N1 hf hq
    | false =>
      cases hf
      exact hq _ H1 Z1 ι1 N1 (.bl _)
theorem pe_orF {rest : List Expr} (ha : PE X a (tE X.K f)) (hb : PE X (.BoolOp .Or (b :: rest) pos) (tE X.K g)) : PE X (.BoolOp .Or (a :: b :: rest) pos) (tE X.K (orF f g)) := by
  refine PE.imp (pe_or ha hb) fun σ H Q ⟨Z, ι, s, d, tg, s', R, hf, hq⟩ => ?_
  obtain ⟨⟨d1, t1, s1⟩, f1, hf⟩ := Option.bind_eq_some_iff.mp hf
  obtain ⟨b, hb, hf⟩ := Option.bind_eq_some_iff.mp hf
  have e := boolD_some hb
  refine ⟨Z, ι, s, d1, t1, s1, R, f1, fun x H1 Z1 ι1 N1 v1 => ⟨b, ?_, ?_⟩⟩
  · have e' : d1 = .bl b := e
    subst e'
    exact (vr_weak N1.sr v1).bl
  · cases b with
    | false => exact then_E R N1 hf hq
    | true =>
      cases hf
      exact hq _ H1 Z1 ι1 N1 (.bl _)
theorem pe_ntF (ha : PE X a (tE X.K f)) : PE X (.UnaryOp .Not a pos) (tE X.K (ntF f)) := by
  refine PE.imp (pe_not ha) fun σ H Q ⟨Z, ι, s, d, tg, s', R, hf, hq⟩ => ?_
  obtain ⟨⟨d1, t1, s1⟩, f1, hf⟩ := Option.bind_eq_some_iff.mp hf
  obtain ⟨b, hb, hf⟩ := Option.bind_eq_some_iff.mp hf
  have e := boolD_some hb
  cases hf
  refine ⟨Z, ι, s, d1, t1, _, R, f1, fun x H1 Z1 ι1 N1 v1 => ⟨b, ?_, hq _ H1 Z1 ι1 N1 (.bl _)⟩⟩
  have e' : d1 = .bl b := e
  subst e'
  exact (vr_weak N1.sr v1).bl
/-! ### tests -/
theorem pt_of (h : PE X a (tE X.K f)) (he : ∀ whole, isTrue a X.env whole = (do let v ← whole; standAt a.pos; holding [v] (truthy v))) : PT X a (tET X.K (toC f)) := by
  refine PT.imp (pt_val h he) fun σ H Q ⟨Z, ι, s, b, s', R, hf, hq⟩ => ?_
  obtain ⟨⟨d1, t1, s1⟩, f1, hf⟩ := Option.bind_eq_some_iff.mp hf
  obtain ⟨b', hb, hf⟩ := Option.bind_eq_some_iff.mp hf
  have e := boolD_some hb
  cases hf
  refine ⟨Z, ι, s, d1, t1, _, R, f1, fun x H1 Z1 ι1 N1 v1 => ⟨b, ?_, hq H1 Z1 ι1 N1⟩⟩
  have e' : d1 = .bl b := e
  subst e'
  exact (vr_weak N1.sr v1).bl
theorem tB_of {Q : Bool → Hp → Prop} (h : tET K (toC f) σ H Q) : tB (tE K f) σ H Q := by
  obtain ⟨Z, ι, s, b, s', R, hf, hq⟩ := h
  obtain ⟨⟨d1, t1, s1⟩, f1, hf⟩ := Option.bind_eq_some_iff.mp hf
  obtain ⟨b', hb, hf⟩ := Option.bind_eq_some_iff.mp hf
  have e := boolD_some hb
  cases hf
  refine ⟨Z, ι, s, d1, t1, _, R, f1, fun x H1 Z1 ι1 N1 v1 => ⟨b, ?_, hq H1 Z1 ι1 N1⟩⟩
  have e' : d1 = .bl b := e
  subst e'
  exact (vr_weak N1.sr v1).bl
theorem pt_cmpF (hu : X.A.units + 64 < cLine) (o : Cop) (hm : behindInMarks (copOf o) b = false) (ha : PE X a (tE X.K f)) (hb : PE X b (tE X.K g)) :
    PT X (.Compare a [copOf o] [b] pos) (tET X.K (toC (cmpF o f g))) := PT.imp (pt_cmpR (op_cop hu o) ha hb hm) fun σ H Q q => by
  obtain ⟨Z, ι, s, b, s', R, hf, hq⟩ := q
  refine op2 (v2_cop o) (Q := fun x H' => ∃ k, x = .bl k ∧ Q k H') ?_
  obtain ⟨⟨d1, t1, s1⟩, f1, hf⟩ := Option.bind_eq_some_iff.mp hf
  obtain ⟨b', hb, hf⟩ := Option.bind_eq_some_iff.mp hf
  have e := boolD_some hb
  cases hf
  have e' : d1 = .bl b := e
  subst e'
  exact ⟨Z, ι, s, _, t1, _, R, f1, fun x H1 Z1 ι1 N1 v1 => ⟨b, (vr_weak N1.sr v1).bl, hq H1 Z1 ι1 N1⟩⟩
theorem pt_isnF {pos' : Pos} {j : Nat} (ha : PE X a (tE X.K f)) : PT X (.Compare a [.Is] [.Constant .none j pos'] pos) (tET X.K (toC (isnF f))) := by
  refine PT.imp (pt_cmp (pc_isN ha) rfl) fun σ H Q q => ?_
  have q1 : tB (tE X.K (isnF f)) σ H Q := tB_of q
  show tUn (fun x H Q => Q (.bl (decide (x = .non))) H) (tE X.K f) σ H (fun x H1 => ∃ c, x = .bl c ∧ Q c H1)
  refine op1 ?_ q1
  intro H0 H Z ι σ s x a d tg Q R hb r1 hk hq
  cases hk
  rw [isN_rel r1]
  exact hq _ _ (Nxt.refl R) (.bl _)
theorem pt_ntnF {pos' : Pos} {j : Nat} (ha : PE X a (tE X.K f)) : PT X (.Compare a [.IsNot] [.Constant .none j pos'] pos) (tET X.K (toC (ntnF f))) := by
  refine PT.imp (pt_cmp (pc_notN ha) rfl) fun σ H Q q => ?_
  have q1 : tB (tE X.K (ntnF f)) σ H Q := tB_of q
  show tUn (fun x H Q => Q (.bl (!decide (x = .non))) H) (tE X.K f) σ H (fun x H1 => ∃ c, x = .bl c ∧ Q c H1)
  refine op1 ?_ q1
  intro H0 H Z ι σ s x a d tg Q R hb r1 hk hq
  cases hk
  rw [isN_rel r1]
  exact hq _ _ (Nxt.refl R) (.bl _)
theorem then_T {Q : Bool → Hp → Prop} {k : Fc} {b : Bool} (R : SR K H Z ι σ s) (N : Nxt K σ H Z ι s H1 Z1 ι1 s1) (hf : k s1 = some (b, s2)) (hq : ∀ H' Z' ι', Nxt K σ H Z ι s H' Z' ι' s2 → Q b H') : tET K k σ H1 Q :=
  ⟨Z1, ι1, s1, b, s2, N.sr, hf, fun H' Z' ι' M => hq H' Z' ι' (Nxt.trans R N M)⟩
theorem tAnd_of {Q : Bool → Hp → Prop} (h : tET K (toC (andF f g)) σ H Q) : tAnd (tET K (toC f)) (tET K (toC g)) σ H Q := by
  obtain ⟨Z, ι, s, b, s', R, hf, hq⟩ := h
  obtain ⟨⟨d1, t1, s1⟩, f1, hf⟩ := Option.bind_eq_some_iff.mp hf
  obtain ⟨b', hb, hf⟩ := Option.bind_eq_some_iff.mp hf
  cases hf
  obtain ⟨⟨d2, t2, s2⟩, f2, f1⟩ := Option.bind_eq_some_iff.mp f1
  obtain ⟨c, hc, f1⟩ := Option.bind_eq_some_iff.mp f1
  refine ⟨Z, ι, s, c, s2, R, ?_, fun H1 Z1 ι1 N1 => ?_⟩
  · unfold toC
    rw [f2]
    show (boolD d2).bind _ = _
    rw [show boolD d2 = some c from hc]
    rfl
  · cases c with
    | true =>
      rw [if_pos rfl]
      have f1' : g s2 = some (d1, t1, s1) := f1
      refine then_T R N1 (s2 := s1) (b := b) ?_ hq
      unfold toC
      rw [f1']
      show (boolD d1).bind _ = _
      rw [show boolD d1 = some b from hb]
      rfl
    | false =>
      cases f1
      cases hb
      exact hq H1 Z1 ι1 N1
theorem tOr_of {Q : Bool → Hp → Prop} (h : tET K (toC (orF f g)) σ H Q) : tOr (tET K (toC f)) (tET K (toC g)) σ H Q := by
  obtain ⟨Z, ι, s, b, s', R, hf, hq⟩ := h
  obtain ⟨⟨d1, t1, s1⟩, f1, hf⟩ := Option.bind_eq_some_iff.mp hf
  obtain ⟨b', hb, hf⟩ := Option.bind_eq_some_iff.mp hf
  cases hf
  obtain ⟨⟨d2, t2, s2⟩, f2, f1⟩ := Option.bind_eq_some_iff.mp f1
  obtain ⟨c, hc, f1⟩ := Option.bind_eq_some_iff.mp f1
  refine ⟨Z, ι, s, c, s2, R, ?_, fun H1 Z1 ι1 N1 => ?_⟩
  · unfold toC
    rw [f2]
    show (boolD d2).bind _ = _
    rw [show boolD d2 = some c from hc]
    rfl
  · cases c with
    | false =>
      have f1' : g s2 = some (d1, t1, s1) := f1
      refine then_T R N1 (s2 := s1) (b := b) ?_ hq
      unfold toC
      rw [f1']
      show (boolD d1).bind _ = _
      rw [show boolD d1 = some b from hb]
      rfl
    | true =>
      cases f1
      cases hb
      exact hq H1 Z1 ι1 N1
theorem pw_andF {rest : List Expr} (ha : PT X a (tET X.K (toC f))) (hb : PW X (.BoolOp .And (b :: rest) pos) (tET X.K (toC g))) : PW X (.BoolOp .And (a :: b :: rest) pos) (tET X.K (toC (andF f g))) :=
  PW.imp (pw_and ha hb) fun σ H Q q => tAnd_of q
theorem pw_orF {rest : List Expr} (ha : PT X a (tET X.K (toC f))) (hb : PW X (.BoolOp .Or (b :: rest) pos) (tET X.K (toC g))) : PW X (.BoolOp .Or (a :: b :: rest) pos) (tET X.K (toC (orF f g))) :=
  PW.imp (pw_or ha hb) fun σ H Q q => tOr_of q
theorem pt_ntF (ha : PT X a (tET X.K (toC f))) : PT X (.UnaryOp .Not a pos) (tET X.K (toC (ntF f))) := by
  refine PT.imp (pt_not ha) fun σ H Q ⟨Z, ι, s, b, s', R, hf, hq⟩ => ?_
  obtain ⟨⟨d1, t1, s1⟩, f1, hf⟩ := Option.bind_eq_some_iff.mp hf
  obtain ⟨b', hb, hf⟩ := Option.bind_eq_some_iff.mp hf
  cases hf
  obtain ⟨⟨d2, t2, s2⟩, f2, f1⟩ := Option.bind_eq_some_iff.mp f1
  obtain ⟨c, hc, f1⟩ := Option.bind_eq_some_iff.mp f1
  cases f1
  cases hb
  refine ⟨Z, ι, s, c, s2, R, ?_, fun H1 Z1 ι1 N1 => hq H1 Z1 ι1 N1⟩
  unfold toC
  rw [f2]
  show (boolD d2).bind _ = _
  rw [show boolD d2 = some c from hc]
  rfl
theorem pe_iteF {k : Fv} (hc : PT X c (tET X.K (toC k))) (ha : PE X a (tE X.K f)) (hb : PE X b (tE X.K g)) : PE X (.IfExp c a b pos) (tE X.K (iteF k f g)) := by
  refine PE.imp (pe_ifExp hc ha hb) fun σ H Q ⟨Z, ι, s, d, tg, s', R, hf, hq⟩ => ?_
  obtain ⟨⟨d1, t1, s1⟩, f1, hf⟩ := Option.bind_eq_some_iff.mp hf
  obtain ⟨b', hb, hf⟩ := Option.bind_eq_some_iff.mp hf
  refine ⟨Z, ι, s, b', s1, R, ?_, fun H1 Z1 ι1 N1 => ?_⟩
  · unfold toC
    rw [f1]
    show (boolD d1).bind _ = _
    rw [show boolD d1 = some b' from hb]
    rfl
  · cases b' with
    | true => exact then_E R N1 hf hq
    | false => exact then_E R N1 hf hq
/-! ### chains -/
theorem chain_of {o p : Cop} {Q : VK} (h' : tE K (chnF o p f g h) σ H Q) : tChain (rCop K o) (rCop K p) (tE K f) (tE K g) (tE K h) σ H Q := by
  obtain ⟨Z, ι, s, d, tg, s', R, hf, hq⟩ := h'
  obtain ⟨⟨d1, t1, s1⟩, f1, hf⟩ := Option.bind_eq_some_iff.mp hf
  obtain ⟨⟨d2, t2, s2⟩, f2, hf⟩ := Option.bind_eq_some_iff.mp hf
  obtain ⟨e1, w1, hf⟩ := Option.bind_eq_some_iff.mp hf
  obtain ⟨e2, w2, hf⟩ := Option.bind_eq_some_iff.mp hf
  obtain ⟨r, hr, hf⟩ := Option.bind_eq_some_iff.mp hf
  refine ⟨Z, ι, s, d1, t1, s1, R, f1, fun x H1 Z1 ι1 N1 v1 => ⟨Z1, ι1, s1, d2, t2, s2, N1.sr, f2, fun y H2 Z2 ι2 N2 v2 => ?_⟩⟩
  have N := Nxt.trans R N1 N2
  refine v2_cop o H H2 Z2 ι2 σ s2 x y e1 e2 (.bl r) .st _ N2.sr N.dm (wk_ok N1.sr v1 N2 w1) (wk_ok N2.sr v2 (Nxt.refl N2.sr) w2) (by show (copD o e1 e2).map blT = _; rw [hr]; rfl) fun z H3 M3 vz => ?_
  refine ⟨r, (vr_weak M3.sr vz).bl, ?_⟩
  cases r with
  | false =>
    cases hf
    exact hq _ H3 Z2 ι2 (Nxt.trans R N M3) (.bl _)
  | true =>
    rw [if_pos rfl]
    obtain ⟨⟨d4, t4, s4⟩, f4, hf⟩ := Option.bind_eq_some_iff.mp hf
    obtain ⟨e3, w3, hf⟩ := Option.bind_eq_some_iff.mp hf
    obtain ⟨e4, w4, hf⟩ := Option.bind_eq_some_iff.mp hf
    obtain ⟨r4, hr4, hf⟩ := Option.bind_eq_some_iff.mp hf
    cases hf
    refine ⟨Z2, ι2, s2, d4, t4, _, M3.sr, f4, fun w H4 Z4 ι4 N4 v4 => ?_⟩
    have N' := Nxt.trans R (Nxt.trans R N M3) N4
    refine v2_cop p H H4 Z4 ι4 σ _ y w e3 e4 (.bl r4) .st _ N4.sr N'.dm (wk_ok N2.sr v2 (Nxt.trans N2.sr M3 N4) w3) (wk_ok N4.sr v4 (Nxt.refl N4.sr) w4) (by show (copD p e3 e4).map blT = _; rw [hr4]; rfl) fun z H5 M5 vz => ?_
    exact hq z H5 Z4 ι4 (Nxt.trans R N' M5) vz
theorem pe_chnF (hu : X.A.units + 64 < cLine) (o p : Cop) (ha : PE X a (tE X.K f)) (hb : PE X b (tE X.K g)) (hc : PE X c (tE X.K h)) (hm : lastMarks [copOf o, copOf p] [b, c] = false) :
    PE X (.Compare a [copOf o, copOf p] [b, c] pos) (tE X.K (chnF o p f g h)) := PE.imp (pe_chain (op_cop hu o) (op_cop hu p) ha hb hc hm) fun σ H Q => chain_of
theorem pt_chnF (hu : X.A.units + 64 < cLine) (o p : Cop) (ha : PE X a (tE X.K f)) (hb : PE X b (tE X.K g)) (hc : PE X c (tE X.K h)) (hm : lastMarks [copOf o, copOf p] [b, c] = false) :
    PT X (.Compare a [copOf o, copOf p] [b, c] pos) (tET X.K (toC (chnF o p f g h))) := PT.imp (pt_chain (op_cop hu o) (op_cop hu p) ha hb hc hm) fun σ H Q q => by
  have q1 : tB (tE X.K (chnF o p f g h)) σ H Q := tB_of q
  exact chain_of q1
end
end E3
set_option Elab.async false
set_option linter.all false
set_option maxRecDepth 100000
set_option maxHeartbeats 1000000
/-! Rules: items, slices, displays, arguments, built-ins. -/
namespace E3
open PySem PySem.Spec PyProof.Rows L2
section
variable {X : Cx} {a b c : Expr} {f g h : Fv} {pos : Pos}
variable {K : PySem.W.Frag} {H H' H0 H1 H2 : Hp} {Z Z' Z0 Z1 Z2 : Addr → Prop} {ι ι' ι0 ι1 ι2 : List Addr} {σ : St} {s s' s0 s1 s2 s3 : S} {v : V} {d e : D} {tg : Tg}
/-! ### items -/
theorem at_rel {vs : List V} {ds : List D} {i : Int} {d : D} (r : Rels K H Z ι vs ds) (h : atI ds i = some d) : ∃ v, atI vs i = some v ∧ Rel K H Z ι v d := by
  unfold atI at h ⊢
  rw [r.length]
  obtain ⟨j, hj, h⟩ := Option.bind_eq_some_iff.mp h
  obtain ⟨v, h1, h2⟩ := r.get h
  rw [hj]
  exact ⟨v, h1, h2⟩
theorem op2_any {k : D → D → Option (D × Tg)} {Q : VK} (q : tE K (op2F k f g) σ H Q) : ∃ e1 e2 d tg, k e1 e2 = some (d, tg) ∧ ∀ r : R2,
    (∀ (H2 : Hp) (Z2 : Addr → Prop) (ι2 : List Addr) (s2 : S) (x y : V), SR K H2 Z2 ι2 σ s2 → (∀ a, H a ≠ none → H2 a ≠ none) → RelW K H2 Z2 ι2 x e1 → RelW K H2 Z2 ι2 y e2 →
      (∀ v H', Nxt K σ H2 Z2 ι2 s2 H' Z2 ι2 s2 → VR H K H' Z2 ι2 σ s2 v d tg → Q v H') → r x y H2 Q) → tOp r (tE K f) (tE K g) σ H Q := by
  obtain ⟨Z, ι, s, d, tg, s', R, hf, hq⟩ := q
  obtain ⟨⟨d1, t1, s1⟩, f1, hf⟩ := Option.bind_eq_some_iff.mp hf
  obtain ⟨⟨d2, t2, s2⟩, f2, hf⟩ := Option.bind_eq_some_iff.mp hf
  obtain ⟨e1, w1, hf⟩ := Option.bind_eq_some_iff.mp hf
  obtain ⟨e2, w2, hf⟩ := Option.bind_eq_some_iff.mp hf
  obtain ⟨⟨d', tg'⟩, hk, hf⟩ := Option.map_eq_some_iff.mp hf
  cases hf
  refine ⟨e1, e2, _, _, hk, fun r hr => ⟨Z, ι, s, d1, t1, s1, R, f1, fun x H1 Z1 ι1 N1 v1 => ⟨Z1, ι1, s1, d2, t2, s2, N1.sr, f2, fun y H2 Z2 ι2 N2 v2 => ?_⟩⟩⟩
  have N := Nxt.trans R N1 N2
  exact hr H2 Z2 ι2 s2 x y N2.sr N.dm (wk_ok N1.sr v1 N2 w1) (wk_ok N2.sr v2 (Nxt.refl N2.sr) w2) fun v H' M vr => hq v H' Z2 ι2 (Nxt.trans R N M) vr
theorem ix_split {Q : VK} (q : tE K (ixF f g) σ H Q) : tOp (rIx K) (tE K f) (tE K g) σ H Q ∨ tDGet (tE K f) (tE K g) σ H Q := by
  obtain ⟨e1, e2, d, tg, hk, go⟩ := op2_any q
  obtain ⟨r, hr, e⟩ := Option.map_eq_some_iff.mp (show (itemD e1 e2).map (fun r => (r, Tg.st)) = some (d, tg) from hk)
  cases e
  cases e1 with
  | tup xs =>
    cases e2 with
    | int i =>
      refine .inl (go _ fun H2 Z2 ι2 s2 x y R hb r1 r2 hq => ?_)
      obtain ⟨p, vs, rfl, h1, q1⟩ := r1.tup
      obtain ⟨v, h2, h3⟩ := at_rel q1 (show atI xs i = some d from hr)
      exact .inr (.inl ⟨p, vs, i, v, rfl, r2.int, h1, h2, hq _ _ (Nxt.refl R) h3⟩)
    | _ => cases hr
  | lst xs =>
    cases e2 with
    | int i =>
      refine .inl (go _ fun H2 Z2 ι2 s2 x y R hb r1 r2 hq => ?_)
      obtain ⟨p, vs, rfl, h1, q1⟩ := r1.lst
      obtain ⟨v, h2, h3⟩ := at_rel q1 (show atI xs i = some d from hr)
      exact .inl ⟨p, vs, i, v, rfl, r2.int, .inl (.inl h1), h2, hq _ _ (Nxt.refl R) h3⟩
    | _ => cases hr
  | str x =>
    cases e2 with
    | int i =>
      have hr' : (if decide (x.length ≤ sizeLine) then (ixD x.cps.toList i).map fun c => D.str ⟨#[c]⟩ else none) = some d := hr
      split at hr'
      · rename_i hl
        obtain ⟨c, h1, h2⟩ := Option.map_eq_some_iff.mp hr'
        subst h2
        exact .inl (go _ fun H2 Z2 ι2 s2 y z R hb r1 r2 hq => .inr (.inr ⟨x, i, c, r1.str, r2.int, of_decide_eq_true hl, h1, hq _ _ (Nxt.refl R) (.str _)⟩))
      · cases hr'
    | _ => cases hr
  | dct ks =>
    obtain ⟨k, hk, hg⟩ := Option.bind_eq_some_iff.mp (show (keyD e2).bind (getD ks) = some d from hr)
    refine .inr (go (fun x y H Q => ∃ a v, x = .ref a ∧ DGet H a y (some v) ∧ Q v H) fun H2 Z2 ι2 s2 x y R hb r1 r2 hq => ?_)
    obtain ⟨p, kvs, rfl, hs, rr⟩ := r1.dct
    have e := key_rel r2 hk
    subst e
    rcases valV_rel rr k with ⟨_, e2⟩ | ⟨v, d', e1, e2, rv⟩
    · rw [hg] at e2; cases e2
    · rw [hg] at e2; cases e2
      exact ⟨p, v, rfl, .inl ⟨kvs, k, hs, rfl, e1.symm⟩, hq _ _ (Nxt.refl R) rv⟩
  | _ => cases e2 <;> cases hr
theorem pe_ixF (hu : X.A.units + 1 < cLine) (ha : PE X a (tE X.K f)) (hb : PE X b (tE X.K g)) (hs : PlainIx b) : PE X (.Subscript a b pos) (tE X.K (ixF f g)) :=
  PE.imp (PE.or (pe_ix ix_seq ha hb hs) (pe_dget hu ha hb hs)) fun σ H Q q => ix_split q
/-! ### slices -/
def tEB (K : PySem.W.Frag) (k : Fb) : TO := fun σ H Q => ∃ Z ι s o s', SR K H Z ι σ s ∧ k s = some (o, s') ∧ ∀ H' Z' ι', Nxt K σ H Z ι s H' Z' ι' s' → Q o H'
theorem PO.imp {e : Option Expr} {t t' : TO} (h : PO X e t) (i : ∀ σ H Q, t' σ H Q → t σ H Q) : PO X e t' := ⟨fun pins s σ H Q I q => h.run pins s σ H Q I (i σ H Q q)⟩
theorem po_F (ha : PE X a (tE X.K f)) : PO X (some a) (tEB X.K (toB f)) := by
  refine PO.imp (po_some ha) fun σ H Q ⟨Z, ι, s, o, s', R, hf, hq⟩ => ?_
  obtain ⟨⟨d1, t1, s1⟩, f1, hf⟩ := Option.bind_eq_some_iff.mp hf
  obtain ⟨i, hi, hf⟩ := Option.bind_eq_some_iff.mp hf
  have e := intD_some hi
  cases hf
  refine ⟨Z, ι, s, d1, t1, _, R, f1, fun x H1 Z1 ι1 N1 v1 => ⟨i, ?_, hq H1 Z1 ι1 N1⟩⟩
  have e' : d1 = .int i := e
  subst e'
  exact (vr_weak N1.sr v1).int
theorem po_nop : PO X none (tEB X.K fun s => some (none, s)) := by
  refine PO.imp po_none fun σ H Q ⟨Z, ι, s, o, s', R, hf, hq⟩ => ?_
  cases hf
  exact hq H Z ι (Nxt.refl R)
theorem cut_rel {vs : List V} {ds : List D} (r : Rels K H Z ι vs ds) (lo hi : Option Int) : Rels K H Z ι (cutV vs lo hi) (cutD ds lo hi) := by
  unfold cutV cutD
  rw [r.length]
  exact (r.drop _).take _
theorem cut_map {ns : List Int} (lo hi : Option Int) : cutV (ns.map V.int) lo hi = (cutD ns lo hi).map V.int := by
  unfold cutV cutD
  rw [List.length_map, List.map_take, List.map_drop]
def rSlAll (K : PySem.W.Frag) : V → Option Int → Option Int → Hp → VK → Prop := fun x lo hi H Q => rSlX K x lo hi H Q ∨ rSlL K x lo hi H Q
theorem whole_cut {α : Type} {xs : List α} {lo hi : Option Int} (h : HT.sIx xs.length 0 lo = 0 ∧ HT.sIx xs.length xs.length hi = xs.length) : cutD xs lo hi = xs := by
  unfold cutD
  rw [h.1, h.2]
  simp
theorem pe_slF {lo hi : Option Expr} {l h : Fb} {p2 : Pos} (ha : PE X a (tE X.K f)) (hl : PO X lo (tEB X.K l)) (hh : PO X hi (tEB X.K h)) : PE X (.Subscript a (.Slice lo hi none p2) pos) (tE X.K (slF f l h)) := by
  refine PE.imp (pe_slice (sl_tupX.or sl_list) ha hl hh) fun σ H Q ⟨Z, ι, s, d, tg, s', R, hf, hq⟩ => ?_
  obtain ⟨⟨d1, t1, s1⟩, f1, hf⟩ := Option.bind_eq_some_iff.mp hf
  obtain ⟨⟨o1, s2⟩, f2, hf⟩ := Option.bind_eq_some_iff.mp hf
  obtain ⟨⟨o2, s3⟩, f3, hf⟩ := Option.bind_eq_some_iff.mp hf
  obtain ⟨e1, w1, hf⟩ := Option.bind_eq_some_iff.mp hf
  obtain ⟨⟨d', tg'⟩, hk, hf⟩ := Option.map_eq_some_iff.mp hf
  cases hf
  refine ⟨Z, ι, s, d1, t1, s1, R, f1, fun x H1 Z1 ι1 N1 v1 => ⟨Z1, ι1, s1, o1, s2, N1.sr, f2, fun H2 Z2 ι2 N2 => ⟨Z2, ι2, s2, o2, s3, N2.sr, f3, fun H3 Z3 ι3 N3 => ?_⟩⟩⟩
  have M := Nxt.trans N1.sr N2 N3
  have N := Nxt.trans R N1 M
  have ww := wk_ok N1.sr v1 M w1
  show rSlX X.K x o1 o2 H3 Q ∨ rSlL X.K x o1 o2 H3 Q
  cases e1 with
  | tup xs =>
    cases hk
    obtain ⟨p, vs, rfl, h1, q1⟩ := ww.tupX
    refine .inl ⟨p, vs, rfl, h1.sq, fun e => ?_, fun _ p o hp ho => ?_⟩
    · rw [q1.length] at e
      rw [whole_cut e] at hq
      exact hq _ _ _ _ N (.tup h1 q1)
    · obtain ⟨N4, vr⟩ := new_tup (H0 := H) M.sr hp ho (cut_rel q1 o1 o2)
      exact hq _ _ _ _ (Nxt.trans R N N4) vr
  | lst xs =>
    cases hk
    obtain ⟨p, vs, rfl, h1, q1⟩ := ww.lst
    refine .inr ⟨p, vs, rfl, .inl (.inl h1), fun p hp => ?_⟩
    obtain ⟨N4, vr⟩ := new_lst (H0 := H) M.sr N.dm hp (cut_rel q1 o1 o2)
    exact hq _ _ _ _ (Nxt.trans R N N4) vr
  | fzl ns =>
    cases hk
    obtain ⟨p, rfl, h1⟩ := ww.fzl
    refine .inr ⟨p, ns.map V.int, rfl, h1.sq, fun p hp => ?_⟩
    rw [cut_map]
    obtain ⟨N4, vr⟩ := new_lst (H0 := H) M.sr N.dm hp (rels_fzl (cutD ns o1 o2))
    exact hq _ _ _ _ (Nxt.trans R N N4) vr
  | _ => cases hk
/-! ### arguments, displays -/
theorem pa_nilF : PA X [] (tEA X.K fun s => some ([], s)) := by
  refine PA.imp pa_nil fun σ H Q ⟨Z, ι, s, ds, s', R, hf, hq⟩ => ?_
  cases hf
  exact hq [] H Z ι (Nxt.refl R) .nil
def consF (f : Fv) (k : Fa) : Fa := fun s => (hF f s).bind fun h => (k h.2).map fun r => (h.1 :: r.1, r.2)
theorem pa_consF {es : List Expr} {k : Fa} (ha : PE X a (tE X.K f)) (hr : PA X es (tEA X.K k)) (hs : starEach (a :: es) X.env = (false, eval a X.env) :: starEach es X.env) : PA X (a :: es) (tEA X.K (consF f k)) := by
  refine PA.imp (pa_cons ha hr hs) fun σ H Q ⟨Z, ι, s, ds, s', R, hf, hq⟩ => ?_
  obtain ⟨⟨d1, s2⟩, f1, hf⟩ := Option.bind_eq_some_iff.mp hf
  obtain ⟨⟨d0, t0, s1⟩, f0, f1⟩ := Option.bind_eq_some_iff.mp f1
  obtain ⟨⟨ds2, s3⟩, f2, hf⟩ := Option.map_eq_some_iff.mp hf
  cases hf
  refine ⟨Z, ι, s, d0, t0, s1, R, f0, fun x H1 Z1 ι1 N1 v1 => ?_⟩
  obtain ⟨Z2, N2, r2, _⟩ := hold_ok R N1 v1 (Nxt.refl N1.sr) f1
  refine ⟨Z2, ι1, s2, ds2, s3, N2.sr, f2, fun xs H3 Z3 ι3 N3 r3 => ?_⟩
  exact hq _ H3 Z3 ι3 (Nxt.trans R N2 N3) (.cons (Rel.mono (N3.kp N2.sr) r2) r3)
theorem sized_le {xs : List D} (h : sized xs = true) : xs.length ≤ sizeLine := of_decide_eq_true h
theorem pe_tupF {es : List Expr} {k : Fa} {x1 : Nat} (ha : PA X es (tEA X.K k)) : PE X (.Tuple es x1 pos) (tE X.K (tupF k)) := by
  refine PE.imp (pe_tupX ha) fun σ H Q ⟨Z, ι, s, d, tg, s', R, hf, hq⟩ => ?_
  obtain ⟨⟨ds, s1⟩, f1, hf⟩ := Option.bind_eq_some_iff.mp hf
  have hf' : (if sized ds then some (D.tup ds, Tg.st, s1) else none) = some (d, tg, s') := hf
  split at hf'
  · rename_i hz
    cases hf'
    refine ⟨Z, ι, s, ds, _, R, f1, fun vs H1 Z1 ι1 N1 r1 => ⟨by rw [r1.length]; exact sized_le hz, fun p o hp ho => ?_⟩⟩
    obtain ⟨N2, vr⟩ := new_tup (H0 := H) N1.sr hp ho r1
    exact hq _ _ _ _ (Nxt.trans R N1 N2) vr
  · cases hf'
theorem pe_lstF {es : List Expr} {k : Fa} (ha : PA X es (tEA X.K k)) : PE X (.List es pos) (tE X.K (lstF k)) := by
  refine PE.imp (pe_lst ha) fun σ H Q ⟨Z, ι, s, d, tg, s', R, hf, hq⟩ => ?_
  obtain ⟨⟨ds, s1⟩, f1, hf⟩ := Option.bind_eq_some_iff.mp hf
  have hf' : (if sized ds then some (D.lst ds, Tg.fr, s1) else none) = some (d, tg, s') := hf
  split at hf'
  · rename_i hz
    cases hf'
    refine ⟨Z, ι, s, ds, _, R, f1, fun vs H1 Z1 ι1 N1 r1 => ⟨by rw [r1.length]; exact sized_le hz, fun p hp => ?_⟩⟩
    obtain ⟨N2, vr⟩ := new_lst (H0 := H) N1.sr N1.dm hp r1
    exact hq _ _ _ _ (Nxt.trans R N1 N2) vr
  · cases hf'
theorem pe_dnilF : PE X (.Dict [] [] pos) (tE X.K dnilF) := by
  refine PE.imp pe_dnewK fun σ H Q ⟨Z, ι, s, d, tg, s', R, hf, hq⟩ p hp => ?_
  cases hf
  obtain ⟨N2, vr⟩ := new_dct (H0 := H) (ds := []) R (fun _ h => h) hp .nil
  exact hq _ _ _ _ N2 vr
/-- a list becomes a mutable object -/
theorem SR.obj {p : Addr} {vs : List V} {ds : List D} (R : SR K H Z ι σ s) (hp : H p = none) (r : Rels K H Z ι vs ds) :
    Nxt K σ H Z ι s (upd H p (.lst vs)) Z (ι ++ [p]) { s with mh := s.mh ++ [ds] } := by
  have R1 := R.ext (ext_upd (o := .lst vs) hp)
  have ip : ∀ (n : Nat) a, ι[n]? = some a → (ι ++ [p])[n]? = some a := fun n a e => by
    rw [List.getElem?_append_left (List.getElem?_eq_some_iff.mp e).1]; exact e
  have k : Kp K (upd H p (.lst vs)) Z ι (upd H p (.lst vs)) Z (ι ++ [p]) := ⟨fun _ _ h => h, fun _ _ h => h, fun _ z => z, fun _ _ _ h => h, fun _ _ _ h => h, ip⟩
  have k0 : Kp K H Z ι (upd H p (.lst vs)) Z ι := kp_ext (ext_upd hp)
  have pn : p ∉ ι := fun hm => R.wrSome (.inl hm) hp
  refine ⟨⟨R1.len, fun i d e => let ⟨v, h1, q⟩ := R1.st i d e; ⟨v, h1, q.mono k⟩, fun i d e => ?_, R1.ap, by simp [R.il], fun n a es e1 e2 => ?_, ?_, R1.zd⟩,
    fun a o e _ => ext_upd hp a o e, fun _ z => z, fun _ z => .inl z, fun a w => ?_, fun a h => ?_, ip⟩
  · obtain ⟨a, h1, t, z, n⟩ := R1.ow i d e
    refine ⟨a, h1, t.mono k fun _ _ _ h => h, z, fun hm => ?_⟩
    rcases List.mem_append.mp hm with hm | hm
    · exact n hm
    · have e2 : a = p := by simpa using hm
      subst e2
      exact R.wrSome (.inr ⟨i, d, e, h1⟩) hp
  · by_cases hn : n < ι.length
    · rw [List.getElem?_append_left hn] at e1
      rw [List.getElem?_append_left (by rw [← R.il]; exact hn)] at e2
      obtain ⟨z, ws, q, rr⟩ := R1.mh n a es e1 e2
      exact ⟨z, ws, q, rr.mono k⟩
    · have hn' : ι.length ≤ n := Nat.le_of_not_lt hn
      rw [List.getElem?_append_right hn'] at e1
      rw [List.getElem?_append_right (by rw [← R.il]; exact hn')] at e2
      have e0 : n - ι.length = 0 := by
        cases q : n - ι.length with
        | zero => rfl
        | succ m => rw [q] at e1; simp at e1
      rw [e0] at e1
      rw [← R.il, e0] at e2
      have ea : p = a := by simpa using e1
      have ed : ds = es := by simpa using e2
      subst ea ed
      exact ⟨fun z => R.zSome z hp, vs, upd_same, (r.mono k0).mono k⟩
  · rw [List.nodup_append]
    refine ⟨R.nd, by simp, fun a ha b hb => ?_⟩
    have e : b = p := by simpa using hb
    subst e
    exact fun e => pn (e ▸ ha)
  · rcases w with w | w
    · rcases List.mem_append.mp w with w | w
      · exact .inl (.inl w)
      · have e : a = p := by simpa using w
        subst e
        exact .inr hp
    · exact .inl (.inr w)
  · cases e : H a with
    | none => exact absurd e h
    | some o => rw [ext_upd hp a o e]; simp
theorem pe_newF {es : List Expr} {k : Fa} (ha : PA X es (tEA X.K k)) : PE X (.List es pos) (tE X.K (newF k)) := by
  refine PE.imp (pe_lst ha) fun σ H Q ⟨Z, ι, s, d, tg, s', R, hf, hq⟩ => ?_
  obtain ⟨⟨ds, s1⟩, f1, hf⟩ := Option.bind_eq_some_iff.mp hf
  have hf' : (if sized ds then some (D.ref s1.mh.length, Tg.st, { s1 with mh := s1.mh ++ [ds] }) else none) = some (d, tg, s') := hf
  split at hf'
  · rename_i hz
    cases hf'
    refine ⟨Z, ι, s, ds, _, R, f1, fun vs H1 Z1 ι1 N1 r1 => ⟨by rw [r1.length]; exact sized_le hz, fun p hp => ?_⟩⟩
    refine hq _ _ _ _ (Nxt.trans R N1 (N1.sr.obj hp r1)) (.ref ?_)
    rw [← N1.sr.il, List.getElem?_append_right (Nat.le_refl _)]
    simp
  · cases hf'
end
end E3
set_option Elab.async false
set_option linter.all false
set_option maxRecDepth 100000
set_option maxHeartbeats 1000000
/-! Rules: built-ins, isinstance, calls of defs, pop. -/
namespace E3
open PySem PySem.Spec PyProof.Rows L2
section
variable {X : Cx} {a b c : Expr} {f g h : Fv} {pos p : Pos}
variable {K : PySem.W.Frag} {H H' H0 H1 H2 : Hp} {Z Z' Z0 Z1 Z2 : Addr → Prop} {ι ι' ι0 ι1 ι2 : List Addr} {σ : St} {s s' s0 s1 s2 s3 : S} {v : V} {d e : D} {tg : Tg}
/-- a call of a built-in with one value -/
theorem call1_of {r : List V → Hp → VK → Prop} {k : D → Option (D × Tg)} {Q : VK} (V1 : Val1 K (fun x H Q => r [x] H Q) k) (q : tE K (op1F k f) σ H Q) : tCB r (tCons (tE K f) tNil) σ H Q :=
  op1 V1 q
theorem pe_b1 {x : Str} {id : String} {r : List V → Hp → VK → Prop} {k : D → Option (D × Tg)} (hc : CallR X (.builtin id) r) (hg : Gl X x) (hm : X.mg x = none) (hv : bootBuiltins x = some (.builtin id)) (ha : PE X a (tE X.K f))
    (V1 : Val1 X.K (fun x H Q => r [x] H Q) k) (hn : x ≠ "__name__") (hdb : (x == ("__debug__" : Str)) = false) (he : starEach [a] X.env = (false, eval a X.env) :: starEach [] X.env) : PE X (.Call (.Name x p) [a] [] pos) (tE X.K (op1F k f)) :=
  PE.imp (pe_callB hc hg hm hv (pa_cons ha pa_nil he) hn hdb he rfl) fun σ H Q q => call1_of V1 q
theorem pe_t1 {x : Str} {T : String} {r : List V → Hp → VK → Prop} {k : D → Option (D × Tg)} (hc : CallR X (.type T) r) (hg : Gl X x) (hm : X.mg x = none) (hv : bootBuiltins x = some (.type T)) (ha : PE X a (tE X.K f))
    (V1 : Val1 X.K (fun x H Q => r [x] H Q) k) (hn : x ≠ "__name__") (hdb : (x == ("__debug__" : Str)) = false) (he : starEach [a] X.env = (false, eval a X.env) :: starEach [] X.env) : PE X (.Call (.Name x p) [a] [] pos) (tE X.K (op1F k f)) :=
  PE.imp (pe_callTy hc hg hm hv (pa_cons ha pa_nil he) hn hdb he rfl) fun σ H Q q => call1_of V1 q
/-! ### len -/
theorem call_lenK : CallR X (.builtin "len") (fun xs H Q => ∃ a kvs, xs = [V.ref a] ∧ Rd H a (.dK kvs) ∧ Q (.int kvs.length) H) := by
  intro pins s σ H xs us Q I r h
  obtain ⟨a, kvs, rfl, ha, q⟩ := h
  obtain ⟨u, rfl, ru⟩ := vals1 r
  cases ru
  exact d_len I ha fun t s' I' => ⟨.int kvs.length, H, I', ⟨t, rfl⟩, q⟩
def rLen (K : PySem.W.Frag) : List V → Hp → VK → Prop := fun xs H Q => (∃ p ys, xs = [.ref p] ∧ (SqL K H p ys ∨ SqT K H p ys) ∧ Q (.int ys.length) H) ∨ (∃ z, xs = [.str z] ∧ z.length ≤ sizeLine ∧ Q (.int z.length) H) ∨
  ∃ a kvs, xs = [V.ref a] ∧ Rd H a (.dK kvs) ∧ Q (.int kvs.length) H
theorem call_lenA : CallR X (.builtin "len") (rLen X.K) := call_len_seq.or (call_len_str.or call_lenK)
theorem v1_len : Val1 K (fun x H Q => rLen K [x] H Q) (b1D .len) := by
  intro H0 H Z ι σ s x a d tg Q R hb r1 hk hq
  cases a with
  | tup xs =>
    cases hk
    obtain ⟨p, vs, rfl, h1, q1⟩ := r1.tup
    exact .inl ⟨p, vs, rfl, .inr h1, by rw [q1.length]; exact hq _ _ (Nxt.refl R) (.int _)⟩
  | lst xs =>
    cases hk
    obtain ⟨p, vs, rfl, h1, q1⟩ := r1.lst
    exact .inl ⟨p, vs, rfl, .inl (.inl (.inl h1)), by rw [q1.length]; exact hq _ _ (Nxt.refl R) (.int _)⟩
  | dct xs =>
    cases hk
    obtain ⟨p, vs, rfl, h1, q1⟩ := r1.dct
    exact .inr (.inr ⟨p, vs, rfl, h1, by rw [q1.length]; exact hq _ _ (Nxt.refl R) (.int _)⟩)
  | str x =>
    have hk' : (if decide (x.length ≤ sizeLine) then some (D.int x.length, Tg.st) else none) = some (d, tg) := hk
    split at hk'
    · rename_i hl
      cases hk'
      exact .inr (.inl ⟨x, by rw [r1.str], of_decide_eq_true hl, hq _ _ (Nxt.refl R) (.int _)⟩)
    · cases hk'
  | _ => cases hk
/-! ### all, any -/
theorem bools_rel : ∀ {vs : List V} {ds : List D} {bs : List Bool}, Rels K H Z ι vs ds → bools ds = some bs → vs = bs.map V.bl
  | _, _, _, .nil, h => by cases h; rfl
  | _, _, _, .cons (d := d) (ds := ds) r t, h => by
    cases d with
    | bl b =>
      obtain ⟨cs, h1, h2⟩ := Option.map_eq_some_iff.mp (show (bools ds).map (b :: ·) = some _ from h)
      subst h2
      rw [bools_rel t h1, RelW.bl (.inl r)]
      rfl
    | _ => cases h
theorem v1_all : Val1 K (fun x H Q => rAll K [x] H Q) (b1D .all) := by
  intro H0 H Z ι σ s x a d tg Q R hb r1 hk hq
  cases a with
  | lst xs =>
    obtain ⟨bs, h1, h2⟩ := Option.map_eq_some_iff.mp (show (bools xs).map (fun bs => (D.bl (bs.all id), Tg.st)) = some (d, tg) from hk)
    cases h2
    obtain ⟨p, vs, rfl, h3, q1⟩ := r1.lst
    exact ⟨p, bs, rfl, .inl (.inl (by rw [← bools_rel q1 h1]; exact h3)), hq _ _ (Nxt.refl R) (.bl _)⟩
  | _ => cases hk
theorem v1_any : Val1 K (fun x H Q => rAny K [x] H Q) (b1D .any) := by
  intro H0 H Z ι σ s x a d tg Q R hb r1 hk hq
  cases a with
  | lst xs =>
    obtain ⟨bs, h1, h2⟩ := Option.map_eq_some_iff.mp (show (bools xs).map (fun bs => (D.bl (bs.any id), Tg.st)) = some (d, tg) from hk)
    cases h2
    obtain ⟨p, vs, rfl, h3, q1⟩ := r1.lst
    exact ⟨p, bs, rfl, .inl (.inl (by rw [← bools_rel q1 h1]; exact h3)), hq _ _ (Nxt.refl R) (.bl _)⟩
  | _ => cases hk
/-! ### tuple, list, dict, int -/
theorem v1_tuple : Val1 K (fun x H Q => ∃ p ys, [x] = [V.ref p] ∧ ((SqL K H p ys ∧ ∀ l o, H l = none → o.dict = none → Q (.ref l) (upd H l (.frz o (.tup ys)))) ∨ (SqT K H p ys ∧ Q (.ref p) H))) (b1D .tuple) := by
  intro H0 H Z ι σ s x a d tg Q R hb r1 hk hq
  cases a with
  | lst xs =>
    cases hk
    obtain ⟨p, vs, rfl, h3, q1⟩ := r1.lst
    refine ⟨p, vs, rfl, .inl ⟨.inl (.inl h3), fun l o hl ho => ?_⟩⟩
    obtain ⟨N, vr⟩ := new_tup (H0 := H0) R hl ho q1
    exact hq _ _ N vr
  | tup xs =>
    cases hk
    obtain ⟨p, vs, rfl, h3, q1⟩ := r1.tupX
    exact ⟨p, vs, rfl, .inr ⟨h3.sq, hq _ _ (Nxt.refl R) (.tup h3 q1)⟩⟩
  | _ => cases hk
theorem call_list_K (hc : X.calm = true) : CallR X (.type "list") (fun xs H Q => ∃ p kvs, xs = [.ref p] ∧ Rd H p (.dK kvs) ∧ ∀ q, H q = none → Q (.ref q) (upd H q (.lst (kvs.map fun kv => kV kv.1)))) := by
  intro pins s σ H xs us Q I r h
  obtain ⟨p, kvs, e, hk, q⟩ := h
  subst e
  obtain ⟨u, eu, rx⟩ := vals1 r
  subst eu
  obtain rfl : u = Value.ref p := rx
  obtain ⟨z, lo, vs, rk, hd⟩ := dk_rd I.hok hk
  obtain ⟨ep, hat⟩ := hd.dictAt
  have hl : kvs.length = vs.length := Paired.length rk
  refine PySem.W.kdl_call (PySem.W.kdl_dict (knd := mixKind X.prog X.w) (kvs := vs) (ep := ep) lo) (I.ok.hd hc) hat (by rw [← hl]; exact z) fun h' tk acc' c' hkeep hS hacc => ?_
  refine ⟨.ref s.heap.objs.size, upd H s.heap.objs.size (.lst (kvs.map fun kv => kV kv.1)), I.laid hkeep (Nat.le_refl _) (show ObjOk X.prog X.w _ _ _ (.lst (kvs.map fun kv => kV kv.1)) from ⟨?_, acc'.toList, c', ?_, ?_⟩), rfl, q _ (I.hok.fresh (Nat.le_refl _))⟩
  · rw [List.length_map]; exact z
  · have el : acc'.toList.length = acc'.size := by simp
    refine vals_of_at (by rw [List.length_map, el, hacc.1, hl]) fun j x w h1 h2 => ?_
    obtain ⟨k, y, hky, hi⟩ := hacc.2 j w (by rw [← Array.getElem?_toList]; exact h2)
    have e1 : (kvs.map (·.1))[j]? = some k := by
      rw [KV.keys rk, List.getElem?_map, hky] <;> rfl
    have e2 : (kvs.map fun kv => kV kv.1)[j]? = some (kV k) := by
      have e3 : (kvs.map fun kv => kV kv.1) = (kvs.map (·.1)).map kV := by rw [List.map_map] <;> rfl
      rw [e3, List.getElem?_map, e1] <;> rfl
    rw [e2] at h1
    cases h1
    exact keyIs_rel hi
  · rw [Array.toArray_toList]; exact hS
def rListA (K : PySem.W.Frag) : List V → Hp → VK → Prop := fun xs H Q => (∃ p ys, xs = [.ref p] ∧ (SqL K H p ys ∨ SqT K H p ys) ∧ ∀ l, H l = none → Q (.ref l) (upd H l (.lst ys))) ∨
  ∃ p kvs, xs = [.ref p] ∧ Rd H p (.dK kvs) ∧ ∀ q, H q = none → Q (.ref q) (upd H q (.lst (kvs.map fun kv => kV kv.1)))
theorem keys_rel : ∀ {kvs : List (Key × V)} {ks : List (Key × D)}, RelK K H Z ι kvs ks → Rels K H Z ι (kvs.map fun kv => kV kv.1) (ks.map fun k => dKey k.1)
  | _, _, .nil => .nil
  | _, _, .cons (k := k) r t => .cons (by cases k with | inl i => exact .int i | inr x => exact .str x) (keys_rel t)
theorem v1_list : Val1 K (fun x H Q => rListA K [x] H Q) (b1D .list) := by
  intro H0 H Z ι σ s x a d tg Q R hb r1 hk hq
  cases a with
  | lst xs =>
    cases hk
    obtain ⟨p, vs, rfl, h3, q1⟩ := r1.lst
    refine .inl ⟨p, vs, rfl, .inl (.inl (.inl h3)), fun l hl => ?_⟩
    obtain ⟨N, vr⟩ := new_lst (H0 := H0) R hb hl q1
    exact hq _ _ N vr
  | tup xs =>
    cases hk
    obtain ⟨p, vs, rfl, h3, q1⟩ := r1.tup
    refine .inl ⟨p, vs, rfl, .inr h3, fun l hl => ?_⟩
    obtain ⟨N, vr⟩ := new_lst (H0 := H0) R hb hl q1
    exact hq _ _ N vr
  | fzl ns =>
    cases hk
    obtain ⟨p, rfl, h3⟩ := r1.fzl
    refine .inl ⟨p, _, rfl, .inl h3.sq, fun l hl => ?_⟩
    obtain ⟨N, vr⟩ := new_lst (H0 := H0) R hb hl (rels_fzl ns)
    exact hq _ _ N vr
  | dct ks =>
    cases hk
    obtain ⟨p, kvs, rfl, h3, q1⟩ := r1.dct
    refine .inr ⟨p, kvs, rfl, h3, fun l hl => ?_⟩
    obtain ⟨N, vr⟩ := new_lst (H0 := H0) R hb hl (keys_rel q1)
    exact hq _ _ N vr
  | _ => cases hk
theorem pairs_rel : ∀ {vs : List V} {ds : List D} {ks : List (Key × D)}, Rels K H Z ι vs ds → pairsD ds = some ks → ∃ (ps : List Addr) (kvs : List (Key × V)), vs = ps.map V.ref ∧ Paired (fun p kv => SqT K H p [kV kv.1, kv.2]) ps kvs ∧ RelK K H Z ι kvs ks
  | _, _, _, .nil, h => by cases h; exact ⟨[], [], rfl, .nil, .nil⟩
  | _, _, _, .cons (d := d) (ds := ds) r t, h => by
    cases d with
    | tup xs =>
      match xs, r, h with
      | [k, d], r, h =>
        have h' : (match keyD k, pairsD ds with | some k, some r => some ((k, d) :: r) | _, _ => none) = some _ := h
        split at h'
        · rename_i k' r' hk hr
          cases h'
          obtain ⟨ps, kvs, e, p, rr⟩ := pairs_rel t hr
          obtain ⟨a, ws, ev, hs, q⟩ := RelW.tup (.inl r)
          subst ev
          cases q with
          | cons q1 q =>
            cases q with
            | cons q2 q =>
              cases q
              have ek := key_rel (.inl q1) hk
              subst ek
              exact ⟨a :: ps, (k', _) :: kvs, by rw [e]; rfl, .cons hs p, .cons q2 rr⟩
        · cases h'
      | [], _, h => cases h
      | [_], _, h => cases h
      | _ :: _ :: _ :: _, _, h => cases h
    | _ => cases h
theorem putK_rel {kvs : List (Key × V)} {ks : List (Key × D)} (r : RelK K H Z ι kvs ks) (k : Key) {v : V} {d : D} (rv : Rel K H Z ι v d) : RelK K H Z ι (putK kvs k v) (putD ks k d) := by
  have an : ∀ {kvs : List (Key × V)} {ks : List (Key × D)}, RelK K H Z ι kvs ks → (kvs.any fun kv => decide (kv.1 = k)) = ks.any fun kv => decide (kv.1 = k) := by
    intro kvs ks r
    induction ks generalizing kvs with
    | nil => cases r; rfl
    | cons p ks ih => cases r with | cons r t => rw [List.any_cons, List.any_cons, ih t]
  have mp : ∀ {kvs : List (Key × V)} {ks : List (Key × D)}, RelK K H Z ι kvs ks → RelK K H Z ι (kvs.map fun kv => if kv.1 = k then (kv.1, v) else kv) (ks.map fun kv => if kv.1 = k then (kv.1, d) else kv) := by
    intro kvs ks r
    induction ks generalizing kvs with
    | nil => cases r; exact .nil
    | cons p ks ih =>
      cases r with
      | @cons k' _ _ _ _ r t =>
        rw [List.map_cons, List.map_cons]
        by_cases h : k' = k
        · simp only [h, if_true]; exact .cons rv (ih t)
        · simp only [h, if_false]; exact .cons r (ih t)
  have ap : ∀ {kvs : List (Key × V)} {ks : List (Key × D)}, RelK K H Z ι kvs ks → RelK K H Z ι (kvs ++ [(k, v)]) (ks ++ [(k, d)]) := by
    intro kvs ks r
    induction ks generalizing kvs with
    | nil => cases r; exact .cons rv .nil
    | cons p ks ih => cases r with | cons r t => exact .cons r (ih t)
  unfold putK putD
  rw [an r]
  split
  · exact mp r
  · exact ap r
theorem merge_rel : ∀ {kvs : List (Key × V)} {ks : List (Key × D)} {ac : List (Key × V)} {as : List (Key × D)}, RelK K H Z ι kvs ks → RelK K H Z ι ac as → RelK K H Z ι (mergeK ac kvs) (ks.foldl (fun a k => putD a k.1 k.2) as)
  | _, _, _, _, .nil, r => r
  | (k, v) :: kvs, (_, d) :: ks, ac, as, .cons r t, q => merge_rel (kvs := kvs) (ks := ks) (ac := putK ac k v) (as := putD as k d) t (putK_rel q k r)
theorem v1_dict : Val1 K (fun x H Q => ∃ (a : Addr) (ps : List Addr) (kvs : List (Key × V)), [x] = [V.ref a] ∧ SqL K H a (ps.map V.ref) ∧ Paired (fun p kv => SqT K H p [kV kv.1, kv.2]) ps kvs ∧
    ∀ p, H p = none → Q (.ref p) (upd H p (.dK (mergeK [] kvs)))) (fun d => match d with | .lst xs => b1D .dict (.lst xs) | _ => none) := by
  intro H0 H Z ι σ s x a d tg Q R hb r1 hk hq
  cases a with
  | lst xs =>
    obtain ⟨ks, h1, h2⟩ := Option.map_eq_some_iff.mp (show (pairsD xs).map (fun ks => (D.dct (ks.foldl (fun a k => putD a k.1 k.2) []), Tg.fr)) = some (d, tg) from hk)
    cases h2
    obtain ⟨p, vs, rfl, h3, q1⟩ := r1.lst
    obtain ⟨ps, kvs, rfl, pp, rr⟩ := pairs_rel q1 h1
    refine ⟨p, ps, kvs, rfl, .inl (.inl h3), pp, fun l hl => ?_⟩
    obtain ⟨N, vr⟩ := new_dct (H0 := H0) R hb hl (merge_rel rr .nil)
    exact hq _ _ N vr
  | _ => cases hk
theorem v1_int : Val1 K (fun x H Q => (∃ i, [x] = [V.int i] ∧ Q (.int i) H) ∨ ∃ k, [x] = [V.bl k] ∧ Q (.int (if k then 1 else 0)) H) (b1D .int) := by
  intro H0 H Z ι σ s x a d tg Q R hb r1 hk hq
  cases a with
  | int i => cases hk; exact .inl ⟨i, by rw [r1.int], hq _ _ (Nxt.refl R) (.int _)⟩
  | _ => cases hk
/-! ### min, max -/
theorem ints_rel : ∀ {vs : List V} {ds : List D} {bs : List Int}, Rels K H Z ι vs ds → intsD ds = some bs → vs = bs.map V.int
  | _, _, _, .nil, h => by cases h; rfl
  | _, _, _, .cons (d := d) (ds := ds) r t, h => by
    cases d with
    | int b =>
      obtain ⟨cs, h1, h2⟩ := Option.map_eq_some_iff.mp (show (intsD ds).map (b :: ·) = some _ from h)
      subst h2
      rw [ints_rel t h1, RelW.int (.inl r)]
      rfl
    | _ => cases h
theorem minL_ok : ∀ {x : Int} {r : List Int}, minL (x :: r) ∈ x :: r ∧ ∀ y ∈ x :: r, minL (x :: r) ≤ y
  | x, [] => ⟨List.mem_cons_self, fun y hy => by have : y = x := by simpa using hy
                                                 subst this; exact Int.le_refl _⟩
  | x, y :: r => by
    obtain ⟨h1, h2⟩ := minL_ok (x := y) (r := r)
    have e : minL (x :: y :: r) = if minL (y :: r) < x then minL (y :: r) else x := rfl
    rw [e]
    split
    · exact ⟨List.mem_cons_of_mem _ h1, fun z hz => by
        rcases List.mem_cons.mp hz with rfl | hz
        · omega
        · exact h2 z hz⟩
    · exact ⟨List.mem_cons_self, fun z hz => by
        rcases List.mem_cons.mp hz with rfl | hz
        · omega
        · have := h2 z hz; omega⟩
theorem maxL_ok : ∀ {x : Int} {r : List Int}, maxL (x :: r) ∈ x :: r ∧ ∀ y ∈ x :: r, y ≤ maxL (x :: r)
  | x, [] => ⟨List.mem_cons_self, fun y hy => by have : y = x := by simpa using hy
                                                 subst this; exact Int.le_refl _⟩
  | x, y :: r => by
    obtain ⟨h1, h2⟩ := maxL_ok (x := y) (r := r)
    have e : maxL (x :: y :: r) = if x < maxL (y :: r) then maxL (y :: r) else x := rfl
    rw [e]
    split
    · exact ⟨List.mem_cons_of_mem _ h1, fun z hz => by
        rcases List.mem_cons.mp hz with rfl | hz
        · omega
        · exact h2 z hz⟩
    · exact ⟨List.mem_cons_self, fun z hz => by
        rcases List.mem_cons.mp hz with rfl | hz
        · omega
        · have := h2 z hz; omega⟩
theorem v1_min : Val1 K (fun x H Q => rMin K [x] H Q) (b1D .min1) := by
  intro H0 H Z ι σ s x a d tg Q R hb r1 hk hq
  cases a with
  | lst xs =>
    have hk' : (match intsD xs with | some (x :: r) => some (D.int (minL (x :: r)), Tg.st) | _ => none) = some (d, tg) := hk
    split at hk'
    · rename_i y r h1
      cases hk'
      obtain ⟨p, vs, rfl, h3, q1⟩ := r1.lst
      refine ⟨p, y :: r, rfl, .inl (.inl (by rw [← ints_rel q1 h1]; exact h3)), by simp, fun m hm hle => ?_⟩
      obtain ⟨m1, m2⟩ := minL_ok (x := y) (r := r)
      have : m = minL (y :: r) := Int.le_antisymm (hle _ m1) (m2 m hm)
      rw [this]
      exact hq _ _ (Nxt.refl R) (.int _)
    · cases hk'
  | _ => cases hk
theorem v1_max : Val1 K (fun x H Q => rMax K [x] H Q) (b1D .max1) := by
  intro H0 H Z ι σ s x a d tg Q R hb r1 hk hq
  cases a with
  | lst xs =>
    have hk' : (match intsD xs with | some (x :: r) => some (D.int (maxL (x :: r)), Tg.st) | _ => none) = some (d, tg) := hk
    split at hk'
    · rename_i y r h1
      cases hk'
      obtain ⟨p, vs, rfl, h3, q1⟩ := r1.lst
      refine ⟨p, y :: r, rfl, .inl (.inl (by rw [← ints_rel q1 h1]; exact h3)), by simp, fun m hm hle => ?_⟩
      obtain ⟨m1, m2⟩ := maxL_ok (x := y) (r := r)
      have : m = maxL (y :: r) := Int.le_antisymm (m2 m hm) (hle _ m1)
      rw [this]
      exact hq _ _ (Nxt.refl R) (.int _)
    · cases hk'
  | _ => cases hk
theorem pe_ii2F {x : Str} {id : String} {h : Int → Int → Int} (hc : CallR X (.builtin id) (fun xs H Q => ∃ i j, xs = [.int i, .int j] ∧ Q (.int (h i j)) H)) (hg : Gl X x) (hm : X.mg x = none) (hv : bootBuiltins x = some (.builtin id))
    (ha : PE X a (tE X.K f)) (hb : PE X b (tE X.K g)) (hn : x ≠ "__name__") (hdb : (x == ("__debug__" : Str)) = false) (he : starEach [a, b] X.env = (false, eval a X.env) :: starEach [b] X.env) (he2 : starEach [b] X.env = (false, eval b X.env) :: starEach [] X.env) :
    PE X (.Call (.Name x p) [a, b] [] pos) (tE X.K (ii2F h f g)) := by
  refine PE.imp (pe_callB hc hg hm hv (pa_cons ha (pa_cons hb pa_nil he2) he) hn hdb he (by rw [he2]; rfl)) fun σ H Q q => ?_
  refine op2 (r := fun x y H Q => ∃ i j, [x, y] = [V.int i, .int j] ∧ Q (.int (h i j)) H) ?_ q
  intro H0 H Z ι σ s x y a b d tg Q R hb r1 r2 hk hq
  obtain ⟨i, hi, hk⟩ := Option.bind_eq_some_iff.mp hk
  obtain ⟨j, hj, hk⟩ := Option.bind_eq_some_iff.mp hk
  cases hk
  have ei := intD_some hi
  have ej := intD_some hj
  subst ei ej
  exact ⟨i, j, by rw [r1.int, r2.int], hq _ _ (Nxt.refl R) (.int _)⟩
/-! ### isinstance -/
def tyName : Ty → String
  | .int => "int"
  | .bool => "bool"
  | .str => "str"
  | .tuple => "tuple"
  | .list => "list"
def tyOf : D → Option String
  | .non => some "NoneType"
  | .bl _ => some "bool"
  | .int _ => some "int"
  | .str _ => some "str"
  | .tup _ => some "tuple"
  | .lst _ => some "list"
  | .dct _ => some "dict"
  | _ => none
theorem tyX_rel {x : V} {a : D} {n : String} (r : RelW K H Z ι x a) (h : tyOf a = some n) : TyX K H x (.type n) := by
  cases a with
  | non => cases h; rw [r.non]; exact .base .non
  | bl b => cases h; rw [r.bl]; exact .base (.bl _)
  | int b => cases h; rw [r.int]; exact .base (.int _)
  | str b => cases h; rw [r.str]; exact .base (.str _)
  | tup xs =>
    cases h
    obtain ⟨p, vs, rfl, h3, _⟩ := r.tup
    rcases h3 with (h3 | ⟨o, h3⟩) | ⟨o, its, n, h3, hc, _⟩
    · exact .base (.tup h3)
    · exact .fTuple h3
    · exact .kTuple h3 hc
  | lst xs =>
    cases h
    obtain ⟨p, vs, rfl, h3, _⟩ := r.lst
    exact .base (.lst h3)
  | dct ks =>
    cases h
    obtain ⟨p, vs, rfl, h3, _⟩ := r.dct
    rcases h3 with h3 | ⟨o, h3⟩
    · exact .base (.dK h3)
    · exact .fDict h3
  | _ => cases h
theorem kit_all : (["NoneType", "bool", "int", "str", "tuple", "list", "dict"].all fun n => [Ty.int, .bool, .str, .tuple, .list].all fun t =>
    decide (kitB n (tyName t) = some (n == tyName t || (n == "bool" && tyName t == "int")))) = true := by decide +kernel
theorem kit_rel {n : String} {t : Ty} (h : n ∈ ["NoneType", "bool", "int", "str", "tuple", "list", "dict"]) : kitB n (tyName t) = some (n == tyName t || (n == "bool" && tyName t == "int")) := by
  have h1 := List.all_eq_true.mp kit_all n h
  exact of_decide_eq_true (List.all_eq_true.mp h1 t (by cases t <;> simp))
theorem tyD_rel {t : Ty} {a : D} {r : Bool} (h : tyD t a = some r) : ∃ n, tyOf a = some n ∧ n ∈ ["NoneType", "bool", "int", "str", "tuple", "list", "dict"] ∧ r = (n == tyName t || (n == "bool" && tyName t == "int")) := by
  cases a <;> cases t <;> first | (cases h; done) | (cases h; exact ⟨_, rfl, by decide, by decide⟩)
theorem v1_isi {t : Ty} : Val1 K (fun x H Q => rIsi K [x, .ty (tyName t)] H Q) (fun d => (tyD t d).map blT) := by
  intro H0 H Z ι σ s x a d tg Q R hb r1 hk hq
  obtain ⟨r, hr, e⟩ := Option.map_eq_some_iff.mp hk
  cases e
  obtain ⟨n, h1, h2, rfl⟩ := tyD_rel hr
  exact ⟨x, .ty (tyName t), .type n, .type (tyName t), _, rfl, .ty _, tyX_rel r1 h1, kit_ty (kit_rel h2), hq _ _ (Nxt.refl R) (.bl _)⟩
theorem boot_ty (t : Ty) : bootBuiltins (Str.ofString (tyName t)) = some (.type (tyName t)) := by cases t <;> decide +kernel
theorem nty (t : Ty) : Str.ofString (tyName t) ≠ "__name__" := by cases t <;> decide +kernel
theorem ndty (t : Ty) : ((Str.ofString (tyName t)) == ("__debug__" : Str)) = false := by cases t <;> decide +kernel
theorem pe_isiF {t : Ty} {p2 : Pos} (hg : Gl X "isinstance") (hm : X.mg "isinstance" = none) (hg2 : Gl X (Str.ofString (tyName t))) (hm2 : X.mg (Str.ofString (tyName t)) = none) (ha : PE X a (tE X.K f))
    (he : starEach [a, .Name (Str.ofString (tyName t)) p2] X.env = (false, eval a X.env) :: starEach [.Name (Str.ofString (tyName t)) p2] X.env) :
    PE X (.Call (.Name "isinstance" p) [a, .Name (Str.ofString (tyName t)) p2] [] pos) (tE X.K (isiF t f)) := by
  have hb : PE X (.Name (Str.ofString (tyName t)) p2) (tC (.ty (tyName t))) := pe_bltn hg2 hm2 (boot_ty t) rfl (nty t) (ndty t)
  refine PE.imp (pe_callB call_isi hg hm boot_isinstance (pa_cons ha (pa_cons hb pa_nil rfl) he) (by decide) (by decide) he rfl) fun σ H Q q => ?_
  exact op1 v1_isi q
end
end E3
set_option Elab.async false
set_option linter.all false
set_option maxRecDepth 100000
set_option maxHeartbeats 1000000
/-! Rules: calls of defs, pop. -/
namespace E3
open PySem PySem.Spec PyProof.Rows L2
section
variable {X : Cx} {a b c : Expr} {f g h : Fv} {pos p : Pos}
variable {K : PySem.W.Frag} {H H' H0 H1 H2 : Hp} {Z Z' Z0 Z1 Z2 : Addr → Prop} {ι ι' ι0 ι1 ι2 : List Addr} {σ : St} {s s' s0 s1 s2 s3 : S} {v : V} {d e : D} {tg : Tg}
abbrev FnD := List D → List (List D) → Option (D × List (List D))
/-- a def's promise, from what it computes -/
def spF (K : PySem.W.Frag) (n : Nat) (h : FnD) : Sp := fun vs H Q _ => ∃ Z ι ds mh d mh', ds.length = n ∧ SR K H Z ι [] ⟨[], mh⟩ ∧ Rels K H Z ι vs ds ∧ h ds mh = some (d, mh') ∧
  ∀ v H' Z' ι', Nxt K [] H Z ι ⟨[], mh⟩ H' Z' ι' ⟨[], mh'⟩ → Rel K H' Z' ι' v d → Q v H'
/-- what is handed back: r: a new list or dict -/
def relB (r : Bool) (K : PySem.W.Frag) (H H' : Hp) (Z' : Addr → Prop) (ι' : List Addr) (v : V) (d : D) : Prop := match r with
  | false => Rel K H' Z' ι' v d
  | true => ∃ a, v = .ref a ∧ H a = none ∧ ¬ Z' a ∧ a ∉ ι' ∧ Top K H' Z' ι' v d
def spB (r : Bool) (K : PySem.W.Frag) (n : Nat) (h : FnD) : Sp := fun vs H Q _ => ∃ Z ι ds mh d mh', ds.length = n ∧ SR K H Z ι [] ⟨[], mh⟩ ∧ Rels K H Z ι vs ds ∧ h ds mh = some (d, mh') ∧
  ∀ v H' Z' ι', Nxt K [] H Z ι ⟨[], mh⟩ H' Z' ι' ⟨[], mh'⟩ → relB r K H H' Z' ι' v d → Q v H'
theorem wr_nil {mh : List (List D)} {x : Addr} (w : Wr [] ⟨[], mh⟩ ι x) : x ∈ ι := by
  rcases w with w | ⟨i, d, h1, _⟩
  · exact w
  · have h1' : ([] : List (Option (D × Bool)))[i]? = some (some (d, true)) := h1
    simp at h1'
theorem SR.drop (R : SR K H Z ι σ s) : SR K H Z ι [] ⟨[], s.mh⟩ where
  len := rfl
  st := fun i d e => by
    have e' : ([] : List (Option (D × Bool)))[i]? = some (some (d, false)) := e
    simp at e'
  ow := fun i d e => by
    have e' : ([] : List (Option (D × Bool)))[i]? = some (some (d, true)) := e
    simp at e'
  ap := fun i j d d' a e => by
    have e' : ([] : List (Option (D × Bool)))[i]? = some (some (d, true)) := e
    simp at e'
  il := R.il
  mh := R.mh
  nd := R.nd
  zd := R.zd
theorem Nxt.lift {mh' : List (List D)} (R : SR K H Z ι σ s) (N : Nxt K [] H Z ι ⟨[], s.mh⟩ H' Z' ι' ⟨[], mh'⟩) : Nxt K σ H Z ι s H' Z' ι' { s with mh := mh' } := by
  have k := N.kp R.drop
  have keep : ∀ a o, H a = some o → a ∉ ι → H' a = some o := fun a o e n => N.fr a o e fun w => n (wr_nil w)
  have nz : ∀ a, H a ≠ none → a ∉ ι → ¬ Z a → ¬ Z' a := fun a h n z z' => by
    rcases N.zn a z' with q | q | q
    · exact z q
    · exact h q
    · exact n (wr_nil q)
  have nι : ∀ a, H a ≠ none → a ∉ ι → a ∉ ι' := fun a h n hm => by
    rcases N.wn a (.inl hm) with q | q
    · exact n (wr_nil q)
    · exact h q
  refine ⟨⟨R.len, fun i d e => let ⟨v, h1, r⟩ := R.st i d e; ⟨v, h1, r.mono k⟩, fun i d e => ?_, R.ap, N.sr.il, N.sr.mh, N.sr.nd, N.sr.zd⟩,
    fun a o e w => keep a o e fun hm => w (.inl hm), N.zs, fun a z => ?_, fun a w => ?_, N.dm, N.ip⟩
  · obtain ⟨a, h1, t, z, n⟩ := R.ow i d e
    have hs : H a ≠ none := R.wrSome (.inr ⟨i, d, e, h1⟩)
    exact ⟨a, h1, t.mono k fun b o eb h => by cases eb; exact keep _ o h n, nz a hs n z, nι a hs n⟩
  · rcases N.zn a z with q | q | q
    · exact .inl q
    · exact .inr (.inl q)
    · exact .inr (.inr (.inl (wr_nil q)))
  · rcases w with w | w
    · rcases N.wn a (.inl w) with q | q
      · exact .inl (.inl (wr_nil q))
      · exact .inr q
    · exact .inl (.inr w)
/-- a def's call -/
structure Callee (X : Cx) (k : Nat) (x : Str) (n : Nat) (rb : Bool) (h : FnD) : Prop where
  gl : Gl X x
  db : (x == ("__debug__" : Str)) = false
  ex : ∃ (f : Addr) (fd : FuncData) (ps : List Str), ps.length = n ∧ FnOk X.prog X.w X.K X.mg X.base CX0 k f fd ps (spB rb X.K ps.length h) ∧ X.mg x = some (.ref f) ∧ PySem.W.keepIn X.K (.ref f) = true ∧ Binds X.K fd ps []
theorem pe_callF {x : Str} {k : Nat} {h : FnD} {ka : Fa} {e : Expr} {es : List Expr} (c : Callee X k x (e :: es).length false h) (n : ∀ ds mh r, h ds mh = some r → ds.length = (e :: es).length) (hr : Room k X.A)
    (ha : PA X (e :: es) (tEA X.K ka))
    (he : starEach (e :: es) X.env = (false, eval e X.env) :: starEach es X.env) (hpl : (backTo pos (starEach es X.env)).any (·.1) = false) :
    PE X (.Call (.Name x p) (e :: es) [] pos) (tE X.K (callF h ka)) := by
  obtain ⟨f, fd, ps, np, F, hm, hk, hb⟩ := c.ex
  refine PE.imp (pe_call F hr c.gl hm hk hb .nil pass0 ha c.db he hpl) fun σ H Q ⟨Z, ι, s, d, tg, s', R, hf, hq⟩ => ?_
  obtain ⟨⟨ds, s1⟩, f1, hf⟩ := Option.bind_eq_some_iff.mp hf
  obtain ⟨⟨d', mh'⟩, hh, hf⟩ := Option.map_eq_some_iff.mp hf
  cases hf
  refine ⟨Z, ι, s, ds, s1, R, f1, fun vs H1 Z1 ι1 N1 r1 => ?_⟩
  show spB false X.K ps.length h (vs ++ []) H1 Q E0
  rw [List.append_nil]
  refine ⟨Z1, ι1, ds, s1.mh, _, mh', by rw [np, n ds s1.mh _ hh], N1.sr.drop, r1, hh, fun v H' Z' ι' N' r' => ?_⟩
  exact hq v H' Z' ι' (Nxt.trans R N1 (N'.lift N1.sr)) r'
theorem pe_callrF {x : Str} {k : Nat} {h : FnD} {ka : Fa} {e : Expr} {es : List Expr} (c : Callee X k x (e :: es).length true h) (n : ∀ ds mh r, h ds mh = some r → ds.length = (e :: es).length) (hr : Room k X.A)
    (ha : PA X (e :: es) (tEA X.K ka))
    (he : starEach (e :: es) X.env = (false, eval e X.env) :: starEach es X.env) (hpl : (backTo pos (starEach es X.env)).any (·.1) = false) :
    PE X (.Call (.Name x p) (e :: es) [] pos) (tE X.K (callrF h ka)) := by
  obtain ⟨f, fd, ps, np, F, hm, hk, hb⟩ := c.ex
  refine PE.imp (pe_call F hr c.gl hm hk hb .nil pass0 ha c.db he hpl) fun σ H Q ⟨Z, ι, s, d, tg, s', R, hf, hq⟩ => ?_
  obtain ⟨⟨ds, s1⟩, f1, hf⟩ := Option.bind_eq_some_iff.mp hf
  obtain ⟨⟨d', mh'⟩, hh, hf⟩ := Option.map_eq_some_iff.mp hf
  cases hf
  refine ⟨Z, ι, s, ds, s1, R, f1, fun vs H1 Z1 ι1 N1 r1 => ?_⟩
  show spB true X.K ps.length h (vs ++ []) H1 Q E0
  rw [List.append_nil]
  refine ⟨Z1, ι1, ds, s1.mh, _, mh', by rw [np, n ds s1.mh _ hh], N1.sr.drop, r1, hh, fun v H' Z' ι' N' r' => ?_⟩
  obtain ⟨a, rfl, h1, h2, h3, h4⟩ := r'
  refine hq _ H' Z' ι' (Nxt.trans R N1 (N'.lift N1.sr)) ⟨a, rfl, Decidable.byContradiction fun q => N1.dm a q h1, h2, fun w => ?_, h4⟩
  rcases w with w | ⟨i, d, q1, q2⟩
  · exact h3 w
  · exact N1.sr.wrSome (.inr ⟨i, d, q1, q2⟩) h1
/-! ### lent -/
def tEG (K : PySem.W.Frag) (f : Ft) : TA := fun σ H Q => ∃ Z ι s xs s', SR K H Z ι σ s ∧ f s = some (xs, s') ∧
  ∀ vs H' Z' ι', Nxt K σ H Z ι s H' Z' ι' s' → (∀ ds, xs.mapM (wk s') = some ds → Paired (fun v d => RelW K H' Z' ι' v d) vs ds) → Q vs H'
theorem pa_nilG : PA X [] (tEG X.K fun s => some ([], s)) := by
  refine PA.imp pa_nil fun σ H Q ⟨Z, ι, s, ds, s', R, hf, hq⟩ => ?_
  cases hf
  refine hq [] H Z ι (Nxt.refl R) fun ds e => ?_
  have e' : some [] = some ds := by simpa using e
  cases e'
  exact .nil
def consG (f : Fv) (k : Ft) : Ft := fun s => (f s).bind fun x => (k x.2.2).map fun r => ((x.1, x.2.1) :: r.1, r.2)
theorem mapM_cons' {s : S} {x : D × Tg} {xs : List (D × Tg)} {ds : List D} (h : (x :: xs).mapM (wk s) = some ds) : ∃ e es, wk s x = some e ∧ xs.mapM (wk s) = some es ∧ ds = e :: es := by
  rw [List.mapM_cons] at h
  obtain ⟨e, h1, h⟩ := Option.bind_eq_some_iff.mp h
  obtain ⟨es, h2, h⟩ := Option.bind_eq_some_iff.mp h
  cases h
  exact ⟨e, es, h1, h2, rfl⟩
theorem pa_consG {es : List Expr} {k : Ft} (ha : PE X a (tE X.K f)) (hr : PA X es (tEG X.K k)) (hs : starEach (a :: es) X.env = (false, eval a X.env) :: starEach es X.env) : PA X (a :: es) (tEG X.K (consG f k)) := by
  refine PA.imp (pa_cons ha hr hs) fun σ H Q ⟨Z, ι, s, ds, s', R, hf, hq⟩ => ?_
  obtain ⟨⟨d0, t0, s1⟩, f0, hf⟩ := Option.bind_eq_some_iff.mp hf
  obtain ⟨⟨xs, s2⟩, f1, hf⟩ := Option.map_eq_some_iff.mp hf
  cases hf
  refine ⟨Z, ι, s, d0, t0, s1, R, f0, fun x H1 Z1 ι1 N1 v1 => ⟨Z1, ι1, s1, xs, s2, N1.sr, f1, fun vs H2 Z2 ι2 N2 r2 => ?_⟩⟩
  refine hq _ H2 Z2 ι2 (Nxt.trans R N1 N2) fun ds e => ?_
  obtain ⟨e, es, h1, h2, rfl⟩ := mapM_cons' e
  exact .cons (wk_ok N1.sr v1 N2 h1) (r2 es h2)
mutual
theorem Rel.noref : ∀ {v : V} {d : D}, Rel K H Z ι v d → noRef d = true → Rel K H Z [] v d
  | _, _, .non, _ => .non
  | _, _, .bl b, _ => .bl b
  | _, _, .int i, _ => .int i
  | _, _, .str x, _ => .str x
  | _, _, .tup h r, n => .tup h (Rels.noref r n)
  | _, _, .lst z h r, n => .lst z h (Rels.noref r n)
  | _, _, .dct z h r, n => .dct z h (RelK.noref r n)
  | _, _, .fzl h, _ => .fzl h
  | _, _, .ref h, n => by cases n
theorem Rels.noref : ∀ {v : List V} {d : List D}, Rels K H Z ι v d → noRef.noRefL d = true → Rels K H Z [] v d
  | _, _, .nil, _ => .nil
  | _, _, .cons r t, n => by
    have n' := Bool.and_eq_true_iff.mp n
    exact .cons (Rel.noref r n'.1) (Rels.noref t n'.2)
theorem RelK.noref : ∀ {v : List (Key × V)} {d : List (Key × D)}, RelK K H Z ι v d → noRef.noRefK d = true → RelK K H Z [] v d
  | _, _, .nil, _ => .nil
  | _, _, .cons r t, n => by
    have n' := Bool.and_eq_true_iff.mp n
    exact .cons (Rel.noref r n'.1) (RelK.noref t n'.2)
end
mutual
theorem Rel.flatR : ∀ {v : V} {d : D}, Rel K H Z ι v d → flat d = true → Rel K H Z' ι' v d
  | _, _, .non, _ => .non
  | _, _, .bl b, _ => .bl b
  | _, _, .int i, _ => .int i
  | _, _, .str x, _ => .str x
  | _, _, .tup h r, n => .tup h (Rels.flatR r n)
  | _, _, .lst z h r, n => by cases n
  | _, _, .dct z h r, n => by cases n
  | _, _, .fzl h, n => by cases n
  | _, _, .ref h, n => by cases n
theorem Rels.flatR : ∀ {v : List V} {d : List D}, Rels K H Z ι v d → flat.flatL d = true → Rels K H Z' ι' v d
  | _, _, .nil, _ => .nil
  | _, _, .cons r t, n => by
    have n' := Bool.and_eq_true_iff.mp n
    exact .cons (Rel.flatR r n'.1) (Rels.flatR t n'.2)
end
theorem pe_lendF {x : Str} {k : Nat} {h : FnD} {ka : Ft} {e : Expr} {es : List Expr} (c : Callee X k x (e :: es).length false h) (n : ∀ ds mh r, h ds mh = some r → ds.length = (e :: es).length) (hr : Room k X.A)
    (ha : PA X (e :: es) (tEG X.K ka))
    (he : starEach (e :: es) X.env = (false, eval e X.env) :: starEach es X.env) (hpl : (backTo pos (starEach es X.env)).any (·.1) = false) :
    PE X (.Call (.Name x p) (e :: es) [] pos) (tE X.K (lendF h ka)) := by
  obtain ⟨f, fd, ps, np, F, hm, hk, hb⟩ := c.ex
  refine PE.imp (pe_call F hr c.gl hm hk hb .nil pass0 ha c.db he hpl) fun σ H Q ⟨Z, ι, s, d, tg, s', R, hf, hq⟩ => ?_
  obtain ⟨⟨xs, s1⟩, f1, hf⟩ := Option.bind_eq_some_iff.mp hf
  obtain ⟨ds, f2, hf⟩ := Option.bind_eq_some_iff.mp hf
  have hf' : (if ds.all noRef then (h ds []).bind fun r => if flat r.1 then some (r.1, Tg.st, s1) else none else none) = some (d, tg, s') := hf
  split at hf'
  · rename_i nr
    obtain ⟨⟨d', mh'⟩, hh, hf'⟩ := Option.bind_eq_some_iff.mp hf'
    have hf2 : (if flat d' then some (d', Tg.st, s1) else none) = some (d, tg, s') := hf'
    split at hf2
    · rename_i fl
      cases hf2
      refine ⟨Z, ι, s, xs, _, R, f1, fun vs H1 Z1 ι1 N1 r1 => ?_⟩
      show spB false X.K ps.length h (vs ++ []) H1 Q E0
      rw [List.append_nil]
      have pr := r1 ds f2
      let Zc : Addr → Prop := fun a => Z1 a ∨ ((V.ref a ∈ vs) ∧ ((∃ vs, H1 a = some (.lst vs)) ∨ ∃ kvs, H1 a = some (.dK kvs)))
      have kc : Kp X.K H1 Z1 ([] : List Addr) H1 Zc [] := ⟨fun _ _ h => h, fun _ _ h => h, fun _ z => .inl z, fun _ _ _ h => h, fun _ _ _ h => h, fun _ _ h => h⟩
      have one : ∀ v d, v ∈ vs → noRef d = true → RelW X.K H1 Z1 ι1 v d → Rel X.K H1 Zc [] v d := fun v d hv n r => by
        rcases r with r | t
        · exact (r.noref n).mono kc
        · cases d with
          | lst ds =>
            obtain ⟨a, ws, e, q, rr⟩ := t
            subst e
            exact .lst (.inr ⟨hv, .inl ⟨ws, q⟩⟩) q ((rr.noref n).mono kc)
          | dct ks =>
            obtain ⟨a, ws, e, q, rr⟩ := t
            subst e
            exact .dct (.inr ⟨hv, .inr ⟨ws, q⟩⟩) (.inl q) ((rr.noref n).mono kc)
          | _ => exact t.elim
      have all : ∀ (ws : List V) (es : List D), (∀ v ∈ ws, v ∈ vs) → es.all noRef = true → Paired (fun v d => RelW X.K H1 Z1 ι1 v d) ws es → Rels X.K H1 Zc [] ws es := by
        intro ws
        induction ws with
        | nil => intro es _ _ p; cases p; exact .nil
        | cons w ws ih =>
          intro es hs n p
          cases p with
          | cons r t =>
            rw [List.all_cons, Bool.and_eq_true] at n
            exact .cons (one _ _ (hs w List.mem_cons_self) n.1 r) (ih _ (fun v hv => hs v (List.mem_cons_of_mem _ hv)) n.2 t)
      have Rc : SR X.K H1 Zc [] [] ⟨[], []⟩ :=
        ⟨rfl, fun i d e => by simp at e, fun i d e => by simp at e, fun i j d d' a e => by simp at e, rfl, fun n a ds e => by simp at e, List.nodup_nil, fun a z => by
          rcases z with z | ⟨_, q | ⟨kvs, q⟩⟩
          · exact N1.sr.zd a z
          · exact .inl q
          · exact .inr ⟨kvs, .inl q⟩⟩
      refine ⟨Zc, [], ds, [], _, mh', by rw [np, n ds [] _ hh], Rc, all vs ds (fun _ h => h) nr pr, hh, fun v H' Z' ι' N' r' => ?_⟩
      have keep : ∀ a o, H1 a = some o → H' a = some o := fun a o e => N'.fr a o e fun w => by
        have := wr_nil w
        simp at this
      exact hq v H' Z1 ι1 (Nxt.trans R N1 (Nxt.ext N1.sr keep)) (r'.flatR fl)
    · cases hf2
  · cases hf'
/-! ### what a slot owns is changed -/
theorem SR.put {i : Nat} {x : Addr} {o : HO} {d d' : D} (R : SR K H Z ι σ s) (h : s.sl[i]? = some (some (d, true))) (hσ : σ[i]? = some (some (.ref x)))
    (ho : (∃ vs, o = .lst vs) ∨ ∃ kvs, o = .dK kvs) (t' : ∀ H', Kp K H Z ι H' Z ι → H' x = some o → Top K H' Z ι (.ref x) d') :
    Nxt K σ H Z ι s (upd H x o) Z ι (s.set i d' true) := by
  obtain ⟨b, h1, t, z, nι⟩ := R.ow i d h
  rw [hσ] at h1; cases h1
  have wx : Wr σ s ι x := .inr ⟨i, d, h, hσ⟩
  have hi : i < s.sl.length := (List.getElem?_eq_some_iff.mp h).1
  have keep : ∀ a u, a ≠ x → H a = some u → upd H x o a = some u := fun a u n e => by rw [upd_ne n]; exact e
  have ntup : ∀ a u, H a = some u → ((∀ vs, u ≠ .lst vs) ∧ ∀ kvs, u ≠ .dK kvs) → upd H x o a = some u := fun a u e n => keep a u (fun q => notup R e n (q ▸ wx)) e
  have k : Kp K H Z ι (upd H x o) Z ι := by
    refine ⟨fun a xs q => ?_, fun a xs q => ?_, fun _ z => z, fun a vs z' q => keep a _ (fun e => z (e ▸ z')) q, fun a kvs z' q => ?_, fun _ _ h => h⟩
    · rcases q with ⟨ob, q, dn⟩ | q
      · exact .inl ⟨ob, ntup _ _ q ⟨fun _ e => (by cases e), fun _ e => (by cases e)⟩, dn⟩
      · exact .inr q
    · rcases q with ⟨ob, q⟩ | q
      · exact .inl ⟨ob, ntup _ _ q ⟨fun _ e => (by cases e), fun _ e => (by cases e)⟩⟩
      · exact .inr q
    · rcases q with q | ⟨ob, q⟩
      · exact .inl (keep a _ (fun e => z (e ▸ z')) q)
      · exact .inr ⟨ob, keep a _ (fun e => z (e ▸ z')) q⟩
  have top : Top K (upd H x o) Z ι (.ref x) d' := t' _ k upd_same
  have get : ∀ (j : Nat) y c, (s.set i d' true).sl[j]? = some (some (y, c)) → (j = i ∧ y = d' ∧ c = true) ∨ (j ≠ i ∧ s.sl[j]? = some (some (y, c))) := fun j y c e => by
    have e' : (s.sl.set i (some (d', true)))[j]? = some (some (y, c)) := e
    rw [List.getElem?_set] at e'
    split at e'
    · rename_i hj
      first
        | (rw [if_pos hi] at e'; cases e'; exact .inl ⟨hj.symm, rfl, rfl⟩)
        | (cases e'; exact .inl ⟨hj.symm, rfl, rfl⟩)
    · rename_i hj
      exact .inr ⟨fun q => hj q.symm, e'⟩
  have wr : ∀ b, Wr σ (s.set i d' true) ι b → Wr σ s ι b := fun b w => by
    rcases w with w | ⟨j, y, e, q⟩
    · exact .inl w
    · rcases get j y true e with ⟨rfl, _, _⟩ | ⟨_, e⟩
      · exact .inr ⟨j, d, h, q⟩
      · exact .inr ⟨j, y, e, q⟩
  refine ⟨⟨by simpa [S.set] using R.len, fun j y e => ?_, fun j y e => ?_, fun j l y y' b e1 e2 q1 q2 => ?_, R.il, fun n b ds e1 e2 => ?_, R.nd, fun b zb => ?_⟩,
    fun a u e w => keep a u (fun q => w (q ▸ wx)) e, fun _ z => z, fun _ z => .inl z, fun b w => .inl (wr b w), fun a q => ?_, fun _ _ h => h⟩
  · rcases get j y false e with ⟨_, _, c⟩ | ⟨_, e⟩
    · cases c
    · obtain ⟨v, q, r⟩ := R.st j y e
      exact ⟨v, q, r.mono k⟩
  · rcases get j y true e with ⟨rfl, rfl, _⟩ | ⟨hj, e⟩
    · exact ⟨x, hσ, top, z, nι⟩
    · obtain ⟨b, q, t2, z', n'⟩ := R.ow j y e
      refine ⟨b, q, t2.mono k fun c u ec hu => ?_, z', n'⟩
      cases ec
      exact keep _ _ (fun q2 => hj (R.ap j i y d b e h q (by rw [q2]; exact hσ))) hu
  · rcases get j y true e1 with ⟨ej, _, _⟩ | ⟨hj, f1⟩
    · rcases get l y' true e2 with ⟨el, _, _⟩ | ⟨hl, f2⟩
      · rw [ej, el]
      · exact (hl (R.ap l i y' d b f2 h q2 (ej ▸ q1))).elim
    · rcases get l y' true e2 with ⟨el, _, _⟩ | ⟨hl, f2⟩
      · exact (hj (R.ap j i y d b f1 h q1 (el ▸ q2))).elim
      · exact R.ap j l y y' b f1 f2 q1 q2
  · obtain ⟨z', vs, q, r⟩ := R.mh n b ds e1 e2
    exact ⟨z', vs, keep b _ (fun e => nι (e ▸ List.mem_of_getElem? e1)) q, r.mono k⟩
  · rcases R.zd b zb with ⟨vs, q⟩ | ⟨kvs, q | ⟨ob, q⟩⟩
    · exact .inl ⟨vs, keep b _ (fun e => z (e ▸ zb)) q⟩
    · exact .inr ⟨kvs, .inl (keep b _ (fun e => z (e ▸ zb)) q)⟩
    · exact .inr ⟨kvs, .inr ⟨ob, keep b _ (fun e => z (e ▸ zb)) q⟩⟩
  · by_cases e : a = x
    · subst e; rw [upd_same]; simp
    · rw [upd_ne e]; exact q
theorem pop_last {xs : List D} {vs : List V} {d : D} (r : Rels K H Z ι vs xs) (h : xs.getLast? = some d) : ∃ v, vs[vs.length - 1]? = some v ∧ Rel K H Z ι v d ∧ Rels K H Z ι vs.dropLast xs.dropLast := by
  rw [List.getLast?_eq_getElem?] at h
  obtain ⟨v, h1, h2⟩ := r.get h
  refine ⟨v, by rw [r.length]; exact h1, h2, ?_⟩
  rw [List.dropLast_eq_take, List.dropLast_eq_take, r.length]
  exact r.take _
theorem pe_popF {i : Nat} {x : Str} {apos p2 : Pos} (hN : X.N[i]? = some x) (hv : Vis X.env.scope x) (hd : (x == ("__debug__" : Str)) = false) (hcd : (x == ("__classdict__" : Str)) = false)
    (hline : (apos.endLine == pos.line) = true) : PE X (.Call (.Attribute (.Name x p2) "pop" apos) [] [] pos) (tE X.K (popF i)) := by
  refine PE.imp (pe_bm0 PySem.F.plainAttrs_list PySem.F.slot_list_pop PySem.F.type_list_pop mt_pop (pe_var hN hv hd hcd) rfl hline) fun σ H Q ⟨Z, ι, s, d, tg, s', R, hf, hq⟩ => ?_
  have hf' : (match s.sl[i]? with
    | some (some (.lst xs, true)) => (match xs.getLast? with
      | some d => some (d, Tg.st, s.set i (.lst xs.dropLast) true)
      | none => none)
    | _ => none) = some (d, tg, s') := hf
  split at hf'
  · rename_i xs h1
    split at hf'
    · rename_i d' h2
      cases hf'
      obtain ⟨a, h3, t, z, n⟩ := R.ow i _ h1
      obtain ⟨b, vs, e, h4, r⟩ := t
      cases e
      obtain ⟨v, h5, h6, h7⟩ := pop_last r h2
      refine ⟨.ref a, h3, .inl ⟨rfl, vs, .inl (.inl h4)⟩, a, vs, v, rfl, rfl, h4, h5, ?_⟩
      have N := R.put (o := .lst vs.dropLast) (d' := .lst xs.dropLast) h1 h3 (.inl ⟨_, rfl⟩) fun H' k e => ⟨a, _, rfl, e, h7.mono k⟩
      exact hq v _ Z ι N (h6.mono (N.kp R))
    · cases hf'
  · cases hf'
end
end E3
set_option Elab.async false
set_option linter.all false
set_option maxRecDepth 100000
set_option maxHeartbeats 1000000
/-! Rules: targets, what is walked. -/
namespace E3
open PySem PySem.Spec PyProof.Rows L2
def Tn.slots : Tn → List Nat
  | .nm i => [i]
  | .tp r => r.slots
  | .nil => []
  | .cons a r => a.slots ++ r.slots
section
variable {X : Cx} {a b c : Expr} {f g h : Fv} {pos p : Pos}
variable {K : PySem.W.Frag} {H H' H0 H1 H2 : Hp} {Z Z' Z0 Z1 Z2 : Addr → Prop} {ι ι' ι0 ι1 ι2 : List Addr} {σ σ' σ1 : St} {s s' s0 s1 s2 s3 : S} {v : V} {d e : D} {tg : Tg}
/-- names were bound: the slots vs alone have changed, and none of them owns anything -/
structure Bnd (vs : List Nat) (σ : St) (s : S) (σ' : St) (s' : S) : Prop where
  ls : σ'.length = σ.length
  ll : s'.sl.length = s.sl.length
  σo : ∀ j, j ∉ vs → σ'[j]? = σ[j]?
  so : ∀ j, j ∉ vs → s'.sl[j]? = s.sl[j]?
  ow : ∀ (j : Nat) d, s'.sl[j]? = some (some (d, true)) → s.sl[j]? = some (some (d, true)) ∧ σ'[j]? = σ[j]?
  mh : s'.mh = s.mh
theorem Bnd.refl {vs : List Nat} : Bnd vs σ s σ s := ⟨rfl, rfl, fun _ _ => rfl, fun _ _ => rfl, fun _ _ h => ⟨h, rfl⟩, rfl⟩
theorem Bnd.trans {vs ws : List Nat} (a : Bnd vs σ s σ1 s1) (b : Bnd ws σ1 s1 σ' s') : Bnd (vs ++ ws) σ s σ' s' :=
  ⟨b.ls.trans a.ls, b.ll.trans a.ll, fun j h => (b.σo j fun m => h (List.mem_append_right _ m)).trans (a.σo j fun m => h (List.mem_append_left _ m)),
    fun j h => (b.so j fun m => h (List.mem_append_right _ m)).trans (a.so j fun m => h (List.mem_append_left _ m)),
    fun j d h => let ⟨h1, h2⟩ := b.ow j d h; let ⟨h3, h4⟩ := a.ow j d h1; ⟨h3, h2.trans h4⟩, b.mh.trans a.mh⟩
theorem Bnd.wr {vs : List Nat} (b : Bnd vs σ s σ' s') {x : Addr} (w : Wr σ' s' ι x) : Wr σ s ι x := by
  rcases w with w | ⟨j, d, h1, h2⟩
  · exact .inl w
  · obtain ⟨h3, h4⟩ := b.ow j d h1
    exact .inr ⟨j, d, h3, by rw [← h4]; exact h2⟩
theorem SR.bind {i : Nat} (R : SR K H Z ι σ s) (r : Rel K H Z ι v d) (hi : i < s.sl.length) : SR K H Z ι (σ.set i (some v)) (s.set i d false) ∧ Bnd [i] σ s (σ.set i (some v)) (s.set i d false) := by
  have hs : i < σ.length := by rw [R.len]; exact hi
  have get : ∀ (j : Nat) y c, (s.set i d false).sl[j]? = some (some (y, c)) → (j = i ∧ y = d ∧ c = false) ∨ (j ≠ i ∧ s.sl[j]? = some (some (y, c))) := fun j y c e => by
    have e' : (s.sl.set i (some (d, false)))[j]? = some (some (y, c)) := e
    rw [List.getElem?_set] at e'
    split at e'
    · rename_i hj
      cases e'
      exact .inl ⟨hj.symm, rfl, rfl⟩
    · rename_i hj
      exact .inr ⟨fun q => hj q.symm, e'⟩
  have so : ∀ j, j ≠ i → (σ.set i (some v))[j]? = σ[j]? := fun j hj => List.getElem?_set_ne (Ne.symm hj)
  refine ⟨⟨by simp [S.set, R.len], fun j y e => ?_, fun j y e => ?_, fun j l y y' x e1 e2 q1 q2 => ?_, R.il, R.mh, R.nd, R.zd⟩, ⟨by simp, by simp [S.set], fun j hj => so j (by simpa using hj), fun j hj => ?_, fun j y e => ?_, rfl⟩⟩
  · rcases get j y false e with ⟨rfl, rfl, _⟩ | ⟨hj, e⟩
    · exact ⟨v, by simp [hs], r⟩
    · rw [so j hj]; exact R.st j y e
  · rcases get j y true e with ⟨_, _, c⟩ | ⟨hj, e⟩
    · cases c
    · rw [so j hj]; exact R.ow j y e
  · rcases get j y true e1 with ⟨_, _, c⟩ | ⟨hj, f1⟩
    · cases c
    · rcases get l y' true e2 with ⟨_, _, c⟩ | ⟨hl, f2⟩
      · cases c
      · rw [so j hj] at q1
        rw [so l hl] at q2
        exact R.ap j l y y' x f1 f2 q1 q2
  · show (s.sl.set i _)[j]? = _
    exact List.getElem?_set_ne (fun q => hj (by simp [q]))
  · rcases get j y true e with ⟨_, _, c⟩ | ⟨hj, e⟩
    · cases c
    · exact ⟨e, so j hj⟩
/-! ### targets -/
def tT (K : PySem.W.Frag) (t : Tn) : TG := fun v σ H Q => ∃ Z ι s d s', SR K H Z ι σ s ∧ Rel K H Z ι v d ∧ bindX t [d] s = some s' ∧ ∀ σ', SR K H Z ι σ' s' → Bnd t.slots σ s σ' s' → Q σ' H
def tTs (K : PySem.W.Frag) (t : Tn) : TGs := fun vs σ H Q => ∃ Z ι s ds s', SR K H Z ι σ s ∧ Rels K H Z ι vs ds ∧ bindX t ds s = some s' ∧ ∀ σ', SR K H Z ι σ' s' → Bnd t.slots σ s σ' s' → Q σ' H
theorem PG.imp {e : Expr} {t t' : TG} (h : PG X e t) (i : ∀ v σ H Q, t' v σ H Q → t v σ H Q) : PG X e t' := ⟨fun pins s σ H v u Q I r q => h.run pins s σ H v u Q I r (i v σ H Q q)⟩
theorem PGs.imp {e : List Expr} {t t' : TGs} (h : PGs X e t) (i : ∀ v σ H Q, t' v σ H Q → t v σ H Q) : PGs X e t' := ⟨fun pins s σ H v u Q I r q => h.run pins s σ H v u Q I r (i v σ H Q q)⟩
theorem pg_nm {i : Nat} {x : Str} (hN : X.N.Nodup) (hi : X.N[i]? = some x) (hx : Loc X.env.scope x) (hf : X.fn x = true ∨ X.env.scope.names.lookup x = some .local) : PG X (.Name x pos) (tT X.K (.nm i)) := by
  refine PG.imp (pg_name hN hi hx hf) fun v σ H Q ⟨Z, ι, s, d, s', R, r, hb, hq⟩ => ?_
  have hb' : (if i < s.sl.length then some (s.set i d false) else none) = some s' := hb
  split at hb'
  · rename_i hl
    cases hb'
    obtain ⟨R', B⟩ := R.bind r hl
    exact hq _ R' B
  · cases hb'
theorem pgs_nilT : PGs X [] (tTs X.K .nil) := by
  refine PGs.imp pgs_nil fun vs σ H Q ⟨Z, ι, s, ds, s', R, r, hb, hq⟩ => ?_
  cases ds with
  | nil =>
    cases hb
    cases r
    exact ⟨rfl, hq σ R Bnd.refl⟩
  | cons d ds => cases hb
theorem pgs_consT {e : Expr} {es : List Expr} {t r : Tn} (h1 : PG X e (tT X.K t)) (h2 : PGs X es (tTs X.K r)) (hs : (assignEach (e :: es) X.env).map (·.2) = assign e X.env :: (assignEach es X.env).map (·.2)) : PGs X (e :: es) (tTs X.K (.cons t r)) := by
  refine PGs.imp (pgs_cons h1 h2 hs) fun vs σ H Q ⟨Z, ι, s, ds, s', R, rr, hb, hq⟩ => ?_
  cases ds with
  | nil => cases hb
  | cons d ds =>
    obtain ⟨s1, b1, b2⟩ := Option.bind_eq_some_iff.mp (show (bindX t [d] s).bind (bindX r ds) = some s' from hb)
    cases rr with
    | cons q1 q2 =>
      refine ⟨_, _, rfl, Z, ι, s, d, s1, R, q1, b1, fun σ1 R1 B1 => ⟨Z, ι, s1, ds, s', R1, q2, b2, fun σ2 R2 B2 => ?_⟩⟩
      exact hq σ2 R2 (B1.trans B2)
theorem pg_tpT {es : List Expr} {k n : Nat} {r : Tn} (hc : X.calm = true) (h : PGs X es (tTs X.K r)) (hn : (assignEach es X.env).length = n) (hb' : ∀ ds s s', bindX r ds s = some s' → ds.length = n)
    (hst : (assignEach es X.env).findIdx? (·.1) = none) : PG X (.Tuple es k pos) (tT X.K (.tp r)) := by
  refine PG.imp (pg_tup hc h hn hst) fun v σ H Q ⟨Z, ι, s, d, s', R, rr, hb, hq⟩ => ?_
  cases d with
  | tup ds =>
    obtain ⟨a, vs, rfl, hs, q⟩ := RelW.tup (.inl rr)
    refine ⟨a, vs, rfl, hs, ?_, Z, ι, s, ds, s', R, q, hb, fun σ' R' B' => hq σ' R' B'⟩
    rw [q.length]
    exact hb' ds s s' hb
  | _ => cases hb
/-! ### what is walked -/
/-- what stays as it is: lists and dicts that nobody changes, tuples, locked things -/
def Stb (Z1 : Addr → Prop) (H1 H : Hp) : Prop := ∀ a o, H1 a = some o → (Z1 a ∨ (∃ xs, o = .tup xs) ∨ ∃ ob u, o = .frz ob u) → H a = some o
theorem Stb.refl : Stb Z1 H1 H1 := fun _ _ h _ => h
structure Walks (K : PySem.W.Frag) (J : It) (H1 : Hp) (Z1 : Addr → Prop) (ι1 : List Addr) (ds : List D) : Prop where
  go : ∀ H, Stb Z1 H1 H → ∀ i, i < ds.length → J.go i H
  yld : ∀ H, Stb Z1 H1 H → ∀ i x H2, J.yld i H x H2 → (∀ a o, H a = some o → H2 a = some o) ∧ ∀ d, ds[i]? = some d → Rel K H2 Z1 ι1 x d
  stop : ∀ H, Stb Z1 H1 H → J.stop ds.length H
def tI (K : PySem.W.Frag) (k : Fa) : TI := fun σ H R => ∃ Z ι s ds s', SR K H Z ι σ s ∧ k s = some (ds, s') ∧ ∀ J H' Z' ι', Nxt K σ H Z ι s H' Z' ι' s' → Walks K J H' Z' ι' ds → R J H'
theorem PI.imp {tg e : Expr} {t t' : TI} (h : PI X tg e t) (i : ∀ σ H R, t' σ H R → t σ H R) : PI X tg e t' := ⟨fun pins s σ H R I q => h.run pins s σ H R I (i σ H R q)⟩
theorem PI.or {tg e : Expr} {t t' : TI} (h : PI X tg e t) (h' : PI X tg e t') : PI X tg e (fun σ H R => t σ H R ∨ t' σ H R) :=
  ⟨fun pins s σ H R I q => q.elim (h.run pins s σ H R I) (h'.run pins s σ H R I)⟩
theorem pi_seq {tg l : Expr} {tl : TE} (hl : PE X l tl) : PI X tg l (fun σ H R => tl σ H fun x H1 => ∃ a, x = .ref a ∧ (((∃ xs, SqL X.K H1 a xs) ∧ R (Itl X.K a) H1) ∨ ((∃ xs, SqT X.K H1 a xs) ∧ R (Itt X.K a) H1))) := by
  refine ⟨fun pins s σ H R I h => ?_⟩
  refine thn (hl.run pins s σ H _ I h) fun v s1 ⟨x, H1, I1, r1, q1⟩ => ?_
  obtain ⟨a, e, q⟩ := q1
  subst e
  cases r1
  rcases q with ⟨⟨xs, hq⟩, q⟩ | ⟨⟨xs, hq⟩, q⟩
  · obtain ⟨its, rv, p, hz⟩ := I1.list hq
    refine wpAny_pyIter_list p.isList ?_
    refine ⟨s1.heap.objs.size, [s1.heap.objs.size], _, _, H1, rfl, I1.kept (t' := s1.toks) fun b o e => Heap.get?_push_of_some _ e, turn_list a _, ⟨_, Heap.get?_push_size _ rfl, rfl, rfl⟩, fun b hb => ?_, q⟩
    have e : b = s1.heap.objs.size := by simpa using hb
    subst e
    exact I1.fpOk (Nat.le_refl _) (I1.hok.fresh (Nat.le_refl _))
  · obtain ⟨its, rv, p, hz⟩ := I1.tuple hq
    refine wpAny_pyIter_tuple (show s1.heap.IsTuple a its.toArray from p) ?_
    refine ⟨s1.heap.objs.size, [s1.heap.objs.size], _, _, H1, rfl, I1.kept (t' := s1.toks) fun b o e => Heap.get?_push_of_some _ e, turn_tuple a _, ⟨_, Heap.get?_push_size _ rfl, rfl, rfl⟩, fun b hb => ?_, q⟩
    have e : b = s1.heap.objs.size := by simpa using hb
    subst e
    exact I1.fpOk (Nat.le_refl _) (I1.hok.fresh (Nat.le_refl _))
theorem stb_kp (h : Stb Z H H') : Kp K H Z ι H' Z ι where
  t := fun a xs q => by
    rcases q with ⟨o, q, dn⟩ | q
    · exact .inl ⟨o, h _ _ q (.inr (.inr ⟨_, _, rfl⟩)), dn⟩
    · exact .inr q
  s := fun a xs q => by
    rcases q with ⟨o, q⟩ | q
    · exact .inl ⟨o, h _ _ q (.inr (.inr ⟨_, _, rfl⟩))⟩
    · exact .inr q
  z := fun _ z => z
  l := fun a vs z q => h _ _ q (.inl z)
  d := fun a kvs z q => by
    rcases q with q | ⟨o, q⟩
    · exact .inl (h _ _ q (.inl z))
    · exact .inr ⟨o, h _ _ q (.inl z)⟩
  i := fun _ _ h => h
theorem walks_list {a : Addr} {vs : List V} {ds : List D} (hs : ∀ H', Stb Z H H' → SqL K H' a vs) (r : Rels K H Z ι vs ds) : Walks K (Itl K a) H Z ι ds where
  go := fun H' hH i hi => by
    have : i < vs.length := by rw [r.length]; exact hi
    exact ⟨vs, vs[i], hs H' hH, List.getElem?_eq_getElem this⟩
  yld := fun H' hH i x H2 ⟨e, y⟩ => by
    subst e
    refine ⟨fun _ _ h => h, fun d hd => ?_⟩
    obtain ⟨v, h1, h2⟩ := r.get hd
    have := y vs (hs _ hH)
    rw [h1] at this
    cases this
    exact h2.mono (stb_kp hH)
  stop := fun H' hH => ⟨vs, hs H' hH, by rw [r.length]; exact Nat.le_refl _⟩
theorem walks_tup {a : Addr} {vs : List V} {ds : List D} (hs : TpX K H a vs) (r : Rels K H Z ι vs ds) : Walks K (Itt K a) H Z ι ds where
  go := fun H' hH i hi => by
    have : i < vs.length := by rw [r.length]; exact hi
    exact ⟨vs, vs[i], ((stb_kp (ι := ι) hH).t a vs hs).sq, List.getElem?_eq_getElem this⟩
  yld := fun H' hH i x H2 ⟨e, y⟩ => by
    subst e
    refine ⟨fun _ _ h => h, fun d hd => ?_⟩
    obtain ⟨v, h1, h2⟩ := r.get hd
    have := y vs ((stb_kp (ι := ι) hH).t a vs hs).sq
    rw [h1] at this
    cases this
    exact h2.mono (stb_kp hH)
  stop := fun H' hH => ⟨vs, ((stb_kp (ι := ι) hH).t a vs hs).sq, by rw [r.length]; exact Nat.le_refl _⟩
theorem walks_rg (lo : Int) (n : Nat) : Walks K (Itr lo n) H Z ι ((List.range n).map fun i => D.int (lo + (i : Nat))) where
  go := fun H' hH i hi => by
    show i < n
    simpa using hi
  yld := fun H' hH i x H2 ⟨e, y⟩ => by
    subst e y
    refine ⟨fun _ _ h => h, fun d hd => ?_⟩
    have hi : i < n := by
      have := (List.getElem?_eq_some_iff.mp hd).1
      simpa using this
    rw [List.getElem?_map, List.getElem?_range hi] at hd
    cases hd
    exact .int _
  stop := fun H' hH => by
    show n ≤ _
    simp
theorem pi_toI {tg : Expr} (ha : PE X a (tE X.K f)) : PI X tg a (tI X.K (toI f)) := by
  refine PI.imp (pi_seq ha) fun σ H R' ⟨Z, ι, s, ds, s', R, hf, hq⟩ => ?_
  obtain ⟨⟨d0, t0, s1⟩, f0, hf⟩ := Option.bind_eq_some_iff.mp hf
  obtain ⟨⟨d1, s2⟩, f1, hf⟩ := Option.bind_eq_some_iff.mp hf
  obtain ⟨ds', f2, hf⟩ := Option.map_eq_some_iff.mp hf
  cases hf
  refine ⟨Z, ι, s, d0, t0, s1, R, f0, fun x H1 Z1 ι1 N1 v1 => ?_⟩
  obtain ⟨Z2, N2, r2, _⟩ := hold_ok R N1 v1 (Nxt.refl N1.sr) f1
  cases d1 with
  | tup xs =>
    cases f2
    obtain ⟨p, vs, rfl, h1, q1⟩ := RelW.tupX (.inl r2)
    exact ⟨p, rfl, .inr ⟨⟨vs, h1.sq⟩, hq _ H1 Z2 ι1 N2 (walks_tup h1 q1)⟩⟩
  | lst xs =>
    cases f2
    cases r2 with
    | lst z h1 q1 => exact ⟨_, rfl, .inl ⟨⟨_, .inl (.inl h1)⟩, hq _ H1 Z2 ι1 N2 (walks_list (fun H' hH => .inl (.inl (hH _ _ h1 (.inl z)))) q1)⟩⟩
  | fzl ns =>
    cases f2
    obtain ⟨p, rfl, h1⟩ := RelW.fzl (.inl r2)
    exact ⟨p, rfl, .inl ⟨⟨_, h1.sq⟩, hq _ H1 Z2 ι1 N2 (walks_list (fun H' hH => ((stb_kp (ι := ι1) hH).s _ _ h1).sq) (rels_fzl ns))⟩⟩
  | _ => cases f2
theorem rgOk_of {i : Int} (h : rgOk i = true) : -(2 ^ 62) ≤ i ∧ i < 2 ^ 62 := by
  unfold rgOk at h
  rw [Bool.and_eq_true] at h
  exact ⟨of_decide_eq_true h.1, of_decide_eq_true h.2⟩
theorem pi_rg1F {tg : Expr} (hg : Gl X "range") (hm : X.mg "range" = none) (ha : PE X a (tE X.K f)) (hs : starEach [a] X.env = [(false, eval a X.env)]) : PI X tg (.Call (.Name "range" p) [a] [] pos) (tI X.K (rg1F f)) := by
  refine PI.imp (pi_range1 hg hm (pa_cons ha pa_nil hs) hs) fun σ H R' ⟨Z, ι, s, ds, s', R, hf, hq⟩ => ?_
  obtain ⟨⟨d0, t0, s1⟩, f0, hf⟩ := Option.bind_eq_some_iff.mp hf
  obtain ⟨i, hi, hf⟩ := Option.bind_eq_some_iff.mp hf
  have hf' : (if rgOk i then some (rgD 0 i, s1) else none) = some (ds, s') := hf
  split at hf'
  · rename_i ok
    cases hf'
    refine ⟨Z, ι, s, d0, t0, _, R, f0, fun x H1 Z1 ι1 N1 v1 => ⟨i, ?_, (rgOk_of ok).1, (rgOk_of ok).2, ?_⟩⟩
    · have e : d0 = .int i := intD_some hi
      subst e
      rw [(vr_weak N1.sr v1).int]
    · have w := walks_rg (K := X.K) (H := H1) (Z := Z1) (ι := ι1) 0 (i - 0).toNat
      rw [show (i - 0).toNat = i.toNat by rw [Int.sub_zero]] at w
      refine hq _ H1 Z1 ι1 N1 ?_
      unfold rgD
      rw [Int.sub_zero]
      exact w
  · cases hf'
theorem pi_rg2F {tg : Expr} (hg : Gl X "range") (hm : X.mg "range" = none) (ha : PE X a (tE X.K f)) (hb : PE X b (tE X.K g)) (hs : starEach [a, b] X.env = [(false, eval a X.env), (false, eval b X.env)]) (hs2 : starEach [b] X.env = [(false, eval b X.env)]) :
    PI X tg (.Call (.Name "range" p) [a, b] [] pos) (tI X.K (rg2F f g)) := by
  refine PI.imp (pi_range2 hg hm (pa_cons ha (pa_cons hb pa_nil hs2) (by rw [hs, hs2])) hs hs2) fun σ H R' ⟨Z, ι, s, ds, s', R, hf, hq⟩ => ?_
  obtain ⟨⟨d0, t0, s1⟩, f0, hf⟩ := Option.bind_eq_some_iff.mp hf
  obtain ⟨⟨d1, t1, s2⟩, f1, hf⟩ := Option.bind_eq_some_iff.mp hf
  obtain ⟨i, hi, hf⟩ := Option.bind_eq_some_iff.mp hf
  obtain ⟨j, hj, hf⟩ := Option.bind_eq_some_iff.mp hf
  have hf' : (if rgOk i && rgOk j then some (rgD i j, s2) else none) = some (ds, s') := hf
  split at hf'
  · rename_i ok
    cases hf'
    rw [Bool.and_eq_true] at ok
    refine ⟨Z, ι, s, d0, t0, s1, R, f0, fun x H1 Z1 ι1 N1 v1 => ⟨Z1, ι1, s1, d1, t1, _, N1.sr, f1, fun y H2 Z2 ι2 N2 v2 => ?_⟩⟩
    have e : d0 = .int i := intD_some hi
    have e' : d1 = .int j := intD_some hj
    subst e e'
    refine ⟨i, j, by rw [(vr_weak N1.sr v1).int, (vr_weak N2.sr v2).int], ⟨(rgOk_of ok.1).1, (rgOk_of ok.1).2, (rgOk_of ok.2).1, (rgOk_of ok.2).2⟩, ?_⟩
    exact hq _ H2 Z2 ι2 (Nxt.trans R N1 N2) (walks_rg i (j - i).toNat)
  · cases hf'
end
end E3
set_option Elab.async false
set_option linter.all false
set_option maxRecDepth 100000
set_option maxHeartbeats 1000000
/-! zip of two of anything: lists, tuples. -/
namespace E3
open PySem PySem.Spec PyProof.Rows L2 RZ
def SqI (b : Bool) (h : Heap) (it l : Addr) (k : Nat) : Prop := match b with
  | true => h.IsTupleIter it l k
  | false => h.IsListIter it l k
def Sq (b : Bool) (h : Heap) (l : Addr) (xs : Array Value) : Prop := match b with
  | true => h.IsTuple l xs
  | false => h.IsList l xs
theorem SqI.extBut {p : Bool} {h h' : Heap} {a b l i} (x : SqI p h a l i) (hs : Heap.ExtBut b h h') (hab : a ≠ b) : SqI p h' a l i := by
  cases p with
  | true => exact Heap.IsTupleIter.extBut x hs hab
  | false => exact Heap.IsListIter.extBut x hs hab
theorem SqI.at {p : Bool} {h h' : Heap} {a l i} (x : SqI p h a l i) (e : ∀ o, h.get? a = some o → h'.get? a = some o) : SqI p h' a l i := by
  cases p with
  | true => exact Heap.IsTupleIter.at x e
  | false => exact Heap.IsListIter.at x e
theorem SqI.lt {p : Bool} {h : Heap} {a l i} (x : SqI p h a l i) : a < h.objs.size := by
  cases p with
  | true => obtain ⟨_, e, _⟩ := x; exact Heap.lt_size e
  | false => obtain ⟨_, e, _⟩ := x; exact Heap.lt_size e
theorem SqI.obj {p : Bool} {h : Heap} {a l i} (x : SqI p h a l i) : ∃ o, h.get? a = some o ∧ ∀ v, o.data ≠ .cell v := by
  cases p with
  | true => obtain ⟨o, e, _, d⟩ := x; exact ⟨o, e, fun v q => by rw [d] at q; cases q⟩
  | false => obtain ⟨o, e, _, d⟩ := x; exact ⟨o, e, fun v q => by rw [d] at q; cases q⟩
theorem Sq.extBut {p : Bool} {h h' : Heap} {a b xs} (x : Sq p h a xs) (hs : Heap.ExtBut b h h') (hab : a ≠ b) : Sq p h' a xs := by
  cases p with
  | true => exact Heap.IsTuple.extBut x hs hab
  | false => exact Heap.IsList.extBut x hs hab
section
variable {prog : Program} {w : World} {A : Around} {E : Value → Shared → Prop} {s : Shared}
theorem nextOf_sq_item {p : Bool} {it l : Addr} {i : Nat} {items} {x : Value} {Q : Value → Shared → Prop} (hit : SqI p s.heap it l i)
    (hl : Sq p s.heap l items) (hx : items[i]? = some x)
    (hQ : ∀ h', SqI p h' it l (i + 1) → Heap.SameBut it s.heap h' → Q x { s with heap := h' }) :
    wpAny (model prog w) A (Builtin.SmallTypes.nextOf (.ref it)) Q E s := by
  cases p with
  | true => exact nextOf_tuple_item hit hl hx hQ
  | false => exact wpAny_nextOf_list_item hit hl hx hQ
theorem nextOf_sq_end {p : Bool} {it l : Addr} {i : Nat} {items} {Q : Value → Shared → Prop} (hh : A.handled = none)
    (hit : SqI p s.heap it l i) (hl : Sq p s.heap l items) (hx : items[i]? = none)
    (hE : ∀ h' e, Heap.ExtBut it s.heap h' → (∃ o, h'.get? e = some o ∧ o.cls = .type "StopIteration") → E (.ref e) { s with heap := h' }) :
    wpAny (model prog w) A (Builtin.SmallTypes.nextOf (.ref it)) Q E s := by
  cases p with
  | true => exact nextOf_tuple_end hh hit hl hx hE
  | false => exact wpAny_nextOf_list_end hh hit hl hx hE

theorem zipG_next_item {z TI TO i1 i2 l1 l2 : Addr} {k1 k2 : Nat} {p1 p2 : Bool} {xs ys : Array Value} {x y a b : Value} {Q : Value → Shared → Prop} (D : ZipApart z TI TO i1 i2 l1 l2)
    (hz : IsZip s.heap z TI TO .none) (hTI : IsPair s.heap TI (.ref i1) (.ref i2)) (hTO : IsPair s.heap TO a b)
    (h1 : SqI p1 (s.heap) i1 l1 k1) (h2 : SqI p2 (s.heap) i2 l2 k2) (hl1 : Sq p1 s.heap l1 xs) (hl2 : Sq p2 s.heap l2 ys) (hx : xs[k1]? = some x) (hy : ys[k2]? = some y)
    (hQ : ∀ h', IsZip h' z TI TO (rawInt s.heap.objs.size) → IsPair h' TO x y → SqI p1 (h') i1 l1 (k1 + 1) → SqI p2 (h') i2 l2 (k2 + 1) → IsPair h' s.heap.objs.size x y → h'.objs.size = s.heap.objs.size + 1 →
      (∀ c o, c ≠ z → c ≠ TO → c ≠ i1 → c ≠ i2 → s.heap.get? c = some o → h'.get? c = some o) → Q (.ref s.heap.objs.size) { s with heap := h' }) :
    wpAny (model prog w) A (Builtin.«zip.__next__» ⟨[.ref z], []⟩) (fun fin s' => ∃ v, fin = .done (.ret v) ∧ Q v s') E s := by
  show wpAny _ _ (field (.ref z) 2 >>= _) _ _ _
  refine wpAny_bind (wpAny_field hz rfl (x := .bool false) rfl ?_)
  show wpAny _ _ (field (.ref z) 3 >>= _) _ _ _
  refine wpAny_bind (wpAny_field hz rfl (x := .ref TI) rfl ?_)
  refine wpAny_bind (wpAny_seqItems hTI rfl ?_)
  show wpAny _ _ (Builtin.SmallTypes.ownedTupleIsFree (.ref z) >>= _) _ _ _
  refine wpAny_bind ?_
  unfold Builtin.SmallTypes.ownedTupleIsFree
  refine wpAny_bind (wpAny_field hz rfl (x := .none) rfl (wpAny_pure ?_))
  simp only [if_true]
  refine wpAny_bind (wpAny_rule ?_)
  refine wpAny_bind (wpAny_field hz rfl (x := .ref TO) rfl ?_)
  refine wpAny_bind (wpAny_setField_rec hz (by simp) fun h₁ hz₁ hs₁ => ?_)
  replace hz₁ : IsZip h₁ z TI TO .ellipsis := hz₁
  refine wpAny_bind ?_
  simp only [List.zipIdx_cons, List.zipIdx_nil, List.forIn_cons, List.forIn_nil]

  refine wpAny_bind (wpAny_bind (wpAny_onRaise ?_))
  show wpAny _ _ (Builtin.SmallTypes.nextOf (.ref i1) >>= _) _ _ _
  refine wpAny_bind (nextOf_sq_item (h1.extBut hs₁.extBut D.i1z) (hl1.extBut hs₁.extBut D.l1z) hx fun h₂ h1₂ hs₂ => wpAny_pure ?_)
  have hTO₂ : IsPair h₂ TO a b := hs₂.extBut _ _ D.TOi1 (hs₁.extBut _ _ D.TOz hTO)
  refine wpAny_bind (wpAny_seqItems hTO₂ rfl ?_)
  refine wpAny_bind (wpAny_updateSeq_pair hTO₂ fun h₃ hTO₃ hs₃ => ?_)
  replace hTO₃ : IsPair h₃ TO x b := hTO₃
  refine wpAny_bind (wpAny_letGo (wpAny_pure ?_))

  refine wpAny_bind (wpAny_bind (wpAny_onRaise ?_))
  show wpAny _ _ (Builtin.SmallTypes.nextOf (.ref i2) >>= _) _ _ _
  refine wpAny_bind (nextOf_sq_item (((h2.extBut hs₁.extBut D.i2z).extBut hs₂.extBut D.i12.symm).extBut hs₃.extBut D.TOi2.symm)
    (((hl2.extBut hs₁.extBut D.l2z).extBut hs₂.extBut D.l2i1).extBut hs₃.extBut D.l2TO) hy fun h₄ h2₄ hs₄ => wpAny_pure ?_)
  have hTO₄ : IsPair h₄ TO x b := hs₄.extBut _ _ D.TOi2 hTO₃
  refine wpAny_bind (wpAny_seqItems hTO₄ rfl ?_)
  refine wpAny_bind (wpAny_updateSeq_pair hTO₄ fun h₅ hTO₅ hs₅ => ?_)
  replace hTO₅ : IsPair h₅ TO x y := hTO₅
  refine wpAny_bind (wpAny_letGo (wpAny_pure (wpAny_pure ?_)))

  refine wpAny_bind (wpAny_seqItems hTO₅ rfl ?_)
  refine wpAny_bind (wpAny_newTuple ?_)
  have hsz : h₅.objs.size = s.heap.objs.size := by rw [hs₅.1, hs₄.1, hs₃.1, hs₂.1, hs₁.1]
  have hz₅ : IsZip h₅ z TI TO .ellipsis := hs₅.extBut _ _ D.TOz.symm (hs₄.extBut _ _ D.i2z.symm (hs₃.extBut _ _ D.TOz.symm (hs₂.extBut _ _ D.i1z.symm hz₁)))
  have hk₅ : ∀ c o, c ≠ z → c ≠ TO → c ≠ i1 → c ≠ i2 → s.heap.get? c = some o → h₅.get? c = some o := fun c o c1 c2 c3 c4 e =>
    hs₅.extBut _ _ c2 (hs₄.extBut _ _ c4 (hs₃.extBut _ _ c2 (hs₂.extBut _ _ c3 (hs₁.extBut _ _ c1 e))))
  have h1₅ : SqI p1 (h₅) i1 l1 (k1 + 1) := ((h1₂.extBut hs₃.extBut D.TOi1.symm).extBut hs₄.extBut D.i12).extBut hs₅.extBut D.TOi1.symm
  have h2₅ : SqI p2 (h₅) i2 l2 (k2 + 1) := h2₄.extBut hs₅.extBut D.TOi2.symm
  have hzlt : z < h₅.objs.size := Heap.lt_size hz₅
  have hTOlt : TO < h₅.objs.size := Heap.lt_size hTO₅
  have hi1lt : i1 < h₅.objs.size := by exact h1₅.lt
  have hi2lt : i2 < h₅.objs.size := by exact h2₅.lt
  show wpAny _ _ (Builtin.SmallTypes.ownedTupleHandOut (.ref z) (.ref h₅.objs.size) >>= _) _ _ _
  refine wpAny_bind ?_
  unfold Builtin.SmallTypes.ownedTupleHandOut
  have hz₆ : IsZip (h₅.push { cls := .type "tuple", data := .seq #[x, y] }) z TI TO .ellipsis := Heap.get?_push_of_some _ hz₅
  refine wpAny_bind (wpAny_setField_rec hz₆ (by simp) fun h₇ hz₇ hs₇ => ?_)
  replace hz₇ : IsZip h₇ z TI TO (rawInt h₅.objs.size) := hz₇
  refine wpAny_setField_rec hz₇ (by simp) fun h₈ hz₈ hs₈ => ?_
  replace hz₈ : IsZip h₈ z TI TO (rawInt h₅.objs.size) := hz₈
  have up : ∀ c o, c ≠ z → h₅.get? c = some o → h₈.get? c = some o := fun c o c1 e => hs₈.extBut _ _ c1 (hs₇.extBut _ _ c1 (Heap.get?_push_of_some _ e))
  have hT₈ : IsPair h₈ h₅.objs.size x y := hs₈.extBut _ _ (Nat.ne_of_gt hzlt) (hs₇.extBut _ _ (Nat.ne_of_gt hzlt) (Heap.get?_push_size _ rfl))
  have hz8 : h₈.objs.size = h₅.objs.size + 1 := by rw [hs₈.1, hs₇.1, Heap.size_push]
  rw [hsz] at hz₈ hT₈ hz8
  refine wpAny_pure ⟨_, rfl, ?_⟩
  show Q (.ref h₅.objs.size) _
  rw [hsz]
  exact hQ h₈ hz₈ (up _ _ D.TOz hTO₅) (h1₅.at fun o e => up _ o D.i1z e) (h2₅.at fun o e => up _ o D.i2z e) hT₈ hz8 fun c o c1 c2 c3 c4 e => up c o c1 (hk₅ c o c1 c2 c3 c4 e)

theorem zipG_next_end {z TI TO i1 i2 l1 l2 : Addr} {k1 k2 : Nat} {p1 p2 : Bool} {xs ys : Array Value} {a b : Value} {Q : Fin → Shared → Prop} (hh : A.handled = none) (D : ZipApart z TI TO i1 i2 l1 l2)
    (hz : IsZip s.heap z TI TO .none) (hTI : IsPair s.heap TI (.ref i1) (.ref i2)) (hTO : IsPair s.heap TO a b)
    (h1 : SqI p1 (s.heap) i1 l1 k1) (h2 : SqI p2 (s.heap) i2 l2 k2) (hl1 : Sq p1 s.heap l1 xs) (hl2 : Sq p2 s.heap l2 ys) (hend : xs[k1]? = none ∨ ys[k2]? = none)
    (hE : ∀ h' e, (∀ c o, c ≠ z → c ≠ TO → c ≠ i1 → c ≠ i2 → s.heap.get? c = some o → h'.get? c = some o) → (∃ o, h'.get? e = some o ∧ o.cls = .type "StopIteration") → E (.ref e) { s with heap := h' }) :
    wpAny (model prog w) A (Builtin.«zip.__next__» ⟨[.ref z], []⟩) Q E s := by
  show wpAny _ _ (field (.ref z) 2 >>= _) _ _ _
  refine wpAny_bind (wpAny_field hz rfl (x := .bool false) rfl ?_)
  show wpAny _ _ (field (.ref z) 3 >>= _) _ _ _
  refine wpAny_bind (wpAny_field hz rfl (x := .ref TI) rfl ?_)
  refine wpAny_bind (wpAny_seqItems hTI rfl ?_)
  show wpAny _ _ (Builtin.SmallTypes.ownedTupleIsFree (.ref z) >>= _) _ _ _
  refine wpAny_bind ?_
  unfold Builtin.SmallTypes.ownedTupleIsFree
  refine wpAny_bind (wpAny_field hz rfl (x := .none) rfl (wpAny_pure ?_))
  simp only [if_true]
  refine wpAny_bind (wpAny_rule ?_)
  refine wpAny_bind (wpAny_field hz rfl (x := .ref TO) rfl ?_)
  refine wpAny_bind (wpAny_setField_rec hz (by simp) fun h₁ hz₁ hs₁ => ?_)
  replace hz₁ : IsZip h₁ z TI TO .ellipsis := hz₁
  refine wpAny_bind ?_
  simp only [List.zipIdx_cons, List.zipIdx_nil, List.forIn_cons, List.forIn_nil]
  refine wpAny_bind (wpAny_bind (wpAny_onRaise ?_))
  show wpAny _ _ (Builtin.SmallTypes.nextOf (.ref i1) >>= _) _ _ _
  cases hx : xs[k1]? with
  | none =>
    refine wpAny_bind (nextOf_sq_end hh (h1.extBut hs₁.extBut D.i1z) (hl1.extBut hs₁.extBut D.l1z) hx fun h₂ e hs₂ he => ?_)
    obtain ⟨oe, hoe, hce⟩ := he
    have hz₂ : IsZip h₂ z TI TO .ellipsis := hs₂ _ _ D.i1z.symm hz₁
    have hez : e ≠ z := fun x => by subst x; rw [hz₂] at hoe; cases hoe; simp at hce
    refine wpAny_setField_rec hz₂ (by simp) fun h₃ _ hs₃ => hE h₃ e (fun c o c1 _ c3 _ x => hs₃.extBut _ _ c1 (hs₂ _ _ c3 (hs₁.extBut _ _ c1 x))) ⟨oe, hs₃.extBut _ _ hez hoe, hce⟩
  | some x =>
    have hy : ys[k2]? = none := by rcases hend with h | h; rw [hx] at h; cases h; exact h
    refine wpAny_bind (nextOf_sq_item (h1.extBut hs₁.extBut D.i1z) (hl1.extBut hs₁.extBut D.l1z) hx fun h₂ h1₂ hs₂ => wpAny_pure ?_)
    have hTO₂ : IsPair h₂ TO a b := hs₂.extBut _ _ D.TOi1 (hs₁.extBut _ _ D.TOz hTO)
    refine wpAny_bind (wpAny_seqItems hTO₂ rfl ?_)
    refine wpAny_bind (wpAny_updateSeq_pair hTO₂ fun h₃ hTO₃ hs₃ => ?_)
    refine wpAny_bind (wpAny_letGo (wpAny_pure ?_))
    refine wpAny_bind (wpAny_bind (wpAny_onRaise ?_))
    show wpAny _ _ (Builtin.SmallTypes.nextOf (.ref i2) >>= _) _ _ _
    refine wpAny_bind (nextOf_sq_end hh (((h2.extBut hs₁.extBut D.i2z).extBut hs₂.extBut D.i12.symm).extBut hs₃.extBut D.TOi2.symm)
      (((hl2.extBut hs₁.extBut D.l2z).extBut hs₂.extBut D.l2i1).extBut hs₃.extBut D.l2TO) hy fun h₄ e hs₄ he => ?_)
    obtain ⟨oe, hoe, hce⟩ := he
    have hz₄ : IsZip h₄ z TI TO .ellipsis := hs₄ _ _ D.i2z.symm (hs₃.extBut _ _ D.TOz.symm (hs₂.extBut _ _ D.i1z.symm hz₁))
    have hez : e ≠ z := fun x => by subst x; rw [hz₄] at hoe; cases hoe; simp at hce
    refine wpAny_setField_rec hz₄ (by simp) fun h₅ _ hs₅ => hE h₅ e (fun c o c1 c2 c3 c4 x => hs₅.extBut _ _ c1 (hs₄ _ _ c4 (hs₃.extBut _ _ c2 (hs₂.extBut _ _ c3 (hs₁.extBut _ _ c1 x))))) ⟨oe, hs₅.extBut _ _ hez hoe, hce⟩

theorem pyNext_zipG_item {z TI TO i1 i2 l1 l2 : Addr} {k1 k2 : Nat} {p1 p2 : Bool} {xs ys : Array Value} {x y a b : Value} {Q : Option Value → Shared → Prop} (D : ZipApart z TI TO i1 i2 l1 l2)
    (hz : IsZip s.heap z TI TO .none) (hTI : IsPair s.heap TI (.ref i1) (.ref i2)) (hTO : IsPair s.heap TO a b)
    (h1 : SqI p1 (s.heap) i1 l1 k1) (h2 : SqI p2 (s.heap) i2 l2 k2) (hl1 : Sq p1 s.heap l1 xs) (hl2 : Sq p2 s.heap l2 ys) (hx : xs[k1]? = some x) (hy : ys[k2]? = some y)
    (hQ : ∀ h', IsZip h' z TI TO (rawInt s.heap.objs.size) → IsPair h' TO x y → SqI p1 (h') i1 l1 (k1 + 1) → SqI p2 (h') i2 l2 (k2 + 1) → IsPair h' s.heap.objs.size x y → h'.objs.size = s.heap.objs.size + 1 →
      (∀ c o, c ≠ z → c ≠ TO → c ≠ i1 → c ≠ i2 → s.heap.get? c = some o → h'.get? c = some o) → Q (some (.ref s.heap.objs.size)) { s with heap := h' }) :
    wpAny (model prog w) A (pyNext (.ref z)) Q E s := by
  have hT : s.TypeIs (.ref z) "zip" := ⟨_, hz, rfl⟩
  unfold pyNext
  exact wpAny_bind (wpAny_attempt (wpAny_callSpecial?_slot (name := Str.ofString "__next__") hT F.slot_zip_next
    (wpAny_call_entry F.slot_zip_next hT F.entry_zip_next
      (zipG_next_item D hz hTI hTO h1 h2 hl1 hl2 hx hy fun h' a1 a2 a3 a4 a5 a6 a7 => wpAny_pure (hQ h' a1 a2 a3 a4 a5 a6 a7)) (F.args_zip_next_1 _))))

theorem pyNext_zipG_end {z TI TO i1 i2 l1 l2 : Addr} {k1 k2 : Nat} {p1 p2 : Bool} {xs ys : Array Value} {a b : Value} {Q : Option Value → Shared → Prop} (hh : A.handled = none) (D : ZipApart z TI TO i1 i2 l1 l2)
    (hz : IsZip s.heap z TI TO .none) (hTI : IsPair s.heap TI (.ref i1) (.ref i2)) (hTO : IsPair s.heap TO a b)
    (h1 : SqI p1 (s.heap) i1 l1 k1) (h2 : SqI p2 (s.heap) i2 l2 k2) (hl1 : Sq p1 s.heap l1 xs) (hl2 : Sq p2 s.heap l2 ys) (hend : xs[k1]? = none ∨ ys[k2]? = none)
    (hQ : ∀ h', (∀ c o, c ≠ z → c ≠ TO → c ≠ i1 → c ≠ i2 → s.heap.get? c = some o → h'.get? c = some o) → Q none { s with heap := h' }) : wpAny (model prog w) A (pyNext (.ref z)) Q E s := by
  have hT : s.TypeIs (.ref z) "zip" := ⟨_, hz, rfl⟩
  unfold pyNext
  refine wpAny_bind (wpAny_attempt (wpAny_callSpecial?_slot (name := Str.ofString "__next__") hT F.slot_zip_next
    (wpAny_call_entry F.slot_zip_next hT F.entry_zip_next (zipG_next_end hh D hz hTI hTO h1 h2 hl1 hl2 hend fun h' e hk he => ?_) (F.args_zip_next_1 _))))
  obtain ⟨o, ho, hc⟩ := he
  refine wpAny_bind (wpAny_isInstance (T := "StopIteration") (b := true) ⟨o, ho, hc⟩ isSubtype_stop ?_)
  exact wpAny_pure (hQ _ hk)
end
abbrev zipLTH1 (h : Heap) (l1 : Addr) : Heap := h.push { cls := .type "list_iterator", data := .fields #[.ref l1, .int 0 0] }
abbrev zipLTH2 (h : Heap) (l1 l2 : Addr) : Heap := (zipLTH1 h l1).push { cls := .type "tuple_iterator", data := .fields #[.ref l2, .int 0 0] }
abbrev zipLTH3 (h : Heap) (l1 l2 : Addr) : Heap := (zipLTH2 h l1 l2).push { cls := .type "tuple", data := .seq #[.ref h.objs.size, .ref (zipLTH1 h l1).objs.size] }
abbrev zipLTH4 (h : Heap) (l1 l2 : Addr) : Heap := (zipLTH3 h l1 l2).push { cls := .type "tuple", data := .seq #[.none, .none] }
abbrev zipLTH5 (h : Heap) (l1 l2 : Addr) : Heap := (zipLTH4 h l1 l2).push { cls := .type "zip", data := .fields #[.none, .bool false, .bool false, .ref (zipLTH2 h l1 l2).objs.size, .ref (zipLTH3 h l1 l2).objs.size] }

theorem meets_zipLT_new (l1 l2 : Addr) (xs ys : Array Value) :
    Meets (Builtin.«zip.__new__» ⟨[.type "zip", .ref l1, .ref l2], []⟩) (fun _ R s => s.heap.IsList l1 xs ∧ s.heap.IsTuple l2 ys ∧
      R (.ok (.ret (.ref (zipLTH4 s.heap l1 l2).objs.size))) { s with heap := zipLTH5 s.heap l1 l2 }) :=
  .of_wp fun prog w A R s h => by
    obtain ⟨hp, g, d, tk, os⟩ := s; obtain ⟨hl1, hl2, h⟩ := h
    have hsub := sub_zip
    have hL1 : Heap.IsList (Shared.heap ⟨hp, g, d, tk, os⟩) l1 xs := hl1
    have hL2 : Heap.IsTuple (Shared.heap ⟨hp.push { cls := .type "list_iterator", data := .fields #[.ref l1, .int 0 0] }, g, d, tk, os⟩) l2 ys := Heap.IsTuple.push hl2 _
    wp_walk using wpAny_pyIter_list hL1, wpAny_pyIter_tuple hL2
    exact ⟨_, rfl, h⟩

section
variable {prog : Program} {w : World} {A : Around} {E : Value → Shared → Prop} {s : Shared}

theorem call_zipLT {l1 l2 : Addr} {xs ys : Array Value} {Q : Value → Shared → Prop} (hl1 : s.heap.IsList l1 xs) (hl2 : s.heap.IsTuple l2 ys)
    (h : ∀ h', IsZip h' (s.heap.objs.size + 4) (s.heap.objs.size + 2) (s.heap.objs.size + 3) .none → IsPair h' (s.heap.objs.size + 2) (.ref s.heap.objs.size) (.ref (s.heap.objs.size + 1)) →
      IsPair h' (s.heap.objs.size + 3) .none .none → h'.IsListIter s.heap.objs.size l1 0 → h'.IsTupleIter (s.heap.objs.size + 1) l2 0 → h'.objs.size = s.heap.objs.size + 5 →
      (∀ c o, s.heap.get? c = some o → h'.get? c = some o) → Q (.ref (s.heap.objs.size + 4)) { s with heap := h' }) :
    wpAny (model prog w) A (call (.type "zip") [.ref l1, .ref l2]) Q E s := by
  refine callType_new F.called_zip (by decide) (F.typeCall_zip_2 _ _) (F.newCall_zip_2 _ _) (fun obj => F.args_object_init_3 obj _ _) F.entry_zip_new
    (meets_zipLT_new l1 l2 xs ys) ⟨hl1, hl2, ?_⟩
  have z1 : (zipLTH1 s.heap l1).objs.size = s.heap.objs.size + 1 := Heap.size_push ..
  have z2 : (zipLTH2 s.heap l1 l2).objs.size = s.heap.objs.size + 2 := by rw [Heap.size_push, z1]
  have z3 : (zipLTH3 s.heap l1 l2).objs.size = s.heap.objs.size + 3 := by rw [Heap.size_push, z2]
  have z4 : (zipLTH4 s.heap l1 l2).objs.size = s.heap.objs.size + 4 := by rw [Heap.size_push, z3]
  have z5 : (zipLTH5 s.heap l1 l2).objs.size = s.heap.objs.size + 5 := by rw [Heap.size_push, z4]
  have g5 : (zipLTH5 s.heap l1 l2).get? (zipLTH4 s.heap l1 l2).objs.size = some _ := Heap.get?_push_size _ rfl
  have g4 : (zipLTH5 s.heap l1 l2).get? (zipLTH3 s.heap l1 l2).objs.size = some _ := Heap.get?_push_of_some _ (Heap.get?_push_size _ rfl)
  have g3 : (zipLTH5 s.heap l1 l2).get? (zipLTH2 s.heap l1 l2).objs.size = some _ := Heap.get?_push_of_some _ (Heap.get?_push_of_some _ (Heap.get?_push_size _ rfl))
  have g2 : (zipLTH5 s.heap l1 l2).get? (zipLTH1 s.heap l1).objs.size = some _ := Heap.get?_push_of_some _ (Heap.get?_push_of_some _ (Heap.get?_push_of_some _ (Heap.get?_push_size _ rfl)))
  have g1 : (zipLTH5 s.heap l1 l2).get? s.heap.objs.size = some _ := Heap.get?_push_of_some _ (Heap.get?_push_of_some _ (Heap.get?_push_of_some _ (Heap.get?_push_of_some _ (Heap.get?_push_size _ rfl))))
  show _ ∧ _
  rw [z2, z3, z4] at g5
  rw [z1, z2] at g3
  rw [z3] at g4
  rw [z1] at g2
  rw [z4]
  exact ⟨⟨_, g5, rfl⟩, h _ g5 g3 g4 ⟨_, g1, rfl, rfl⟩ ⟨_, g2, rfl, rfl⟩ z5 fun c o x =>
    Heap.get?_push_of_some _ (Heap.get?_push_of_some _ (Heap.get?_push_of_some _ (Heap.get?_push_of_some _ (Heap.get?_push_of_some _ x))))⟩
end
abbrev zipTLH1 (h : Heap) (l1 : Addr) : Heap := h.push { cls := .type "tuple_iterator", data := .fields #[.ref l1, .int 0 0] }
abbrev zipTLH2 (h : Heap) (l1 l2 : Addr) : Heap := (zipTLH1 h l1).push { cls := .type "list_iterator", data := .fields #[.ref l2, .int 0 0] }
abbrev zipTLH3 (h : Heap) (l1 l2 : Addr) : Heap := (zipTLH2 h l1 l2).push { cls := .type "tuple", data := .seq #[.ref h.objs.size, .ref (zipTLH1 h l1).objs.size] }
abbrev zipTLH4 (h : Heap) (l1 l2 : Addr) : Heap := (zipTLH3 h l1 l2).push { cls := .type "tuple", data := .seq #[.none, .none] }
abbrev zipTLH5 (h : Heap) (l1 l2 : Addr) : Heap := (zipTLH4 h l1 l2).push { cls := .type "zip", data := .fields #[.none, .bool false, .bool false, .ref (zipTLH2 h l1 l2).objs.size, .ref (zipTLH3 h l1 l2).objs.size] }

theorem meets_zipTL_new (l1 l2 : Addr) (xs ys : Array Value) :
    Meets (Builtin.«zip.__new__» ⟨[.type "zip", .ref l1, .ref l2], []⟩) (fun _ R s => s.heap.IsTuple l1 xs ∧ s.heap.IsList l2 ys ∧
      R (.ok (.ret (.ref (zipTLH4 s.heap l1 l2).objs.size))) { s with heap := zipTLH5 s.heap l1 l2 }) :=
  .of_wp fun prog w A R s h => by
    obtain ⟨hp, g, d, tk, os⟩ := s; obtain ⟨hl1, hl2, h⟩ := h
    have hsub := sub_zip
    have hL1 : Heap.IsTuple (Shared.heap ⟨hp, g, d, tk, os⟩) l1 xs := hl1
    have hL2 : Heap.IsList (Shared.heap ⟨hp.push { cls := .type "tuple_iterator", data := .fields #[.ref l1, .int 0 0] }, g, d, tk, os⟩) l2 ys := Heap.IsList.push hl2 _
    wp_walk using wpAny_pyIter_tuple hL1, wpAny_pyIter_list hL2
    exact ⟨_, rfl, h⟩

section
variable {prog : Program} {w : World} {A : Around} {E : Value → Shared → Prop} {s : Shared}

theorem call_zipTL {l1 l2 : Addr} {xs ys : Array Value} {Q : Value → Shared → Prop} (hl1 : s.heap.IsTuple l1 xs) (hl2 : s.heap.IsList l2 ys)
    (h : ∀ h', IsZip h' (s.heap.objs.size + 4) (s.heap.objs.size + 2) (s.heap.objs.size + 3) .none → IsPair h' (s.heap.objs.size + 2) (.ref s.heap.objs.size) (.ref (s.heap.objs.size + 1)) →
      IsPair h' (s.heap.objs.size + 3) .none .none → h'.IsTupleIter s.heap.objs.size l1 0 → h'.IsListIter (s.heap.objs.size + 1) l2 0 → h'.objs.size = s.heap.objs.size + 5 →
      (∀ c o, s.heap.get? c = some o → h'.get? c = some o) → Q (.ref (s.heap.objs.size + 4)) { s with heap := h' }) :
    wpAny (model prog w) A (call (.type "zip") [.ref l1, .ref l2]) Q E s := by
  refine callType_new F.called_zip (by decide) (F.typeCall_zip_2 _ _) (F.newCall_zip_2 _ _) (fun obj => F.args_object_init_3 obj _ _) F.entry_zip_new
    (meets_zipTL_new l1 l2 xs ys) ⟨hl1, hl2, ?_⟩
  have z1 : (zipTLH1 s.heap l1).objs.size = s.heap.objs.size + 1 := Heap.size_push ..
  have z2 : (zipTLH2 s.heap l1 l2).objs.size = s.heap.objs.size + 2 := by rw [Heap.size_push, z1]
  have z3 : (zipTLH3 s.heap l1 l2).objs.size = s.heap.objs.size + 3 := by rw [Heap.size_push, z2]
  have z4 : (zipTLH4 s.heap l1 l2).objs.size = s.heap.objs.size + 4 := by rw [Heap.size_push, z3]
  have z5 : (zipTLH5 s.heap l1 l2).objs.size = s.heap.objs.size + 5 := by rw [Heap.size_push, z4]
  have g5 : (zipTLH5 s.heap l1 l2).get? (zipTLH4 s.heap l1 l2).objs.size = some _ := Heap.get?_push_size _ rfl
  have g4 : (zipTLH5 s.heap l1 l2).get? (zipTLH3 s.heap l1 l2).objs.size = some _ := Heap.get?_push_of_some _ (Heap.get?_push_size _ rfl)
  have g3 : (zipTLH5 s.heap l1 l2).get? (zipTLH2 s.heap l1 l2).objs.size = some _ := Heap.get?_push_of_some _ (Heap.get?_push_of_some _ (Heap.get?_push_size _ rfl))
  have g2 : (zipTLH5 s.heap l1 l2).get? (zipTLH1 s.heap l1).objs.size = some _ := Heap.get?_push_of_some _ (Heap.get?_push_of_some _ (Heap.get?_push_of_some _ (Heap.get?_push_size _ rfl)))
  have g1 : (zipTLH5 s.heap l1 l2).get? s.heap.objs.size = some _ := Heap.get?_push_of_some _ (Heap.get?_push_of_some _ (Heap.get?_push_of_some _ (Heap.get?_push_of_some _ (Heap.get?_push_size _ rfl))))
  show _ ∧ _
  rw [z2, z3, z4] at g5
  rw [z1, z2] at g3
  rw [z3] at g4
  rw [z1] at g2
  rw [z4]
  exact ⟨⟨_, g5, rfl⟩, h _ g5 g3 g4 ⟨_, g1, rfl, rfl⟩ ⟨_, g2, rfl, rfl⟩ z5 fun c o x =>
    Heap.get?_push_of_some _ (Heap.get?_push_of_some _ (Heap.get?_push_of_some _ (Heap.get?_push_of_some _ (Heap.get?_push_of_some _ x))))⟩
end

def SqV (p : Bool) (K : PySem.W.Frag) (H : Hp) (a : Addr) (xs : List V) : Prop := match p with
  | true => SqT K H a xs
  | false => SqL K H a xs
section
variable {X : Cx} {pins : List (Addr × Obj)} {σ : L2.St} {H : Hp} {s : Shared}
theorem SqV.at {p : Bool} {a : Addr} {xs : List V} (h : SqV p X.K H a xs) (I : Inv X pins σ H s) : ∃ its : List Value, Vals xs its ∧ Sq p s.heap a its.toArray ∧ xs.length ≤ sizeLine := by
  cases p with
  | true => obtain ⟨its, rv, q, z⟩ := I.tuple h; exact ⟨its, rv, q, z⟩
  | false => obtain ⟨its, rv, q, z⟩ := I.list h; exact ⟨its, rv, q.isList, z⟩
theorem SqV.inj {p : Bool} {a : Addr} {xs ys : List V} (I : Inv X pins σ H s) (h : SqV p X.K H a xs) (h' : SqV p X.K H a ys) : xs = ys := by
  cases p with
  | true => exact I.tuple_inj h h'
  | false => exact I.list_inj h h'
theorem Sq.lt {p : Bool} {h : Heap} {a : Addr} {xs : Array Value} (x : Sq p h a xs) : a < h.objs.size := by
  cases p with
  | true => obtain ⟨_, e, _⟩ := x; exact Heap.lt_size e
  | false => obtain ⟨_, e, _⟩ := x; exact Heap.lt_size e
theorem call_zipG {prog : Program} {w : World} {A : Around} {E : Value → Shared → Prop} {p1 p2 : Bool} {l1 l2 : Addr} {xs ys : Array Value} {Q : Value → Shared → Prop} (hl1 : Sq p1 s.heap l1 xs) (hl2 : Sq p2 s.heap l2 ys)
    (h : ∀ h', IsZip h' (s.heap.objs.size + 4) (s.heap.objs.size + 2) (s.heap.objs.size + 3) .none → IsPair h' (s.heap.objs.size + 2) (.ref s.heap.objs.size) (.ref (s.heap.objs.size + 1)) →
      IsPair h' (s.heap.objs.size + 3) .none .none → SqI p1 h' s.heap.objs.size l1 0 → SqI p2 h' (s.heap.objs.size + 1) l2 0 → h'.objs.size = s.heap.objs.size + 5 →
      (∀ c o, s.heap.get? c = some o → h'.get? c = some o) → Q (.ref (s.heap.objs.size + 4)) { s with heap := h' }) :
    wpAny (model prog w) A (call (.type "zip") [.ref l1, .ref l2]) Q E s := by
  cases p1 <;> cases p2
  · exact call_zip_2 hl1 hl2 h
  · exact call_zipLT hl1 hl2 h
  · exact call_zipTL hl1 hl2 h
  · exact call_zipT hl1 hl2 h
end
/-- the tuples at a and b as they stand at each turn, the items in new pairs -/
def ItzG (p1 p2 : Bool) (K : PySem.W.Frag) (a b : Addr) : It :=
  ⟨fun i H => ∃ (xs ys : List V) (x y : V), SqV p1 K H a xs ∧ SqV p2 K H b ys ∧ xs[i]? = some x ∧ ys[i]? = some y,
    fun i H v H' => ∃ T x y, v = .ref T ∧ H T = none ∧ ∃ o : Obj, o.dict = none ∧ H' = upd H T (.frz o (.tup [x, y])) ∧ (∀ xs, SqV p1 K H a xs → xs[i]? = some x) ∧ ∀ ys, SqV p2 K H b ys → ys[i]? = some y,
    fun i H => ∃ xs ys : List V, SqV p1 K H a xs ∧ SqV p2 K H b ys ∧ (xs.length ≤ i ∨ ys.length ≤ i)⟩
theorem turn_zipG {p1 p2 : Bool} {P : Program} {w : World} {K : PySem.W.Frag} {elts : List Expr} {kk : Nat} {tpos : Pos} {a b z TI TO i1 i2 : Addr} (D : ZipApart z TI TO i1 i2 a b) :
    Turn P w K (.Tuple elts kk tpos) (ItzG p1 p2 K a b) [z, TI, TO, i1, i2] z (fun i h => IsZip h z TI TO .none ∧ IsPair h TI (.ref i1) (.ref i2) ∧ (∃ x y, IsPair h TO x y) ∧ SqI p1 h i1 a i ∧ SqI p2 h i2 b i) where
  mem := by simp
  obj := fun i h st c hc => by
    obtain ⟨hz, hTI, ⟨x, y, hTO⟩, h1, h2⟩ := st
    obtain ⟨o1, e1, d1⟩ := h1.obj
    obtain ⟨o2, e2, d2⟩ := h2.obj
    have e' : c = z ∨ c = TI ∨ c = TO ∨ c = i1 ∨ c = i2 := by simpa using hc
    rcases e' with q | q | q | q | q
    · rw [q]; exact ⟨_, hz, fun v q => nomatch q⟩
    · rw [q]; exact ⟨_, hTI, fun v q => nomatch q⟩
    · rw [q]; exact ⟨_, hTO, fun v q => nomatch q⟩
    · rw [q]; exact ⟨o1, e1, d1⟩
    · rw [q]; exact ⟨o2, e2, d2⟩
  keep := fun i h h' st k => by
    obtain ⟨hz, hTI, ⟨x, y, hTO⟩, h1, h2⟩ := st
    exact ⟨k z (by simp) _ hz, k TI (by simp) _ hTI, ⟨x, y, k TO (by simp) _ hTO⟩, h1.at fun o q => k i1 (by simp) o q, h2.at fun o q => k i2 (by simp) o q⟩
  item := by
    intro X hP hw hK hc i pins s σ H E I hf st hg
    subst hP hw hK
    obtain ⟨hz, hTI, ⟨x0, y0, hTO⟩, h1, h2⟩ := st
    obtain ⟨xs, ys, x, y, hqx, hqy, hx, hy⟩ := hg
    obtain ⟨its, rv, p, _⟩ := hqx.at I
    obtain ⟨its2, rv2, p2, _⟩ := hqy.at I
    obtain ⟨u, hu, ru⟩ := rv.get hx
    obtain ⟨u2, hu2, ru2⟩ := rv2.get hy
    have hzl : z < s.heap.objs.size := Heap.lt_size hz
    refine pyNext_zipG_item D hz hTI hTO h1 h2 p p2 (x := u) (y := u2) (by simpa using hu) (by simpa using hu2) fun h' z' TO' h1' h2' hT hsz hk => ?_
    refine ⟨_, rfl, wpAny_letOwnedTupleGo_zip (s := { s with heap := h' }) z' fun h'' z'' sb => ?_⟩
    have hT2 : h''.get? s.heap.objs.size = some { cls := .type "tuple", data := .seq #[u, u2] } := (sb.2 _ (Nat.ne_of_gt hzl)).trans hT
    have new : ObjOk X.prog X.w (upd H s.heap.objs.size (.frz { cls := .type "tuple", data := .seq #[u, u2] } (.tup [x, y]))) h'' s.heap.objs.size (.frz { cls := .type "tuple", data := .seq #[u, u2] } (.tup [x, y])) :=
      ⟨hT2, by show 2 ≤ sizeLine; decide, [u, u2], .cons ru (.cons ru2 .nil), ⟨_, hT2, rfl, _, rfl⟩⟩
    have I1 : Inv X pins σ (upd H s.heap.objs.size (.frz { cls := .type "tuple", data := .seq #[u, u2] } (.tup [x, y]))) { s with heap := h'' } :=
      I.turnedNew (t' := s.toks) (ch := [z, TI, TO, i1, i2]) (fun c o hb q => (sb.2 c (fun q' => hb (by simp [q']))).trans (hk c o (fun q' => hb (by simp [q'])) (fun q' => hb (by simp [q'])) (fun q' => hb (by simp [q'])) (fun q' => hb (by simp [q'])) q)) hf (Nat.le_refl _) new
    refine ⟨.ref s.heap.objs.size, _, I1, rfl, ⟨_, x, y, rfl, I.hok.fresh (Nat.le_refl _), { cls := .type "tuple", data := .seq #[u, u2] }, rfl, rfl, fun l hl => by rw [SqV.inj I hl hqx]; exact hx, fun l hl => by rw [SqV.inj I hl hqy]; exact hy⟩, ⟨z'', ?_, ⟨u, u2, ?_⟩, ?_, ?_⟩, fun c hcm => ?_⟩
    · exact (sb.2 _ D.TIz).trans (hk _ _ D.TIz D.TITO D.TIi1 D.TIi2 hTI)
    · exact (sb.2 _ D.TOz).trans TO'
    · exact h1'.at fun o q => (sb.2 _ D.i1z).trans q
    · exact h2'.at fun o q => (sb.2 _ D.i2z).trans q
    · have hlt : c < s.heap.objs.size := by
        have e' : c = z ∨ c = TI ∨ c = TO ∨ c = i1 ∨ c = i2 := by simpa using hcm
        rcases e' with q | q | q | q | q
        · rw [q]; exact hzl
        · rw [q]; exact Heap.lt_size hTI
        · rw [q]; exact Heap.lt_size hTO
        · rw [q]; exact h1.lt
        · rw [q]; exact h2.lt
      rw [upd_ne (Nat.ne_of_lt hlt)]
      exact (hf c hcm).1
  done := by
    intro X hP hw hK hc i pins s σ H E I hf st hg
    subst hP hw hK
    obtain ⟨hz, hTI, ⟨x0, y0, hTO⟩, h1, h2⟩ := st
    obtain ⟨xs, ys, hqx, hqy, hend⟩ := hg
    obtain ⟨its, rv, p, _⟩ := hqx.at I
    obtain ⟨its2, rv2, p2, _⟩ := hqy.at I
    have l1 := rv.length
    have l2 := rv2.length
    have he : its.toArray[i]? = none ∨ its2.toArray[i]? = none := by
      rcases hend with q | q
      · exact .inl (by simp; omega)
      · exact .inr (by simp; omega)
    exact pyNext_zipG_end (I.ok.hd hc) D hz hTI hTO h1 h2 p p2 he fun h' hk => ⟨rfl, I.turnedL (t' := s.toks) (ch := [z, TI, TO, i1, i2]) (fun c o hb q =>
      hk c o (fun q' => hb (by simp [q'])) (fun q' => hb (by simp [q'])) (fun q' => hb (by simp [q'])) (fun q' => hb (by simp [q'])) q) hf⟩
  self := fun A i s Q E st h => wpAny_pyIter_zip st.1 h
def iZipG (K : PySem.W.Frag) (ta : TA) : TI := fun σ H R => ta σ H fun vs H1 => ∃ p1 p2 a b xs ys, vs = [.ref a, .ref b] ∧ SqV p1 K H1 a xs ∧ SqV p2 K H1 b ys ∧ R (ItzG p1 p2 K a b) H1
theorem pi_zipG {X : Cx} {e e2 : Expr} {ta : TA} {p pos tpos : Pos} {elts : List Expr} {kk : Nat} (hg : Gl X "zip") (hm : X.mg "zip" = none) (ha : PA X [e, e2] ta)
    (hs : starEach [e, e2] X.env = (false, eval e X.env) :: starEach [e2] X.env := by rfl) (hpl : (backTo pos (starEach [e2] X.env)).any (·.1) = false := by rfl) :
    PI X (.Tuple elts kk tpos) (.Call (.Name "zip" p) [e, e2] [] pos) (iZipG X.K ta) := by
  refine ⟨fun pins s σ H R I h => ?_⟩
  refine Call_ (ld_blt I hg hm PyProof.Rows.boot_zip (PyProof.Rows.callWith_type1 (thn (ha.run pos pins s σ H _ I h) fun us s1 ⟨vs, H1, I1, r1, q1⟩ => ?_) hs hpl))
  obtain ⟨b1, b2, a, b, xs, ys, ex, hqx, hqy, q⟩ := q1
  subst ex
  cases r1 with
  | cons r rr =>
    cases rr with
    | cons r' rr =>
      cases rr
      cases r
      cases r'
      have fresh5 : ∀ c, c ∈ [s1.heap.objs.size + 4, s1.heap.objs.size + 2, s1.heap.objs.size + 3, s1.heap.objs.size, s1.heap.objs.size + 1] → FpOk X pins H1 c := fun c hcm => by
        have e' : c = s1.heap.objs.size + 4 ∨ c = s1.heap.objs.size + 2 ∨ c = s1.heap.objs.size + 3 ∨ c = s1.heap.objs.size ∨ c = s1.heap.objs.size + 1 := by simpa using hcm
        have hle : s1.heap.objs.size ≤ c := by
          rcases e' with z | z | z | z | z
          · rw [z]; exact Nat.le_add_right _ _
          · rw [z]; exact Nat.le_add_right _ _
          · rw [z]; exact Nat.le_add_right _ _
          · rw [z]; exact Nat.le_refl _
          · rw [z]; exact Nat.le_add_right _ _
        exact I1.fpOk hle (I1.hok.fresh hle)
      obtain ⟨its, rv, p1, _⟩ := hqx.at I1
      obtain ⟨its2, rv2, p2, _⟩ := hqy.at I1
      refine call_zipG p1 p2 fun h' hz hTI hTO h1 h2 hsz hk => wpAny_pyIter_zip hz ?_
      have I2 : Inv X pins σ H1 { s1 with heap := h' } := I1.kept (t' := s1.toks) hk
      exact ⟨s1.heap.objs.size + 4, [s1.heap.objs.size + 4, s1.heap.objs.size + 2, s1.heap.objs.size + 3, s1.heap.objs.size, s1.heap.objs.size + 1], _, _, H1, rfl, I2, turn_zipG (PySem.W.ktu_apart s1.heap.objs.size a b p1.lt p2.lt), ⟨hz, hTI, ⟨_, _, hTO⟩, h1, h2⟩, fresh5, q⟩

end E3
set_option Elab.async false
set_option linter.all false
set_option maxRecDepth 100000
set_option maxHeartbeats 1000000
/-! Rules: zip; comprehensions. -/
namespace E3
open PySem PySem.Spec PyProof.Rows L2
section
variable {X : Cx} {a b c : Expr} {f g h : Fv} {pos p : Pos}
variable {K : PySem.W.Frag} {H H' H0 H1 H2 : Hp} {Z Z' Z0 Z1 Z2 : Addr → Prop} {ι ι' ι0 ι1 ι2 : List Addr} {σ σ' σ1 : St} {s s' s0 s1 s2 s3 : S} {v : V} {d e : D} {tg : Tg}
theorem items_sq (r : Rel K H Z ι v d) {xs : List D} (h : itemsD d = some xs) : ∃ p a vs, v = .ref a ∧ (∀ H', Stb Z H H' → SqV p K H' a vs) ∧ Rels K H Z ι vs xs := by
  cases d with
  | tup ys =>
    cases h
    obtain ⟨q, vs, rfl, h1, q1⟩ := RelW.tupX (.inl r)
    exact ⟨true, q, vs, rfl, fun H' hH => ((stb_kp (ι := ι) hH).t _ _ h1).sq, q1⟩
  | lst ys =>
    cases h
    cases r with
    | lst z h1 q1 => exact ⟨false, _, _, rfl, fun H' hH => .inl (.inl (hH _ _ h1 (.inl z))), q1⟩
  | fzl ns =>
    cases h
    obtain ⟨q, rfl, h1⟩ := RelW.fzl (.inl r)
    exact ⟨false, q, _, rfl, fun H' hH => ((stb_kp (ι := ι) hH).s _ _ h1).sq, rels_fzl ns⟩
  | _ => cases h
theorem walks_zip {p1 p2 : Bool} {x y : Addr} {vs ws : List V} {xs ys : List D} (h1 : ∀ H', Stb Z H H' → SqV p1 K H' x vs) (h2 : ∀ H', Stb Z H H' → SqV p2 K H' y ws) (r1 : Rels K H Z ι vs xs) (r2 : Rels K H Z ι ws ys) : Walks K (ItzG p1 p2 K x y) H Z ι (zipD xs ys) where
  go := fun H' hH i hi => by
    have hi' : i < xs.length ∧ i < ys.length := by
      have : i < (xs.zip ys).length := by simpa [zipD] using hi
      rw [List.length_zip] at this
      exact ⟨Nat.lt_of_lt_of_le this (Nat.min_le_left _ _), Nat.lt_of_lt_of_le this (Nat.min_le_right _ _)⟩
    have l1 : i < vs.length := by rw [r1.length]; exact hi'.1
    have l2 : i < ws.length := by rw [r2.length]; exact hi'.2
    exact ⟨vs, ws, vs[i], ws[i], h1 _ hH, h2 _ hH, List.getElem?_eq_getElem l1, List.getElem?_eq_getElem l2⟩
  yld := fun H' hH i u H2 ⟨T, u1, u2, eu, hT, o, ho, eH, q1, q2⟩ => by
    subst eu eH
    have g1 := q1 vs (h1 _ hH)
    have g2 := q2 ws (h2 _ hH)
    refine ⟨ext_upd hT, fun d hd => ?_⟩
    unfold zipD at hd
    rw [List.getElem?_map] at hd
    obtain ⟨⟨d1, d2⟩, hz, e⟩ := Option.map_eq_some_iff.mp hd
    subst e
    rw [List.getElem?_zip_eq_some] at hz
    obtain ⟨v1, e1, k1⟩ := r1.get hz.1
    obtain ⟨v2, e2, k2⟩ := r2.get hz.2
    rw [g1] at e1; cases e1
    rw [g2] at e2; cases e2
    have k := (stb_kp (K := K) (ι := ι) hH)
    have k' : Kp K H' Z ι (upd H' T (.frz o (.tup [u1, u2]))) Z ι := kp_ext (ext_upd hT)
    exact .tup (.inl ⟨o, upd_same, ho⟩) (.cons ((k1.mono k).mono k') (.cons ((k2.mono k).mono k') .nil))
  stop := fun H' hH => by
    refine ⟨vs, ws, h1 _ hH, h2 _ hH, ?_⟩
    have : (zipD xs ys).length = min xs.length ys.length := by simp [zipD]
    rw [this, r1.length, r2.length]
    rcases Nat.le_total xs.length ys.length with q | q
    · rw [Nat.min_eq_left q]; exact .inl (Nat.le_refl _)
    · rw [Nat.min_eq_right q]; exact .inr (Nat.le_refl _)
theorem pi_zpF {elts : List Expr} {kk : Nat} {tpos : Pos} (hg : Gl X "zip") (hm : X.mg "zip" = none) (ha : PE X a (tE X.K f)) (hb : PE X b (tE X.K g)) (hs : starEach [a, b] X.env = [(false, eval a X.env), (false, eval b X.env)]) (hs2 : starEach [b] X.env = [(false, eval b X.env)]) :
    PI X (.Tuple elts kk tpos) (.Call (.Name "zip" p) [a, b] [] pos) (tI X.K (zpF f g)) := by
  have hpl : (backTo pos (starEach [b] X.env)).any (·.1) = false := by rw [hs2]; rfl
  refine PI.imp (pi_zipG hg hm (pa_consF ha (pa_consF hb pa_nilF hs2) (by rw [hs, hs2])) (by rw [hs, hs2]) hpl) fun σ H R' ⟨Z, ι, s, ds, s', R, hf, hq⟩ => ?_
  obtain ⟨⟨d0, s1⟩, f0, hf⟩ := Option.bind_eq_some_iff.mp hf
  obtain ⟨⟨d1, s2⟩, f1, hf⟩ := Option.bind_eq_some_iff.mp hf
  obtain ⟨xs, hx, hf⟩ := Option.bind_eq_some_iff.mp hf
  obtain ⟨ys, hy, hf⟩ := Option.bind_eq_some_iff.mp hf
  cases hf
  refine ⟨Z, ι, s, [d0, d1], s2, R, ?_, fun vs H1 Z1 ι1 N1 r1 => ?_⟩
  · show ((hF f s).bind fun h => ((((hF g h.2).bind fun h => ((some ([], h.2) : Option (List D × S))).map fun r => (h.1 :: r.1, r.2))).map fun r => (h.1 :: r.1, r.2))) = _
    rw [f0]
    show ((((hF g s1).bind fun h => ((some ([], h.2) : Option (List D × S))).map fun r => (h.1 :: r.1, r.2))).map fun r => (d0 :: r.1, r.2)) = _
    rw [f1]
    rfl
  · cases r1 with
    | cons q1 r1 =>
      cases r1 with
      | cons q2 r1 =>
        cases r1
        obtain ⟨p1, x, vs, rfl, h1, t1⟩ := items_sq q1 hx
        obtain ⟨p2, y, ws, rfl, h2, t2⟩ := items_sq q2 hy
        exact ⟨p1, p2, x, y, vs, ws, rfl, h1 _ Stb.refl, h2 _ Stb.refl, hq _ H1 Z1 ι1 N1 (walks_zip h1 h2 t1 t2)⟩
end
end E3
set_option Elab.async false
set_option linter.all false
set_option maxRecDepth 100000
set_option maxHeartbeats 1000000
/-! Rules: comprehensions. -/
namespace E3
open PySem PySem.Spec PyProof.Rows L2
section
variable {X : Cx} {a b c : Expr} {f g h : Fv} {pos p : Pos}
variable {K : PySem.W.Frag} {H H' H0 H1 H2 H3 H4 : Hp} {Z Z' Z0 Z1 Z2 Z3 Z4 : Addr → Prop} {ι ι' ι0 ι1 ι2 ι3 ι4 : List Addr} {σ σ' σ1 σ2 : St} {s s' s0 s1 s2 s3 s4 : S} {v : V} {d e : D} {tg : Tg}
theorem wipeS_mh (s : S) : ∀ vs : List Nat, (wipeS s vs).mh = s.mh
  | [] => rfl
  | _ :: vs => wipeS_mh s vs
theorem wipeS_len (s : S) : ∀ vs : List Nat, (wipeS s vs).sl.length = s.sl.length
  | [] => rfl
  | v :: vs => by
    show ((wipeS s vs).sl.set v none).length = _
    rw [List.length_set, wipeS_len s vs]
theorem wipeS_some {i : Nat} {x : D × Bool} : ∀ {vs : List Nat}, (wipeS s vs).sl[i]? = some (some x) → s.sl[i]? = some (some x) ∧ i ∉ vs
  | [], h => ⟨h, by simp⟩
  | v :: vs, h => by
    have h' : ((wipeS s vs).sl.set v none)[i]? = some (some x) := h
    by_cases hi : v = i
    · subst hi
      by_cases hv : v < (wipeS s vs).sl.length
      · rw [List.getElem?_set_self hv] at h'; cases h'
      · rw [List.getElem?_eq_none (by simpa using hv)] at h'; cases h'
    · rw [List.getElem?_set_ne hi] at h'
      obtain ⟨h1, h2⟩ := wipeS_some h'
      exact ⟨h1, by simp only [List.mem_cons, not_or]; exact ⟨fun e => hi e.symm, h2⟩⟩
theorem wipeS_out {i : Nat} : ∀ {vs : List Nat}, i ∉ vs → (wipeS s vs).sl[i]? = s.sl[i]?
  | [], _ => rfl
  | v :: vs, h => by
    show ((wipeS s vs).sl.set v none)[i]? = _
    rw [List.getElem?_set_ne (fun e => h (by simp [e]))]
    exact wipeS_out fun m => h (List.mem_cons_of_mem _ m)
theorem wipe_outV {i : Nat} : ∀ {vs : List Nat}, i ∉ vs → (wipe σ vs)[i]? = σ[i]?
  | [], _ => rfl
  | v :: vs, h => by
    show ((wipe σ vs).set v none)[i]? = _
    rw [List.getElem?_set_ne (fun e => h (by simp [e]))]
    exact wipe_outV fun m => h (List.mem_cons_of_mem _ m)
theorem wipe_in {i : Nat} : ∀ {vs : List Nat}, i ∈ vs → (wipe σ vs)[i]? = if i < σ.length then some none else none
  | v :: vs, h => by
    show ((wipe σ vs).set v none)[i]? = _
    rw [List.getElem?_set]
    split
    · rename_i e
      subst e
      rw [wipe_length]
    · rename_i e
      have hm : i ∈ vs := by
        rcases List.mem_cons.mp h with q | q
        · exact absurd q.symm e
        · exact q
      exact wipe_in hm
theorem wipe_eq {vs : List Nat} (hl : σ'.length = σ.length) (ho : ∀ j, j ∉ vs → σ'[j]? = σ[j]?) : wipe σ' vs = wipe σ vs := by
  apply List.ext_getElem?
  intro j
  by_cases hj : j ∈ vs
  · rw [wipe_in hj, wipe_in hj, hl]
  · rw [wipe_outV hj, wipe_outV hj, ho j hj]
theorem backS_mh (s0 s : S) : ∀ vs : List Nat, (backS s0 s vs).mh = s.mh
  | [] => rfl
  | _ :: vs => backS_mh s0 s vs
theorem backS_len (s0 s : S) : ∀ vs : List Nat, (backS s0 s vs).sl.length = s.sl.length
  | [] => rfl
  | v :: vs => by
    show ((backS s0 s vs).sl.set v _).length = _
    rw [List.length_set, backS_len s0 s vs]
theorem backS_out {i : Nat} : ∀ {vs : List Nat}, i ∉ vs → (backS s0 s vs).sl[i]? = s.sl[i]?
  | [], _ => rfl
  | v :: vs, h => by
    show ((backS s0 s vs).sl.set v _)[i]? = _
    rw [List.getElem?_set_ne (fun e => h (by simp [e]))]
    exact backS_out fun m => h (List.mem_cons_of_mem _ m)
theorem backS_in {i : Nat} (hl : s0.sl.length = s.sl.length) : ∀ {vs : List Nat}, i ∈ vs → (backS s0 s vs).sl[i]? = s0.sl[i]?
  | v :: vs, h => by
    show ((backS s0 s vs).sl.set v _)[i]? = _
    rw [List.getElem?_set]
    split
    · rename_i e
      subst e
      rw [backS_len]
      split
      · rename_i hv
        rw [← hl] at hv
        rw [List.getElem?_eq_getElem hv]
        rfl
      · rename_i hv
        rw [← hl] at hv
        rw [List.getElem?_eq_none (Nat.le_of_not_lt hv)]
    · rename_i e
      have hm : i ∈ vs := by
        rcases List.mem_cons.mp h with q | q
        · exact absurd q.symm e
        · exact q
      exact backS_in hl hm
theorem wr_wipe {vs : List Nat} {x : Addr} (w : Wr (wipe σ vs) (wipeS s vs) ι x) : Wr σ s ι x := by
  rcases w with w | ⟨i, d, h1, h2⟩
  · exact .inl w
  · exact .inr ⟨i, d, (wipeS_some h1).1, (wipe_some h2).1⟩
theorem SR.wipe {vs : List Nat} (R : SR K H Z ι σ s) : SR K H Z ι (wipe σ vs) (wipeS s vs) where
  len := by rw [wipe_length, wipeS_len]; exact R.len
  st := fun i d e => by
    obtain ⟨h1, h2⟩ := wipeS_some e
    rw [wipe_outV h2]
    exact R.st i d h1
  ow := fun i d e => by
    obtain ⟨h1, h2⟩ := wipeS_some e
    rw [wipe_outV h2]
    exact R.ow i d h1
  ap := fun i j d d' a e1 e2 q1 q2 => R.ap i j d d' a (wipeS_some e1).1 (wipeS_some e2).1 (wipe_some q1).1 (wipe_some q2).1
  il := by rw [wipeS_mh]; exact R.il
  mh := by rw [wipeS_mh]; exact R.mh
  nd := R.nd
  zd := R.zd
/-- one turn of a block: from the wiped state to the wiped state -/
theorem Nxt.turn {vs ws : List Nat} (ex : ∀ a o, H a = some o → H' a = some o) (hw : L2.wipe σ2 vs = L2.wipe σ vs) (B : Bnd ws (L2.wipe σ vs) (wipeS s vs) σ2 s2)
    (N : Nxt K σ2 H' Z ι s2 H4 Z4 ι4 s4) : Nxt K (L2.wipe σ vs) H Z ι (wipeS s vs) H4 Z4 ι4 (wipeS s4 vs) := by
  have hn : ∀ a, H' a = none → H a = none := fun a h => by
    cases e : H a with
    | none => rfl
    | some o => rw [ex a o e] at h; cases h
  refine ⟨hw ▸ N.sr.wipe, fun a o e w => N.fr a o (ex a o e) fun w2 => w (B.wr w2), N.zs, fun a z => ?_, fun a w => ?_, fun a h => N.dm a fun q => h (hn a q), N.ip⟩
  · rcases N.zn a z with q | q | q
    · exact .inl q
    · exact .inr (.inl (hn a q))
    · exact .inr (.inr (B.wr q))
  · rw [← hw] at w
    rcases N.wn a (wr_wipe w) with q | q
    · exact .inl (B.wr q)
    · exact .inr (hn a q)
/-- what is being built changes -/
theorem SR.acc {x : Addr} {o u : HO} (R : SR K H Z ι σ s) (hx : H x = some u) (hu : (∃ vs, u = .lst vs) ∨ ∃ kvs, u = .dK kvs) (nz : ¬ Z x) (nw : ¬ Wr σ s ι x) :
    SR K (upd H x o) Z ι σ s ∧ Kp K H Z ι (upd H x o) Z ι := by
  have keep : ∀ a q, a ≠ x → H a = some q → upd H x o a = some q := fun a q n e => by rw [upd_ne n]; exact e
  have ntup : ∀ a q, H a = some q → ((∀ vs, q ≠ .lst vs) ∧ ∀ kvs, q ≠ .dK kvs) → upd H x o a = some q := fun a q e n => keep a q (fun w => by
    subst w
    rw [hx] at e; cases e
    rcases hu with ⟨vs, e⟩ | ⟨vs, e⟩
    · exact n.1 vs e
    · exact n.2 vs e) e
  have k : Kp K H Z ι (upd H x o) Z ι := by
    refine ⟨fun a xs q => ?_, fun a xs q => ?_, fun _ z => z, fun a vs z' q => keep a _ (fun e => nz (e ▸ z')) q, fun a kvs z' q => ?_, fun _ _ h => h⟩
    · rcases q with ⟨ob, q, dn⟩ | q
      · exact .inl ⟨ob, ntup _ _ q ⟨fun _ e => (by cases e), fun _ e => (by cases e)⟩, dn⟩
      · exact .inr q
    · rcases q with ⟨ob, q⟩ | q
      · exact .inl ⟨ob, ntup _ _ q ⟨fun _ e => (by cases e), fun _ e => (by cases e)⟩⟩
      · exact .inr q
    · rcases q with q | ⟨ob, q⟩
      · exact .inl (keep a _ (fun e => nz (e ▸ z')) q)
      · exact .inr ⟨ob, keep a _ (fun e => nz (e ▸ z')) q⟩
  refine ⟨⟨R.len, fun i d e => let ⟨v, h1, r⟩ := R.st i d e; ⟨v, h1, r.mono k⟩, fun i d e => ?_, R.ap, R.il, fun n b ds e1 e2 => ?_, R.nd, fun b zb => ?_⟩, k⟩
  · obtain ⟨b, q, t2, z', n'⟩ := R.ow i d e
    exact ⟨b, q, t2.mono k fun c w ec hw => keep c w (fun q2 => nw (.inr ⟨i, d, e, by rw [← q2, ← ec]; exact q⟩)) hw, z', n'⟩
  · obtain ⟨z', vs, q, r⟩ := R.mh n b ds e1 e2
    exact ⟨z', vs, keep b _ (fun e => nw (.inl (e ▸ List.mem_of_getElem? e1))) q, r.mono k⟩
  · rcases R.zd b zb with ⟨vs, q⟩ | ⟨kvs, q | ⟨ob, q⟩⟩
    · exact .inl ⟨vs, keep b _ (fun e => nz (e ▸ zb)) q⟩
    · exact .inr ⟨kvs, .inl (keep b _ (fun e => nz (e ▸ zb)) q)⟩
    · exact .inr ⟨kvs, .inr ⟨ob, keep b _ (fun e => nz (e ▸ zb)) q⟩⟩
theorem Nxt.acc {x : Addr} {o u : HO} (h0 : H x = none) (N : Nxt K σ H Z ι s H4 Z4 ι4 s4) (hx : H4 x = some u) (hu : (∃ vs, u = .lst vs) ∨ ∃ kvs, u = .dK kvs) (nz : ¬ Z4 x) (nw : ¬ Wr σ s4 ι4 x) :
    Nxt K σ H Z ι s (upd H4 x o) Z4 ι4 s4 := by
  refine ⟨(N.sr.acc hx hu nz nw).1, fun a q e w => ?_, N.zs, N.zn, N.wn, fun a h => ?_, N.ip⟩
  · rw [upd_ne (ne_of_none e h0)]
    exact N.fr a q e w
  · by_cases e : a = x
    · subst e; rw [upd_same]; simp
    · rw [upd_ne e]; exact N.dm a h
/-- after the block the names stand as before -/
theorem Nxt.back {vs : List Nat} (R : SR K H Z ι σ s) (N : Nxt K (L2.wipe σ vs) H Z ι (wipeS s vs) H4 Z4 ι4 (wipeS s4 vs)) : Nxt K σ H Z ι s H4 Z4 ι4 (backS s s4 vs) := by
  have hl : s.sl.length = s4.sl.length := by
    have := N.sr.len
    rw [wipe_length, wipeS_len] at this
    rw [← R.len, this]
  have k := N.kp R.wipe
  have own : ∀ (i : Nat) d x, i ∈ vs → s.sl[i]? = some (some (d, true)) → σ[i]? = some (some (.ref x)) → ¬ Wr (L2.wipe σ vs) (wipeS s vs) ι x := fun i d x hi h1 h2 w => by
    rcases w with w | ⟨j, e, q1, q2⟩
    · obtain ⟨y, h3, _, _, n⟩ := R.ow i d h1
      rw [h2] at h3; cases h3
      exact n w
    · obtain ⟨q3, q4⟩ := wipeS_some q1
      exact q4 (R.ap i j d e x h1 q3 h2 (wipe_some q2).1 ▸ hi)
  have get : ∀ (j : Nat) y, (backS s s4 vs).sl[j]? = some (some y) → (j ∈ vs ∧ s.sl[j]? = some (some y)) ∨ (j ∉ vs ∧ (wipeS s4 vs).sl[j]? = some (some y)) := fun j y e => by
    by_cases hj : j ∈ vs
    · rw [backS_in hl hj] at e; exact .inl ⟨hj, e⟩
    · rw [backS_out hj] at e
      exact .inr ⟨hj, by rw [wipeS_out hj]; exact e⟩
  refine ⟨⟨by rw [backS_len, ← hl]; exact R.len, fun i d e => ?_, fun i d e => ?_, fun i j d d' x e1 e2 q1 q2 => ?_, ?_, ?_, N.sr.nd, N.sr.zd⟩, fun a o e w => N.fr a o e fun w' => w (wr_wipe w'), N.zs, fun a z => ?_, fun a w => ?_, N.dm, N.ip⟩
  · rcases get i _ e with ⟨hi, e⟩ | ⟨hi, e⟩
    · obtain ⟨v, q, r⟩ := R.st i d e
      exact ⟨v, q, r.mono k⟩
    · obtain ⟨v, q, r⟩ := N.sr.st i d e
      rw [wipe_outV hi] at q
      exact ⟨v, q, r⟩
  · rcases get i _ e with ⟨hi, e⟩ | ⟨hi, e⟩
    · obtain ⟨x, q, t, z, n⟩ := R.ow i d e
      have nw := own i d x hi e q
      have hs : H x ≠ none := R.wrSome (.inr ⟨i, d, e, q⟩)
      refine ⟨x, q, t.mono k fun c o ec hc => by cases ec; exact N.fr _ o hc nw, fun z' => ?_, fun hm => ?_⟩
      · rcases N.zn x z' with w | w | w
        · exact z w
        · exact hs w
        · exact nw w
      · rcases N.wn x (.inl hm) with w | w
        · exact nw w
        · exact hs w
    · obtain ⟨x, q, r⟩ := N.sr.ow i d e
      rw [wipe_outV hi] at q
      exact ⟨x, q, r⟩
  · have mix : ∀ (i j : Nat) d d', i ∈ vs → j ∉ vs → s.sl[i]? = some (some (d, true)) → (wipeS s4 vs).sl[j]? = some (some (d', true)) → σ[i]? = some (some (.ref x)) → σ[j]? = some (some (.ref x)) → False := fun i j d d' hi hj e1 e2 q1 q2 => by
      have nw := own i d x hi e1 q1
      rcases N.wn x (.inr ⟨j, d', e2, by rw [wipe_outV hj]; exact q2⟩) with w | w
      · exact nw w
      · exact R.wrSome (.inr ⟨i, d, e1, q1⟩) w
    rcases get i _ e1 with ⟨hi, f1⟩ | ⟨hi, f1⟩ <;> rcases get j _ e2 with ⟨hj, f2⟩ | ⟨hj, f2⟩
    · exact R.ap i j d d' x f1 f2 q1 q2
    · exact (mix i j d d' hi hj f1 f2 q1 q2).elim
    · exact (mix j i d' d hj hi f2 f1 q2 q1).elim
    · exact N.sr.ap i j d d' x f1 f2 (by rw [wipe_outV hi]; exact q1) (by rw [wipe_outV hj]; exact q2)
  · rw [backS_mh]; have := N.sr.il; rw [wipeS_mh] at this; exact this
  · rw [backS_mh]; have := N.sr.mh; rw [wipeS_mh] at this; exact this
  · rcases N.zn a z with w | w | w
    · exact .inl w
    · exact .inr (.inl w)
    · exact .inr (.inr (wr_wipe w))
  · rcases w with w | ⟨i, d, e, q⟩
    · rcases N.wn a (.inl w) with w | w
      · exact .inl (wr_wipe w)
      · exact .inr w
    · rcases get i _ e with ⟨hi, e⟩ | ⟨hi, e⟩
      · exact .inl (.inr ⟨i, d, e, q⟩)
      · rcases N.wn a (.inr ⟨i, d, e, by rw [wipe_outV hi]; exact q⟩) with w | w
        · exact .inl (wr_wipe w)
        · exact .inr w
theorem Nxt.stb (R : SR K H1 Z1 ι1 σ s1) (N : Nxt K σ H1 Z1 ι1 s1 H Z ι s) : Stb Z1 H1 H := fun a o e q => N.fr a o e fun w => by
  rcases q with q | ⟨xs, q⟩ | ⟨ob, u, q⟩
  · exact R.wrZ w q
  · subst q; exact notup R e ⟨fun _ e => (by cases e), fun _ e => (by cases e)⟩ w
  · subst q; exact notup R e ⟨fun _ e => (by cases e), fun _ e => (by cases e)⟩ w
theorem kp_up (hz : ∀ a, Z a → Z' a) (hi : ∀ (n : Nat) a, ι[n]? = some a → ι'[n]? = some a) : Kp K H Z ι H Z' ι' := ⟨fun _ _ h => h, fun _ _ h => h, hz, fun _ _ _ h => h, fun _ _ _ h => h, hi⟩
/-- where the block stands before turn i -/
structure BI (K : PySem.W.Frag) (vs : List Nat) (σ : St) (x : Addr) (H1 : Hp) (Z1 : Addr → Prop) (ι1 : List Addr) (s1 : S) (H : Hp) (Z : Addr → Prop) (ι : List Addr) (s : S) (o : HO) : Prop where
  n : Nxt K (wipe σ vs) H1 Z1 ι1 (wipeS s1 vs) H Z ι (wipeS s vs)
  x0 : H1 x = none
  h : H x = some o
  z : ¬ Z x
  w : ¬ Wr (wipe σ vs) (wipeS s vs) ι x
theorem BI.step {vs ws : List Nat} {x : Addr} {o o' : HO} (R1 : SR K H1 Z1 ι1 σ s1) (ho : (∃ vs, o = .lst vs) ∨ ∃ kvs, o = .dK kvs) (I : BI K vs σ x H1 Z1 ι1 s1 H Z ι s o) (ex : ∀ a o, H a = some o → H' a = some o) (hw : wipe σ2 vs = wipe σ vs) (B : Bnd ws (wipe σ vs) (wipeS s vs) σ2 s2)
    (N : Nxt K σ2 H' Z ι s2 H4 Z4 ι4 s4) : H4 x = some o ∧ BI K vs σ x H1 Z1 ι1 s1 H4 Z4 ι4 s4 o ∧ BI K vs σ x H1 Z1 ι1 s1 (upd H4 x o') Z4 ι4 s4 o' ∧ Kp K H4 Z4 ι4 (upd H4 x o') Z4 ι4 := by
  have h4 : H4 x = some o := N.fr x o (ex x o I.h) fun w => I.w (B.wr w)
  have hs : H x ≠ none := by rw [I.h]; simp
  have T := N.turn ex hw B
  have nz : ¬ Z4 x := fun z => by
    rcases T.zn x z with q | q | q
    · exact I.z q
    · exact hs q
    · exact I.w q
  have nw : ¬ Wr (wipe σ vs) (wipeS s4 vs) ι4 x := fun w => by
    rcases T.wn x w with q | q
    · exact I.w q
    · exact hs q
  have M := Nxt.trans R1.wipe I.n T
  exact ⟨h4, ⟨M, I.x0, h4, nz, nw⟩, ⟨Nxt.acc I.x0 M h4 ho nz nw, I.x0, upd_same, nz, nw⟩, (M.sr.acc h4 ho nz nw).2⟩
theorem lc_imp {it : Fa} {tg : Tn} {cd : Fc} {el : Fv} {vs : List Nat} (ht : ∀ j ∈ tg.slots, j ∈ vs) : ∀ σ H Q, tE K (lcF vs tg it cd el) σ H Q → tLc (tI K it) (tT K tg) (tET K cd) (tE K el) vs σ H Q := by
  intro σ H Q ⟨Z, ι, s, d, tg', s', R, hf, hq⟩
  obtain ⟨⟨ds, s1⟩, f1, hf⟩ := Option.bind_eq_some_iff.mp hf
  obtain ⟨⟨res, sn⟩, f2, hf⟩ := Option.map_eq_some_iff.mp hf
  cases hf
  refine ⟨Z, ι, s, ds, s1, R, f1, fun J H1 Z1 ι1 N1 wk x hx => ?_⟩
  refine ⟨fun i m H => m = ds.length - i ∧ i ≤ ds.length ∧ ∃ si acc Zi ιi ws, lcLoop (fun d s => bindX tg [d] s) cd (hF el) (fun s => wipeS s vs) (ds.drop i) acc si = some (res, sn) ∧ BI K vs σ x H1 Z1 ι1 s1 H Zi ιi si (.lst ws) ∧ Rels K H Zi ιi ws acc, ?_, ?_⟩
  · refine ⟨ds.length, by simp, Nat.zero_le _, s1, [], Z1, ι1, [], f2, ⟨Nxt.ext N1.sr.wipe (ext_upd hx), hx, upd_same, fun z => N1.sr.zSome z hx, fun w => N1.sr.wrSome (wr_wipe w) hx⟩, .nil⟩
  · rintro i m Hi ⟨rfl, hi, si, acc, Zi, ιi, ws, fl, I, ra⟩
    have sb := Nxt.stb N1.sr.wipe I.n
    by_cases hlt : i < ds.length
    · refine .inr ⟨wk.go Hi sb i hlt, fun H' => ∃ si acc Zi ιi ws, lcLoop (fun d s => bindX tg [d] s) cd (hF el) (fun s => wipeS s vs) (ds.drop (i + 1)) acc si = some (res, sn) ∧ BI K vs σ x H1 Z1 ι1 s1 H' Zi ιi si (.lst ws) ∧ Rels K H' Zi ιi ws acc,
        fun H' p' => ⟨ds.length - (i + 1), by omega, rfl, hlt, p'⟩, fun y H2 yd => ?_⟩
      obtain ⟨ex, rel⟩ := wk.yld Hi sb i y H2 yd
      have rd := rel ds[i] (List.getElem?_eq_getElem hlt)
      rw [List.drop_eq_getElem_cons hlt] at fl
      obtain ⟨s2, b1, fl⟩ := Option.bind_eq_some_iff.mp (show (bindX tg [ds[i]] (wipeS si vs)).bind _ = some (res, sn) from fl)
      obtain ⟨⟨cb, s3⟩, b2, fl⟩ := Option.bind_eq_some_iff.mp fl
      refine ⟨Zi, ιi, wipeS si vs, ds[i], s2, I.n.sr.ext ex, rd.mono (kp_up I.n.zs I.n.ip), b1, fun σ2 R2 B2 => ?_⟩
      have hw : wipe σ2 vs = wipe σ vs := by
        rw [show wipe σ2 vs = wipe (wipe σ vs) vs from wipe_eq B2.ls fun j hj => B2.σo j fun m => hj (ht j m)]
        exact wipe_eq (wipe_length _ _) fun j hj => wipe_outV hj
      refine ⟨hw, Zi, ιi, s2, cb, s3, R2, b2, fun H3 Z3 ι3 N3 => ?_⟩
      cases cb with
      | false =>
        have fl' : lcLoop (fun d s => bindX tg [d] s) cd (hF el) (fun s => wipeS s vs) (ds.drop (i + 1)) acc s3 = some (res, sn) := fl
        simp only [Bool.false_eq_true, if_false]
        obtain ⟨h4, I4, _, _⟩ := I.step (o' := .lst ws) N1.sr (.inl ⟨_, rfl⟩) ex hw B2 N3
        exact ⟨s3, acc, Z3, ι3, ws, fl', I4, (ra.mono (kp_ext ex)).mono (N3.kp R2)⟩
      | true =>
        simp only [if_true]
        obtain ⟨⟨d5, s5⟩, b3, fl⟩ := Option.bind_eq_some_iff.mp (show (hF el s3).bind _ = some (res, sn) from fl)
        have fl' : (if acc.length < sizeLine then lcLoop (fun d s => bindX tg [d] s) cd (hF el) (fun s => wipeS s vs) (ds.drop (i + 1)) (acc ++ [d5]) s5 else none) = some (res, sn) := fl
        split at fl'
        · rename_i hz
          obtain ⟨⟨d4, t4, s4⟩, b4, b3⟩ := Option.bind_eq_some_iff.mp b3
          refine ⟨Z3, ι3, s3, d4, t4, s4, N3.sr, b4, fun u H4 Z4 ι4 N4 v4 => ?_⟩
          obtain ⟨Z5, N5, r5, _⟩ := hold_ok N3.sr N4 v4 (Nxt.refl N4.sr) b3
          have NN := Nxt.trans R2 N3 N5
          obtain ⟨h4, _, I5, k5⟩ := I.step (o' := .lst (ws ++ [u])) N1.sr (.inl ⟨_, rfl⟩) ex hw B2 NN
          have ra5 := ((ra.mono (kp_ext ex)).mono (NN.kp R2))
          refine ⟨ws, h4, by rw [ra5.length]; exact hz, s5, acc ++ [d5], Z5, ι4, ws ++ [u], fl', I5, (ra5.append (.cons r5 .nil)).mono k5⟩
        · cases fl'
    · have e : i = ds.length := by omega
      subst e
      rw [List.drop_length] at fl
      cases fl
      have N := Nxt.back N1.sr I.n
      refine .inl ⟨wk.stop Hi sb, hq _ Hi Zi ιi (Nxt.trans R N1 N) ⟨x, rfl, ?_, I.z, fun w => ?_, x, ws, rfl, I.h, ra⟩⟩
      · cases q : H x with
        | none => rfl
        | some o => exact absurd hx (N1.dm x (by rw [q]; simp))
      · rcases N.wn x w with q | q
        · exact N1.sr.wrSome q hx
        · have := N.dm
          rcases w with w | ⟨j, d, e, q2⟩
          · exact I.w (.inl w)
          · by_cases hj : j ∈ vs
            · have hl : s1.sl.length = sn.sl.length := by
                have := I.n.sr.len
                rw [wipe_length, wipeS_len] at this
                rw [← N1.sr.len, this]
              rw [backS_in hl hj] at e
              exact N1.sr.wrSome (.inr ⟨j, d, e, q2⟩) hx
            · rw [backS_out hj] at e
              exact I.w (.inr ⟨j, d, by rw [wipeS_out hj]; exact e, by rw [wipe_outV hj]; exact q2⟩)
theorem pts_of {ifs : List Expr} {t t' : TT} (h : PTs X ifs t) (i : ∀ σ H Q, t' σ H Q → t σ H Q) : PTs X ifs t' := ⟨fun pins s σ H Q I q => h.run pins s σ H Q I (i σ H Q q)⟩
theorem pts_nopF : PTs X [] (tET X.K fun s => some (true, s)) := pts_of pts_nil fun σ H Q ⟨Z, ι, s, b, s', R, hf, hq⟩ => by
  cases hf
  exact hq H Z ι (Nxt.refl R)
theorem pe_lcF {elt tg iter : Expr} {ifs : List Expr} {scope : Scope} {own : List (Str × Nat)} {pos : Pos} {it : Fa} {t : Tn} {cd : Fc} {el : Fv} (hc : X.calm = true) (hN : X.N.Nodup) (hi : PI X tg iter (tI X.K it)) (ok : BlkOk X.N X.env.scope scope own)
    (hsl : ∀ j ∈ t.slots, j ∈ own.map (·.2))
    (hg : ∀ (s : Shared) (H : Hp) (C : Addr) (cl : List (Str × Addr)) (fp : List Addr), PG (X.blk s H scope (compEnvC scope cl C X.env) fp) tg (tT X.K t)) (ht : ∀ (s : Shared) (H : Hp) (C : Addr) (cl : List (Str × Addr)) (fp : List Addr), PTs (X.blk s H scope (compEnvC scope cl C X.env) fp) ifs (tET X.K cd))
    (he : ∀ (s : Shared) (H : Hp) (C : Addr) (cl : List (Str × Addr)) (fp : List Addr), PE (X.blk s H scope (compEnvC scope cl C X.env) fp) elt (tE X.K el)) (hs : ∀ x, foldedSetIterable iter X.env x = pure x) :
    PE X (.ListComp elt [⟨tg, iter, ifs, 0⟩] scope pos) (tE X.K (lcF (own.map (·.2)) t it cd el)) :=
  PE.imp (pe_lc hc hN hi ok hg ht he hs) (lc_imp hsl)
end
end E3
set_option Elab.async false
set_option linter.all false
set_option maxRecDepth 100000
set_option maxHeartbeats 1000000
/-! Rules: comprehensions of dicts. -/
namespace E3
open PySem PySem.Spec PyProof.Rows L2
section
variable {X : Cx} {a b c : Expr} {f g h : Fv} {pos p : Pos}
variable {K : PySem.W.Frag} {H H' H0 H1 H2 H3 H4 : Hp} {Z Z' Z0 Z1 Z2 Z3 Z4 : Addr → Prop} {ι ι' ι0 ι1 ι2 ι3 ι4 : List Addr} {σ σ' σ1 σ2 : St} {s s' s0 s1 s2 s3 s4 sn : S} {v : V} {d e : D} {tg : Tg}
theorem dc_coreE {J : It} {tg : Tn} {cd : Fc} {ky el : Fv} {vs : List Nat} {ds : List D} {res : List (Key × D)} {x : Addr} {Q : Hp → Prop} (ht : ∀ j ∈ tg.slots, j ∈ vs) (R1 : SR K H1 Z1 ι1 σ s1) (wk : Walks K J H1 Z1 ι1 ds)
    (f2 : dcLoop (fun d s => bindX tg [d] s) cd (hF ky) (hF el) (fun s => wipeS s vs) ds [] s1 = some (res, sn)) (hx : H1 x = none)
    (hq : ∀ H Z ι, Nxt K σ H1 Z1 ι1 s1 H Z ι (backS s1 sn vs) → ¬ Z x → ¬ Wr σ (backS s1 sn vs) ι x → Top K H Z ι (.ref x) (.dct res) → Q H) :
    ∃ W : Nat → Nat → Hp → Prop, (∃ m, W 0 m (upd H1 x (.dK []))) ∧ ∀ i m H, W i m H →
      (J.stop i H ∧ Q H) ∨ (J.go i H ∧ ∃ Nx : Hp → Prop, (∀ H', Nx H' → ∃ m', m' < m ∧ W (i + 1) m' H') ∧ ∀ y H', J.yld i H y H' → tT K tg y (wipe σ vs) H' fun σ2 H2 => wipe σ2 vs = wipe σ vs ∧ tET K cd σ2 H2 fun b H3 =>
        if b = true then tE K ky σ2 H3 fun y H4 => tE K el σ2 H4 fun z H5 => ∃ kvs k, y = kV k ∧ H5 x = some (.dK kvs) ∧ kvs.length < sizeLine ∧ Nx (upd H5 x (.dK (putK kvs k z))) else Nx H3) := by
  refine ⟨fun i m H => m = ds.length - i ∧ i ≤ ds.length ∧ ∃ si acc Zi ιi ws, dcLoop (fun d s => bindX tg [d] s) cd (hF ky) (hF el) (fun s => wipeS s vs) (ds.drop i) acc si = some (res, sn) ∧ BI K vs σ x H1 Z1 ι1 s1 H Zi ιi si (.dK ws) ∧ RelK K H Zi ιi ws acc, ?_, ?_⟩
  · refine ⟨ds.length, by simp, Nat.zero_le _, s1, [], Z1, ι1, [], f2, ⟨Nxt.ext R1.wipe (ext_upd hx), hx, upd_same, fun z => R1.zSome z hx, fun w => R1.wrSome (wr_wipe w) hx⟩, .nil⟩
  · rintro i m Hi ⟨rfl, hi, si, acc, Zi, ιi, ws, fl, I, ra⟩
    have sb := Nxt.stb R1.wipe I.n
    by_cases hlt : i < ds.length
    · refine .inr ⟨wk.go Hi sb i hlt, fun H' => ∃ si acc Zi ιi ws, dcLoop (fun d s => bindX tg [d] s) cd (hF ky) (hF el) (fun s => wipeS s vs) (ds.drop (i + 1)) acc si = some (res, sn) ∧ BI K vs σ x H1 Z1 ι1 s1 H' Zi ιi si (.dK ws) ∧ RelK K H' Zi ιi ws acc,
        fun H' p' => ⟨ds.length - (i + 1), by omega, rfl, hlt, p'⟩, fun y H2 yd => ?_⟩
      obtain ⟨ex, rel⟩ := wk.yld Hi sb i y H2 yd
      have rd := rel ds[i] (List.getElem?_eq_getElem hlt)
      rw [List.drop_eq_getElem_cons hlt] at fl
      obtain ⟨s2, b1, fl⟩ := Option.bind_eq_some_iff.mp (show (bindX tg [ds[i]] (wipeS si vs)).bind _ = some (res, sn) from fl)
      obtain ⟨⟨cb, s3⟩, b2, fl⟩ := Option.bind_eq_some_iff.mp fl
      refine ⟨Zi, ιi, wipeS si vs, ds[i], s2, I.n.sr.ext ex, rd.mono (kp_up I.n.zs I.n.ip), b1, fun σ2 R2 B2 => ?_⟩
      have hw : wipe σ2 vs = wipe σ vs := by
        rw [show wipe σ2 vs = wipe (wipe σ vs) vs from wipe_eq B2.ls fun j hj => B2.σo j fun m => hj (ht j m)]
        exact wipe_eq (wipe_length _ _) fun j hj => wipe_outV hj
      refine ⟨hw, Zi, ιi, s2, cb, s3, R2, b2, fun H3 Z3 ι3 N3 => ?_⟩
      cases cb with
      | false =>
        have fl' : dcLoop (fun d s => bindX tg [d] s) cd (hF ky) (hF el) (fun s => wipeS s vs) (ds.drop (i + 1)) acc s3 = some (res, sn) := fl
        simp only [Bool.false_eq_true, if_false]
        obtain ⟨h4, I4, _, _⟩ := I.step (o' := .dK ws) R1 (.inr ⟨_, rfl⟩) ex hw B2 N3
        exact ⟨s3, acc, Z3, ι3, ws, fl', I4, (ra.mono (kp_ext ex)).mono (N3.kp R2)⟩
      | true =>
        simp only [if_true]
        obtain ⟨⟨d5, s5⟩, b3, fl⟩ := Option.bind_eq_some_iff.mp (show (hF ky s3).bind _ = some (res, sn) from fl)
        obtain ⟨⟨d7, s7⟩, c3, fl⟩ := Option.bind_eq_some_iff.mp (show (hF el s5).bind _ = some (res, sn) from fl)
        obtain ⟨k, hk, fl⟩ := Option.bind_eq_some_iff.mp fl
        have fl' : (if acc.length < sizeLine then dcLoop (fun d s => bindX tg [d] s) cd (hF ky) (hF el) (fun s => wipeS s vs) (ds.drop (i + 1)) (putD acc k d7) s7 else none) = some (res, sn) := fl
        split at fl'
        · rename_i hz
          obtain ⟨⟨d4, t4, s4⟩, b4, b3⟩ := Option.bind_eq_some_iff.mp b3
          obtain ⟨⟨d6, t6, s6⟩, c4, c3⟩ := Option.bind_eq_some_iff.mp c3
          refine ⟨Z3, ι3, s3, d4, t4, s4, N3.sr, b4, fun u H4 Z4 ι4 N4 v4 => ?_⟩
          obtain ⟨Z5, N5, r5, _⟩ := hold_ok N3.sr N4 v4 (Nxt.refl N4.sr) b3
          refine ⟨Z5, ι4, s5, d6, t6, s6, N5.sr, c4, fun w H6 Z6 ι6 N6 v6 => ?_⟩
          obtain ⟨Z7, N7, r7, _⟩ := hold_ok N5.sr N6 v6 (Nxt.refl N6.sr) c3
          have NN := Nxt.trans R2 (Nxt.trans R2 N3 N5) N7
          obtain ⟨h4, _, I5, k5⟩ := I.step (o' := .dK (putK ws k w)) R1 (.inr ⟨_, rfl⟩) ex hw B2 NN
          have ra5 := ((ra.mono (kp_ext ex)).mono (NN.kp R2))
          exact ⟨ws, k, key_rel (.inl r5) hk, h4, by rw [ra5.length]; exact hz, s7, putD acc k d7, Z7, ι6, putK ws k w, fl', I5, (putK_rel ra5 k r7).mono k5⟩
        · cases fl'
    · have e : i = ds.length := by omega
      subst e
      rw [List.drop_length] at fl
      cases fl
      have N := Nxt.back R1 I.n
      refine .inl ⟨wk.stop Hi sb, hq Hi Zi ιi N I.z (fun w => ?_) ⟨x, ws, rfl, I.h, ra⟩⟩
      · rcases N.wn x w with q | q
        · exact R1.wrSome q hx
        · rcases w with w | ⟨j, d, e, q2⟩
          · exact I.w (.inl w)
          · by_cases hj : j ∈ vs
            · have hl : s1.sl.length = sn.sl.length := by
                have := I.n.sr.len
                rw [wipe_length, wipeS_len] at this
                rw [← R1.len, this]
              rw [backS_in hl hj] at e
              exact R1.wrSome (.inr ⟨j, d, e, q2⟩) hx
            · rw [backS_out hj] at e
              exact I.w (.inr ⟨j, d, by rw [wipeS_out hj]; exact e, by rw [wipe_outV hj]; exact q2⟩)
theorem none_back (N : Nxt K σ H0 Z ι s H1 Z1 ι1 s1) {x : Addr} (hx : H1 x = none) : H0 x = none := by
  cases q : H0 x with
  | none => rfl
  | some o => exact absurd hx (N.dm x (by rw [q]; simp))
theorem dc_imp {it : Fa} {tg : Tn} {cd : Fc} {ky el : Fv} {vs : List Nat} (ht : ∀ j ∈ tg.slots, j ∈ vs) : ∀ σ H Q, tE K (dcF vs tg it cd ky el) σ H Q → tDc (tI K it) (tT K tg) (tET K cd) (tE K ky) (tE K el) vs σ H Q := by
  intro σ H Q ⟨Z, ι, s, d, tg', s', R, hf, hq⟩
  obtain ⟨⟨ds, s1⟩, f1, hf⟩ := Option.bind_eq_some_iff.mp hf
  obtain ⟨⟨res, sn⟩, f2, hf⟩ := Option.map_eq_some_iff.mp hf
  cases hf
  refine ⟨Z, ι, s, ds, s1, R, f1, fun J H1 Z1 ι1 N1 wk x hx => ?_⟩
  exact dc_coreE ht N1.sr wk f2 hx fun H Z ι N nz nw tp => hq _ H Z ι (Nxt.trans R N1 N) ⟨x, rfl, none_back N1 hx, nz, nw, tp⟩
theorem pe_dcF {kx vx tg iter : Expr} {ifs : List Expr} {scope : Scope} {own : List (Str × Nat)} {pos : Pos} {it : Fa} {t : Tn} {cd : Fc} {ky el : Fv} (hc : X.calm = true) (hN : X.N.Nodup) (hi : PI X tg iter (tI X.K it)) (ok : BlkOk X.N X.env.scope scope own)
    (hsl : ∀ j ∈ t.slots, j ∈ own.map (·.2))
    (hg : ∀ (s : Shared) (H : Hp) (C : Addr) (cl : List (Str × Addr)) (fp : List Addr), PG (X.blk s H scope (compEnvC scope cl C X.env) fp) tg (tT X.K t)) (ht : ∀ (s : Shared) (H : Hp) (C : Addr) (cl : List (Str × Addr)) (fp : List Addr), PTs (X.blk s H scope (compEnvC scope cl C X.env) fp) ifs (tET X.K cd))
    (hk : ∀ (s : Shared) (H : Hp) (C : Addr) (cl : List (Str × Addr)) (fp : List Addr), PE (X.blk s H scope (compEnvC scope cl C X.env) fp) kx (tE X.K ky))
    (he : ∀ (s : Shared) (H : Hp) (C : Addr) (cl : List (Str × Addr)) (fp : List Addr), PE (X.blk s H scope (compEnvC scope cl C X.env) fp) vx (tE X.K el)) (hs : ∀ x, foldedSetIterable iter X.env x = pure x) :
    PE X (.DictComp kx vx [⟨tg, iter, ifs, 0⟩] scope pos) (tE X.K (dcF (own.map (·.2)) t it cd ky el)) :=
  PE.imp (pe_dc hc hN hi ok hg ht hk he hs) (dc_imp hsl)
/-! ### over a dict's keys -/
theorem kp_lock {x : Addr} {o : Obj} {kvs : List (Key × V)} (hx : H x = some (.dK kvs)) (z : Z x) : Kp K H Z ι (upd H x (.frz o (.dK kvs))) Z ι := by
  have keep : ∀ a q, a ≠ x → H a = some q → upd H x (.frz o (.dK kvs)) a = some q := fun a q n e => by rw [upd_ne n]; exact e
  refine ⟨fun a xs q => ?_, fun a xs q => ?_, fun _ z => z, fun a vs z' q => keep a _ (fun e => by subst e; rw [hx] at q; cases q) q, fun a ks z' q => ?_, fun _ _ h => h⟩
  · rcases q with ⟨ob, q, dn⟩ | q
    · exact .inl ⟨ob, keep _ _ (fun e => by subst e; rw [hx] at q; cases q) q, dn⟩
    · exact .inr q
  · rcases q with ⟨ob, q⟩ | q
    · exact .inl ⟨ob, keep _ _ (fun e => by subst e; rw [hx] at q; cases q) q⟩
    · exact .inr q
  · by_cases e : a = x
    · subst e
      rcases q with q | ⟨ob, q⟩
      · rw [hx] at q; cases q; exact .inr ⟨o, upd_same⟩
      · rw [hx] at q; cases q
    · rcases q with q | ⟨ob, q⟩
      · exact .inl (keep _ _ e q)
      · exact .inr ⟨ob, keep _ _ e q⟩
theorem kp_unlock {x : Addr} {o : Obj} {kvs : List (Key × V)} (hx : H x = some (.frz o (.dK kvs))) (z : Z x) : Kp K H Z ι (upd H x (.dK kvs)) Z ι := by
  have keep : ∀ a q, a ≠ x → H a = some q → upd H x (.dK kvs) a = some q := fun a q n e => by rw [upd_ne n]; exact e
  refine ⟨fun a xs q => ?_, fun a xs q => ?_, fun _ z => z, fun a vs z' q => keep a _ (fun e => by subst e; rw [hx] at q; cases q) q, fun a ks z' q => ?_, fun _ _ h => h⟩
  · rcases q with ⟨ob, q, dn⟩ | q
    · exact .inl ⟨ob, keep _ _ (fun e => by subst e; rw [hx] at q; cases q) q, dn⟩
    · exact .inr q
  · rcases q with ⟨ob, q⟩ | q
    · exact .inl ⟨ob, keep _ _ (fun e => by subst e; rw [hx] at q; cases q) q⟩
    · exact .inr q
  · by_cases e : a = x
    · subst e
      rcases q with q | ⟨ob, q⟩
      · rw [hx] at q; cases q
      · rw [hx] at q; cases q; exact .inl upd_same
    · rcases q with q | ⟨ob, q⟩
      · exact .inl (keep _ _ e q)
      · exact .inr ⟨ob, keep _ _ e q⟩
/-- a thing that nobody changes stands otherwise -/
theorem SR.seen {x : Addr} {o : HO} (R : SR K H Z ι σ s) (k : Kp K H Z ι (upd H x o) Z ι) (z : Z x) (ho : ∃ kvs, o = .dK kvs ∨ ∃ ob, o = .frz ob (.dK kvs)) : SR K (upd H x o) Z ι σ s := by
  refine ⟨R.len, fun i d e => let ⟨v, h1, r⟩ := R.st i d e; ⟨v, h1, r.mono k⟩, fun i d e => ?_, R.ap, R.il, fun n b ds e1 e2 => ?_, R.nd, fun b zb => ?_⟩
  · obtain ⟨b, q, t2, z', n'⟩ := R.ow i d e
    exact ⟨b, q, t2.mono k fun c w ec hw => by cases ec; rw [upd_ne (show b ≠ x from fun q2 => z' (by rw [q2]; exact z))]; exact hw, z', n'⟩
  · obtain ⟨z', vs, q, r⟩ := R.mh n b ds e1 e2
    exact ⟨z', vs, by rw [upd_ne (show b ≠ x from fun q2 => z' (by rw [q2]; exact z))]; exact q, r.mono k⟩
  · by_cases e : b = x
    · subst e
      obtain ⟨kvs, e | ⟨ob, e⟩⟩ := ho
      · subst e; exact .inr ⟨kvs, .inl upd_same⟩
      · subst e; exact .inr ⟨kvs, .inr ⟨ob, upd_same⟩⟩
    · rcases R.zd b zb with ⟨vs, q⟩ | ⟨kvs, q | ⟨ob, q⟩⟩
      · exact .inl ⟨vs, by rw [upd_ne e]; exact q⟩
      · exact .inr ⟨kvs, .inl (by rw [upd_ne e]; exact q)⟩
      · exact .inr ⟨kvs, .inr ⟨ob, by rw [upd_ne e]; exact q⟩⟩
theorem Nxt.unlock {x : Addr} {o : Obj} {kvs : List (Key × V)} (R : SR K H Z ι σ s) (z : Z x) (hx : H x = some (.dK kvs)) (N : Nxt K σ (upd H x (.frz o (.dK kvs))) Z ι s H' Z' ι' s') (h' : H' x = some (.frz o (.dK kvs))) :
    Nxt K σ H Z ι s (upd H' x (.dK kvs)) Z' ι' s' := by
  have hn : ∀ a, upd H x (.frz o (.dK kvs)) a = none → H a = none := fun a h => by
    by_cases e : a = x
    · subst e; rw [upd_same] at h; cases h
    · rw [upd_ne e] at h; exact h
  refine ⟨N.sr.seen (kp_unlock h' (N.zs _ z)) (N.zs _ z) ⟨kvs, .inl rfl⟩, fun a q e w => ?_, N.zs, fun a z' => ?_, fun a w => ?_, fun a h => ?_, N.ip⟩
  · by_cases ea : a = x
    · subst ea; rw [hx] at e; cases e; exact upd_same
    · rw [upd_ne ea]; exact N.fr a q (by rw [upd_ne ea]; exact e) w
  · rcases N.zn a z' with q | q | q
    · exact .inl q
    · exact .inr (.inl (hn a q))
    · exact .inr (.inr q)
  · rcases N.wn a w with q | q
    · exact .inl q
    · exact .inr (hn a q)
  · by_cases ea : a = x
    · subst ea; rw [upd_same]; simp
    · rw [upd_ne ea]; exact N.dm a (fun q => h (hn a q))
theorem walks_keys {x : Addr} {o : Obj} {kvs : List (Key × V)} {ks : List (Key × D)} (hx : H x = some (.frz o (.dK kvs))) (r : RelK K H Z ι kvs ks) : Walks K (Itk x o kvs) H Z ι (ks.map fun k => dKey k.1) where
  go := fun H' hH i hi => by
    refine ⟨hH _ _ hx (.inr (.inr ⟨_, _, rfl⟩)), ?_⟩
    rw [r.length]
    simpa using hi
  yld := fun H' hH i y H2 ⟨e, k, v, h1, h2⟩ => by
    subst e h2
    refine ⟨fun _ _ h => h, fun d hd => ?_⟩
    rw [List.getElem?_map] at hd
    obtain ⟨⟨k', d'⟩, h3, h4⟩ := Option.map_eq_some_iff.mp hd
    subst h4
    have : k' = k := by
      have key : ∀ {kvs : List (Key × V)} {ks : List (Key × D)} {i : Nat}, RelK K H Z ι kvs ks → kvs[i]? = some (k, v) → ks[i]? = some (k', d') → k' = k := by
        intro kvs ks i r
        induction ks generalizing kvs i with
        | nil => intro _ e; simp at e
        | cons q ks ih =>
          intro e1 e2
          cases r with
          | cons r t =>
            cases i with
            | zero => simp at e1 e2; rw [← e1.1, ← e2.1]
            | succ i => exact ih t (by simpa using e1) (by simpa using e2)
      exact key r h1 h3
    subst this
    cases k' with
    | inl i => exact .int i
    | inr x => exact .str x
  stop := fun H' hH => ⟨hH _ _ hx (.inr (.inr ⟨_, _, rfl⟩)), by rw [r.length]; simp⟩
theorem dk_imp {i j : Nat} {vs : List Nat} {cd : Fc} {ky el : Fv} (hsl : i ∈ vs) : ∀ σ H Q, tE K (dkF vs i j cd ky el) σ H Q →
    tDc (iKeys (tVar j)) (tT K (.nm i)) (tET K cd) (tE K ky) (tE K el) vs σ H Q ∨ tLockE (tDc (iKeys (tVar j)) (tT K (.nm i)) (tET K cd) (tE K ky) (tE K el) vs) σ H Q := by
  intro σ H Q ⟨Z, ι, s, d, tg', s', R, hf, hq⟩
  have hf' : (match s.sl[j]? with
    | some (some (.dct ks, o)) => (dcLoop (fun d s => bindX (.nm i) [d] s) cd (hF ky) (hF el) (fun s => wipeS s vs) (ks.map fun k => dKey k.1) [] (s.set j (.dct ks) false)).map fun r => (D.dct r.1, Tg.fr, backS (s.set j (.dct ks) false) r.2 vs)
    | _ => none) = some (d, tg', s') := hf
  have hsl' : ∀ q ∈ (Tn.nm i).slots, q ∈ vs := fun q m => by
    have : q = i := by simpa [Tn.slots] using m
    rw [this]; exact hsl
  split at hf'
  · rename_i ks o h1
    obtain ⟨⟨res, sn⟩, f2, hf'⟩ := Option.map_eq_some_iff.mp hf'
    cases hf'
    -- the slot gives the dict up
    have gu : ∃ Z1 x kvs, σ[j]? = some (some (.ref x)) ∧ Nxt K σ H Z ι s H Z1 ι (s.set j (.dct ks) false) ∧ Z1 x ∧ Rd H x (.dK kvs) ∧ RelK K H Z1 ι kvs ks := by
      cases o with
      | true =>
        obtain ⟨x, h2, _⟩ := R.ow j _ h1
        obtain ⟨N, r⟩ := R.freeze h1 h2
        cases r with
        | dct z h3 h4 => exact ⟨_, x, _, h2, N, z, h3, h4⟩
      | false =>
        obtain ⟨v, h2, r⟩ := R.st j _ h1
        have es : s.set j (.dct ks) false = s := by
          unfold S.set
          rw [set_self h1]
        rw [es]
        cases r with
        | dct z h3 h4 => exact ⟨Z, _, _, h2, Nxt.refl R, z, h3, h4⟩
    obtain ⟨Z1, x, kvs, h2, N1, z1, hrd, rk⟩ := gu
    rcases hrd with hrd | ⟨ob, hrd⟩
    · refine .inr ⟨x, _, hrd, True.intro, fun od => ⟨.ref x, h2, x, od, rfl, .inl ⟨kvs, upd_same, fun D hD => ?_⟩⟩⟩
      have kl := kp_lock (K := K) (ι := ι) (o := od) hrd z1
      have RL := N1.sr.seen kl z1 ⟨kvs, .inr ⟨od, rfl⟩⟩
      have hDx : D ≠ x := fun e => by rw [e, upd_same] at hD; cases hD
      have hD' : H D = none := by rw [upd_ne hDx] at hD; exact hD
      refine dc_coreE hsl' RL (walks_keys upd_same (rk.mono kl)) f2 hD fun H2 Z2 ι2 N nz nw tp => ?_
      have h2x : H2 x = some (.frz od (.dK kvs)) := N.fr x _ upd_same fun w => RL.wrZ w z1
      refine ⟨h2x, hq _ _ Z2 ι2 (Nxt.trans R N1 (Nxt.unlock N1.sr z1 hrd N h2x)) ⟨D, rfl, hD', nz, nw, ?_⟩⟩
      exact tp.mono (kp_unlock h2x (N.zs _ z1)) fun a o e ha => by cases e; rw [upd_ne hDx]; exact ha
    · refine .inl ⟨.ref x, h2, x, ob, rfl, .inl ⟨kvs, hrd, fun D hD => ?_⟩⟩
      exact dc_coreE hsl' N1.sr (walks_keys hrd rk) f2 hD fun H2 Z2 ι2 N nz nw tp => hq _ _ Z2 ι2 (Nxt.trans R N1 N) ⟨D, rfl, hD, nz, nw, tp⟩
  · cases hf'
theorem pe_dkF {kx vx tg : Expr} {ifs : List Expr} {scope : Scope} {own : List (Str × Nat)} {pos p2 : Pos} {i j : Nat} {y : Str} {cd : Fc} {ky el : Fv} (hc : X.calm = true) (hN : X.N.Nodup)
    (hj : X.N[j]? = some y) (hv : Vis X.env.scope y) (hd : (y == ("__debug__" : Str)) = false) (hcd : (y == ("__classdict__" : Str)) = false) (ok : BlkOk X.N X.env.scope scope own)
    (hsl : i ∈ own.map (·.2))
    (hg : ∀ (s : Shared) (H : Hp) (C : Addr) (cl : List (Str × Addr)) (fp : List Addr), PG (X.blk s H scope (compEnvC scope cl C X.env) fp) tg (tT X.K (.nm i))) (ht : ∀ (s : Shared) (H : Hp) (C : Addr) (cl : List (Str × Addr)) (fp : List Addr), PTs (X.blk s H scope (compEnvC scope cl C X.env) fp) ifs (tET X.K cd))
    (hk : ∀ (s : Shared) (H : Hp) (C : Addr) (cl : List (Str × Addr)) (fp : List Addr), PE (X.blk s H scope (compEnvC scope cl C X.env) fp) kx (tE X.K ky))
    (he : ∀ (s : Shared) (H : Hp) (C : Addr) (cl : List (Str × Addr)) (fp : List Addr), PE (X.blk s H scope (compEnvC scope cl C X.env) fp) vx (tE X.K el)) (hs : ∀ x, foldedSetIterable (.Name y p2) X.env x = pure x) :
    PE X (.DictComp kx vx [⟨tg, .Name y p2, ifs, 0⟩] scope pos) (tE X.K (dkF (own.map (·.2)) i j cd ky el)) := by
  have base := pe_dc (tk := tE X.K ky) (tv := tE X.K el) (pos := pos) hc hN (pi_keys (tg := tg) (pe_var (pos := p2) hj hv hd hcd)) ok hg ht hk he hs
  exact PE.imp (PE.or base (pe_lock base)) (dk_imp hsl)
end
end E3
set_option Elab.async false
set_option linter.all false
set_option maxRecDepth 100000
set_option maxHeartbeats 1000000
/-! Rules: statements. -/
namespace E3
open PySem PySem.Spec PyProof.Rows L2
/-- a step that may change the slots -/
structure Stp (K : PySem.W.Frag) (σ : St) (H : Hp) (Z : Addr → Prop) (ι : List Addr) (S0 : S) (σ' : St) (H' : Hp) (Z' : Addr → Prop) (ι' : List Addr) (S1 : S) : Prop where
  sr : SR K H' Z' ι' σ' S1
  fr : ∀ a o, H a = some o → ¬ Wr σ S0 ι a → H' a = some o
  zs : ∀ a, Z a → Z' a
  zn : ∀ a, Z' a → Z a ∨ H a = none ∨ Wr σ S0 ι a
  wn : ∀ a, Wr σ' S1 ι' a → Wr σ S0 ι a ∨ H a = none
  dm : ∀ a, H a ≠ none → H' a ≠ none
  ip : ∀ (n : Nat) a, ι[n]? = some a → ι'[n]? = some a
def outQ (K : PySem.W.Frag) (D : Ends) (σ : St) (H : Hp) (Z : Addr → Prop) (ι : List Addr) (s : S) : Out → Prop
  | .nx s' => ∀ σ' H' Z' ι', Stp K σ H Z ι s σ' H' Z' ι' s' → D.nx σ' H'
  | .ct s' => ∀ σ' H' Z' ι', Stp K σ H Z ι s σ' H' Z' ι' s' → D.ct σ' H'
  | .bk s' => ∀ σ' H' Z' ι', Stp K σ H Z ι s σ' H' Z' ι' s' → D.bk σ' H'
  | .rt d s' => ∀ v H' Z' ι', Stp K σ H Z ι s [] H' Z' ι' ⟨[], s'.mh⟩ → Rel K H' Z' ι' v d → D.rt v H'
  | .rf d s' => ∀ v H' Z' ι', Stp K σ H Z ι s [] H' Z' ι' ⟨[], s'.mh⟩ → (∃ a, v = .ref a ∧ (H a = none ∨ Wr σ s ι a) ∧ ¬ Z' a ∧ a ∉ ι' ∧ Top K H' Z' ι' v d) → D.rt v H'
def tS (K : PySem.W.Frag) (f : S → Option Out) : TS := fun D σ H => ∃ Z ι s o, SR K H Z ι σ s ∧ f s = some o ∧ outQ K D σ H Z ι s o
section
variable {X : Cx} {a b c : Expr} {f g h : Fv} {pos p : Pos} {D : Ends}
variable {K : PySem.W.Frag} {H H' H0 H1 H2 H3 H4 : Hp} {Z Z' Z0 Z1 Z2 Z3 Z4 : Addr → Prop} {ι ι' ι0 ι1 ι2 ι3 ι4 : List Addr} {σ σ' σ1 σ2 : St} {s s' s0 s1 s2 s3 s4 sn : S} {v : V} {d e : E3.D} {tg : Tg}
theorem Stp.of (N : Nxt K σ H Z ι s H' Z' ι' s') : Stp K σ H Z ι s σ H' Z' ι' s' := ⟨N.sr, N.fr, N.zs, N.zn, N.wn, N.dm, N.ip⟩
theorem Stp.trans (N : Stp K σ H Z ι s σ1 H1 Z1 ι1 s1) (M : Stp K σ1 H1 Z1 ι1 s1 σ2 H2 Z2 ι2 s2) : Stp K σ H Z ι s σ2 H2 Z2 ι2 s2 where
  sr := M.sr
  fr := fun a o e w => M.fr a o (N.fr a o e w) fun w1 => by
    rcases N.wn a w1 with q | q
    · exact w q
    · rw [e] at q; cases q
  zs := fun a z => M.zs a (N.zs a z)
  zn := fun a z => by
    rcases M.zn a z with q | q | q
    · exact N.zn a q
    · by_cases h : H a = none
      · exact .inr (.inl h)
      · exact absurd q (N.dm a h)
    · rcases N.wn a q with q | q
      · exact .inr (.inr q)
      · exact .inr (.inl q)
  wn := fun a w => by
    rcases M.wn a w with q | q
    · exact N.wn a q
    · by_cases h : H a = none
      · exact .inr h
      · exact absurd q (N.dm a h)
  dm := fun a h => M.dm a (N.dm a h)
  ip := fun n a h => M.ip n a (N.ip n a h)
theorem Stp.drop (N : Stp K σ H Z ι s σ' H' Z' ι' s') : Stp K σ H Z ι s [] H' Z' ι' ⟨[], s'.mh⟩ :=
  ⟨N.sr.drop, N.fr, N.zs, N.zn, fun a w => N.wn a (.inl (wr_nil w)), N.dm, N.ip⟩
theorem Stp.refl (R : SR K H Z ι σ s) : Stp K σ H Z ι s σ H Z ι s := Stp.of (Nxt.refl R)
theorem Stp.bnd {vs : List Nat} (R' : SR K H Z ι σ' s') (B : Bnd vs σ s σ' s') : Stp K σ H Z ι s σ' H Z ι s' :=
  ⟨R', fun _ _ e _ => e, fun _ z => z, fun _ z => .inl z, fun _ w => .inl (B.wr w), fun _ h => h, fun _ _ h => h⟩
theorem Stp.stb (R : SR K H1 Z1 ι1 σ s1) (N : Stp K σ H1 Z1 ι1 s1 σ' H Z ι s) : Stb Z1 H1 H := fun a o e q => N.fr a o e fun w => by
  rcases q with q | ⟨xs, q⟩ | ⟨ob, u, q⟩
  · exact R.wrZ w q
  · subst q; exact notup R e ⟨fun _ e => (by cases e), fun _ e => (by cases e)⟩ w
  · subst q; exact notup R e ⟨fun _ e => (by cases e), fun _ e => (by cases e)⟩ w
theorem outQ.pre {o : Out} (M : Stp K σ H Z ι s σ1 H1 Z1 ι1 s1) (h : outQ K D σ H Z ι s o) : outQ K D σ1 H1 Z1 ι1 s1 o := by
  cases o with
  | nx s' => exact fun σ' H' Z' ι' N => h σ' H' Z' ι' (M.trans N)
  | ct s' => exact fun σ' H' Z' ι' N => h σ' H' Z' ι' (M.trans N)
  | bk s' => exact fun σ' H' Z' ι' N => h σ' H' Z' ι' (M.trans N)
  | rt d s' => exact fun v H' Z' ι' N r => h v H' Z' ι' (M.trans N) r
  | rf d s' =>
    refine fun v H' Z' ι' N ⟨a, e, q, r⟩ => h v H' Z' ι' (M.trans N) ⟨a, e, ?_, r⟩
    rcases q with q | q
    · exact .inl (Decidable.byContradiction fun n => M.dm a n q)
    · exact (M.wn a q).symm
/-! ### a value is kept -/
theorem keep_ok {o : Bool} (R : SR K H0 Z0 ι0 σ s0) (M : Nxt K σ H0 Z0 ι0 s0 H1 Z1 ι1 s1) (vr : VR H0 K H1 Z1 ι1 σ s1 v d tg) (N : Nxt K σ H1 Z1 ι1 s1 H2 Z2 ι2 s2) (w : keepT s2 (d, tg) = some (e, o, s3)) :
    ∃ Z3, Nxt K σ H0 Z0 ι0 s0 H2 Z3 ι2 s3 ∧ Nxt K σ H2 Z2 ι2 s2 H2 Z3 ι2 s3 ∧ VR H0 K H2 Z3 ι2 σ s3 v e (if o then .fr else .st) := by
  have R1 := M.sr
  have B := Nxt.trans R M N
  cases tg with
  | st =>
    have w' : (some (d, s2)).map (fun h : E3.D × S => (h.1, false, h.2)) = some (e, o, s3) := w
    cases w'
    exact ⟨Z2, B, Nxt.refl N.sr, Rel.mono (N.kp R1) vr⟩
  | fr =>
    have w' : some (d, true, s2) = some (e, o, s3) := w
    cases w'
    refine ⟨Z2, B, Nxt.refl N.sr, ?_⟩
    obtain ⟨a, rfl, h0, z, nw, t⟩ := vr
    have hs : H1 a ≠ none := by
      obtain ⟨b, eb, ob⟩ := t.obj
      cases eb
      rcases ob with ⟨_, q⟩ | ⟨_, q⟩ <;> rw [q] <;> simp
    exact ⟨a, rfl, h0, fun z' => by
      rcases N.zn a z' with q | q | q
      · exact z q
      · exact hs q
      · exact nw q, fun w => (N.wn a w).elim nw hs, t.mono (N.kp R1) fun b o eb h => by cases eb; exact N.fr _ o h nw⟩
  | bw i =>
    obtain ⟨h1, _⟩ := vr
    have w' : ((match s2.sl[i]? with | some (some (d, _)) => some (d, s2.set i d false) | _ => none).map (fun h : E3.D × S => (h.1, false, h.2))) = some (e, o, s3) := w
    split at w'
    · rename_i d' o' h3
      cases w'
      cases o' with
      | false =>
        obtain ⟨v', h4, r⟩ := N.sr.st i _ h3
        rw [h1] at h4; cases h4
        have es : s2.set i d' false = s2 := by
          unfold S.set
          rw [set_self h3]
        rw [es]
        exact ⟨Z2, B, Nxt.refl N.sr, r⟩
      | true =>
        obtain ⟨a, h4, t, _⟩ := N.sr.ow i _ h3
        rw [h1] at h4; cases h4
        obtain ⟨M2, r⟩ := N.sr.freeze h3 h1
        exact ⟨_, Nxt.trans R B M2, M2, r⟩
    · cases w'
/-- a new list or dict becomes a slot's own; anything else is bound -/
theorem SR.asg {i : Nat} {o : Bool} (R : SR K H Z ι σ s) (r : VR H0 K H Z ι σ s v d (if o then .fr else .st)) (hi : i < s.sl.length) :
    SR K H Z ι (σ.set i (some v)) (s.set i d o) ∧ ∀ a, Wr (σ.set i (some v)) (s.set i d o) ι a → Wr σ s ι a ∨ H0 a = none := by
  cases o with
  | false =>
    obtain ⟨R', B⟩ := R.bind r hi
    exact ⟨R', fun a w => .inl (B.wr w)⟩
  | true =>
    obtain ⟨x, rfl, h0, z, nw, t⟩ := r
    have hs : i < σ.length := by rw [R.len]; exact hi
    have get : ∀ (j : Nat) y c, (s.set i d true).sl[j]? = some (some (y, c)) → (j = i ∧ y = d ∧ c = true) ∨ (j ≠ i ∧ s.sl[j]? = some (some (y, c))) := fun j y c e => by
      have e' : (s.sl.set i (some (d, true)))[j]? = some (some (y, c)) := e
      rw [List.getElem?_set] at e'
      split at e'
      · rename_i hj
        cases e'
        exact .inl ⟨hj.symm, rfl, rfl⟩
      · rename_i hj
        exact .inr ⟨fun q => hj q.symm, e'⟩
    have so : ∀ j, j ≠ i → (σ.set i (some (.ref x)))[j]? = σ[j]? := fun j hj => List.getElem?_set_ne (Ne.symm hj)
    have si : (σ.set i (some (.ref x)))[i]? = some (some (.ref x)) := by simp [hs]
    refine ⟨⟨by simp [S.set, R.len], fun j y e => ?_, fun j y e => ?_, fun j l y y' x' e1 e2 q1 q2 => ?_, R.il, R.mh, R.nd, R.zd⟩, fun a w => ?_⟩
    · rcases get j y false e with ⟨_, _, c⟩ | ⟨hj, e⟩
      · cases c
      · rw [so j hj]; exact R.st j y e
    · rcases get j y true e with ⟨rfl, rfl, _⟩ | ⟨hj, e⟩
      · exact ⟨x, si, t, z, fun hm => nw (.inl hm)⟩
      · rw [so j hj]; exact R.ow j y e
    · rcases get j y true e1 with ⟨ej, ey, _⟩ | ⟨hj, f1⟩
      · rcases get l y' true e2 with ⟨el, _, _⟩ | ⟨hl, f2⟩
        · rw [ej, el]
        · rw [ej, si] at q1
          cases q1
          rw [so l hl] at q2
          exact (nw (.inr ⟨l, y', f2, q2⟩)).elim
      · rcases get l y' true e2 with ⟨el, _, _⟩ | ⟨hl, f2⟩
        · rw [el, si] at q2
          cases q2
          rw [so j hj] at q1
          exact (nw (.inr ⟨j, y, f1, q1⟩)).elim
        · rw [so j hj] at q1
          rw [so l hl] at q2
          exact R.ap j l y y' x' f1 f2 q1 q2
    · rcases w with w | ⟨j, y, e, q⟩
      · exact .inl (.inl w)
      · rcases get j y true e with ⟨ej, _, _⟩ | ⟨hj, e⟩
        · rw [ej, si] at q
          cases q
          exact .inr h0
        · rw [so j hj] at q
          exact .inl (.inr ⟨j, y, e, q⟩)
theorem Stp.asg {i : Nat} {o : Bool} (N : Nxt K σ H0 Z0 ι0 s0 H Z ι s) (r : VR H0 K H Z ι σ s v d (if o then .fr else .st)) (hi : i < s.sl.length) : Stp K σ H0 Z0 ι0 s0 (σ.set i (some v)) H Z ι (s.set i d o) := by
  obtain ⟨R', hw⟩ := N.sr.asg r hi
  exact ⟨R', N.fr, N.zs, N.zn, fun a w => (hw a w).elim (N.wn a) .inr, N.dm, N.ip⟩
theorem asg_imp {i : Nat} : ∀ D σ H, tS K (fun s => nxS (asgF i f s)) D σ H → tAsg (tE K f) (gName i) D σ H := by
  intro D σ H ⟨Z, ι, s, o, R, hf, hq⟩
  obtain ⟨s', hf1, e⟩ := Option.map_eq_some_iff.mp hf
  subst e
  replace hf := hf1
  obtain ⟨⟨d0, t0, s1⟩, f0, hf⟩ := Option.bind_eq_some_iff.mp hf
  obtain ⟨⟨d1, o1, s2⟩, f1, hf⟩ := Option.bind_eq_some_iff.mp hf
  have hf' : (if i < s2.sl.length then some (s2.set i d1 o1) else none) = some s' := hf
  split at hf'
  · rename_i hi
    cases hf'
    refine ⟨Z, ι, s, d0, t0, s1, R, f0, fun v H1 Z1 ι1 N1 v1 => ?_⟩
    obtain ⟨Z2, N2, _, r2⟩ := keep_ok R N1 v1 (Nxt.refl N1.sr) f1
    exact hq _ H1 Z2 ι1 (Stp.asg N2 r2 hi)
  · cases hf'
theorem tpl_imp {t : Tn} : ∀ D σ H, tS K (fun s => nxS ((hF f s).bind fun h => bindX t [h.1] h.2)) D σ H → tAsg (tE K f) (tT K t) D σ H := by
  intro D σ H ⟨Z, ι, s, o, R, hf, hq⟩
  obtain ⟨s', hf1, e⟩ := Option.map_eq_some_iff.mp hf
  subst e
  replace hf := hf1
  obtain ⟨⟨d1, s2⟩, f1, hf⟩ := Option.bind_eq_some_iff.mp hf
  obtain ⟨⟨d0, t0, s1⟩, f0, f1⟩ := Option.bind_eq_some_iff.mp f1
  refine ⟨Z, ι, s, d0, t0, s1, R, f0, fun v H1 Z1 ι1 N1 v1 => ?_⟩
  obtain ⟨Z2, N2, r2, _⟩ := hold_ok R N1 v1 (Nxt.refl N1.sr) f1
  exact ⟨Z2, ι1, s2, d1, s', N2.sr, r2, hf, fun σ' R' B => hq σ' H1 Z2 ι1 ((Stp.of N2).trans (Stp.bnd R' B))⟩
/-- two values, as they were when each was worked out -/
def tE2 (K : PySem.W.Frag) (f g : Fv) : TA := fun σ H Q => ∃ Z ι s d tg s1 e tg2 s', SR K H Z ι σ s ∧ f s = some (d, tg, s1) ∧ g s1 = some (e, tg2, s') ∧
  ∀ v w H1 Z1 ι1 H' Z' ι', Nxt K σ H Z ι s H1 Z1 ι1 s1 → VR H K H1 Z1 ι1 σ s1 v d tg → Nxt K σ H1 Z1 ι1 s1 H' Z' ι' s' → VR H1 K H' Z' ι' σ s' w e tg2 → Q [v, w] H'
theorem pa_two (ha : PE X a (tE X.K f)) (hb : PE X b (tE X.K g)) (hs : starEach [a, b] X.env = [(false, eval a X.env), (false, eval b X.env)]) (hs2 : starEach [b] X.env = [(false, eval b X.env)]) : PA X [a, b] (tE2 X.K f g) := by
  refine PA.imp (pa_cons ha (pa_cons hb pa_nil hs2) (by rw [hs, hs2])) fun σ H Q ⟨Z, ι, s, d, tg, s1, e, tg2, s', R, f0, f1, hq⟩ => ?_
  exact ⟨Z, ι, s, d, tg, s1, R, f0, fun v H1 Z1 ι1 N1 v1 => ⟨Z1, ι1, s1, e, tg2, s', N1.sr, f1, fun w H2 Z2 ι2 N2 v2 => hq v w H1 Z1 ι1 H2 Z2 ι2 N1 v1 N2 v2⟩⟩
theorem VR.fr_next {x : Addr} {o : Bool} (R : SR K H1 Z1 ι1 σ s1) (vr : VR H0 K H1 Z1 ι1 σ s1 v d (if o then .fr else .st)) (N : Nxt K σ H1 Z1 ι1 s1 H2 Z2 ι2 s2) : VR H0 K H2 Z2 ι2 σ s2 v d (if o then .fr else .st) := by
  cases o with
  | false => exact Rel.mono (N.kp R) vr
  | true =>
    obtain ⟨a, rfl, h0, z, nw, t⟩ := vr
    have hs : H1 a ≠ none := by
      obtain ⟨b, eb, ob⟩ := t.obj
      cases eb
      rcases ob with ⟨_, q⟩ | ⟨_, q⟩ <;> rw [q] <;> simp
    exact ⟨a, rfl, h0, fun z' => by
      rcases N.zn a z' with q | q | q
      · exact z q
      · exact hs q
      · exact nw q, fun w => (N.wn a w).elim nw hs, t.mono (N.kp R) fun b o eb h => by cases eb; exact N.fr _ o h nw⟩
theorem par_core {i j : Nat} : ∀ D σ H, tS K (fun s => nxS (parF i j f g s)) D σ H → i ≠ j ∧ tE2 K f g σ H fun vs H1 => ∃ v w, vs = [v, w] ∧ ∀ H', (∀ a o, H1 a = some o → H' a = some o) → D.nx ((σ.set i (some v)).set j (some w)) H' := by
  intro D σ H ⟨Z, ι, s, o, R, hf, hq⟩
  obtain ⟨s', hf1, e⟩ := Option.map_eq_some_iff.mp hf
  subst e
  replace hf := hf1
  obtain ⟨⟨d0, t0, s1⟩, f0, hf⟩ := Option.bind_eq_some_iff.mp hf
  obtain ⟨⟨e0, u0, s2⟩, f1, hf⟩ := Option.bind_eq_some_iff.mp hf
  obtain ⟨⟨d1, o1, s3⟩, f2, hf⟩ := Option.bind_eq_some_iff.mp hf
  obtain ⟨⟨e1, o2, s4⟩, f3, hf⟩ := Option.bind_eq_some_iff.mp hf
  have hf' : (if i < s4.sl.length ∧ j < s4.sl.length ∧ i ≠ j then some ((s4.set i d1 o1).set j e1 o2) else none) = some s' := hf
  split at hf'
  · rename_i hij
    obtain ⟨hi, hj, hne⟩ := hij
    cases hf'
    refine ⟨hne, Z, ι, s, d0, t0, s1, e0, u0, s2, R, f0, f1, fun v w H1 Z1 ι1 H2 Z2 ι2 N1 v1 N2 v2 => ⟨v, w, rfl, fun H' ex => ?_⟩⟩
    obtain ⟨Z3, N3, M3, r3⟩ := keep_ok R N1 v1 N2 f2
    obtain ⟨Z4, N4, M4, r4⟩ := keep_ok N1.sr N2 v2 M3 f3
    have r3' := VR.fr_next (x := 0) N3.sr r3 M4
    have B4 := Nxt.trans R N3 M4
    have S1 := Stp.asg B4 r3' hi
    -- the second one
    have nw : ∀ x, w = .ref x → H1 x = none → v ≠ .ref x ∨ o1 = false := fun x e hx => by
      cases o1 with
      | false => exact .inr rfl
      | true =>
        refine .inl fun e2 => ?_
        have hs : H1 x ≠ none := by
          cases t0 with
          | fr =>
            obtain ⟨y, ey, _, _, _, t⟩ := v1
            have exy : x = y := by rw [e2] at ey; cases ey; rfl
            obtain ⟨z, ez, ob⟩ := t.obj
            have eyz : y = z := by have := ey.symm.trans ez; cases this; rfl
            rw [exy, eyz]
            rcases ob with ⟨_, q⟩ | ⟨_, q⟩ <;> rw [q] <;> simp
          | st =>
            have f2' : (some (d0, s2)).map (fun h : E3.D × S => (h.1, false, h.2)) = some (d1, true, s3) := f2
            cases f2'
          | bw k =>
            have f2' : ((match s2.sl[k]? with | some (some (d, _)) => some (d, s2.set k d false) | _ => none).map (fun h : E3.D × S => (h.1, false, h.2))) = some (d1, true, s3) := f2
            split at f2' <;> cases f2'
        exact hs hx
    have r4' : VR H K H2 Z4 ι2 (σ.set i (some v)) (s4.set i d1 o1) w e1 (if o2 then .fr else .st) := by
      cases o2 with
      | false => exact r4
      | true =>
        obtain ⟨x, ew, h0, z, nx, t⟩ := r4
        refine ⟨x, ew, ?_, z, fun wr => ?_, t⟩
        · cases q : H x with
          | none => rfl
          | some o => exact absurd h0 (N1.dm x (by rw [q]; simp))
        · rcases wr with wr | ⟨k, y, e, q⟩
          · exact nx (.inl wr)
          · by_cases hk : k = i
            · subst hk
              have e' : (s4.sl.set k (some (d1, o1)))[k]? = some (some (y, true)) := e
              rw [List.getElem?_set_self hi] at e'
              have hs' : k < σ.length := by rw [B4.sr.len]; exact hi
              rw [List.getElem?_set_self hs'] at q
              rcases nw x ew h0 with c | c
              · cases q; exact c rfl
              · rw [c] at e'; cases e'
            · rw [List.getElem?_set_ne (fun q => hk q.symm)] at q
              have e' : (s4.sl.set i (some (d1, o1)))[k]? = some (some (y, true)) := e
              rw [List.getElem?_set_ne (fun q => hk q.symm)] at e'
              exact nx (.inr ⟨k, y, e', q⟩)
    obtain ⟨R', hw⟩ := S1.sr.asg (i := j) r4' (by simpa [S.set] using hj)
    have SS : Stp K σ H Z ι s _ H2 Z4 ι2 _ := ⟨R', S1.fr, S1.zs, S1.zn, fun a w => (hw a w).elim (S1.wn a) .inr, S1.dm, S1.ip⟩
    exact hq _ H' Z4 ι2 (SS.trans (Stp.of (Nxt.ext SS.sr ex)))
  · cases hf'
theorem tE2.imp {P Q : List V → Hp → Prop} (h : ∀ vs H, P vs H → Q vs H) (q : tE2 K f g σ H P) : tE2 K f g σ H Q := by
  obtain ⟨Z, ι, s, d, tg, s1, e, tg2, s', R, f0, f1, hq⟩ := q
  exact ⟨Z, ι, s, d, tg, s1, e, tg2, s', R, f0, f1, fun v w H1 Z1 ι1 H' Z' ι' a b c d => h _ _ (hq v w H1 Z1 ι1 H' Z' ι' a b c d)⟩
theorem par_imp {i j : Nat} : ∀ D σ H, tS K (fun s => nxS (parF i j f g s)) D σ H → tPar i j (tE2 K f g) D σ H := fun D σ H q =>
  tE2.imp (fun vs H1 ⟨v, w, e, h⟩ => ⟨v, w, e, h H1 fun _ _ h => h⟩) (par_core D σ H q).2
/-- by way of a tuple -/
theorem parT_imp {i j : Nat} : ∀ D σ H, tS K (fun s => nxS (parF i j f g s)) D σ H → tAsg (tTupX (tE2 K f g)) (gTup K 2 (gCons (gName i) (gCons (gName j) gNil))) D σ H := by
  intro D σ H q
  show tE2 K f g σ H (fun xs H1 => xs.length ≤ sizeLine ∧ ∀ p o, H1 p = none → o.dict = none → gTup K 2 (gCons (gName i) (gCons (gName j) gNil)) (.ref p) σ (upd H1 p (.frz o (.tup xs))) D.nx)
  refine tE2.imp (fun vs H1 h => ?_) (par_core D σ H q).2
  obtain ⟨v, w, e, h⟩ := h
  subst e
  refine ⟨by show 2 ≤ sizeLine; decide, fun p o hp ho => ⟨p, [v, w], rfl, .inl (.inr ⟨o, upd_same⟩), rfl, v, [w], rfl, w, [], rfl, rfl, ?_⟩⟩
  exact h _ (ext_upd hp)
/-! ### the forms of control -/
theorem pss_nilC : PSs X [] (tS X.K fun s => some (.nx s)) := PSs.imp pss_nil fun D σ H ⟨Z, ι, s, o, R, hf, hq⟩ => by
  cases hf
  exact hq σ H Z ι (Stp.refl R)
theorem ps_passC : PS X (.Pass pos) (tS X.K fun s => some (.nx s)) := PS.imp ps_pass fun D σ H ⟨Z, ι, s, o, R, hf, hq⟩ => by
  cases hf
  exact hq σ H Z ι (Stp.refl R)
theorem ps_brkC : PS X (.Break pos) (tS X.K fun s => some (.bk s)) := PS.imp ps_break fun D σ H ⟨Z, ι, s, o, R, hf, hq⟩ => by
  cases hf
  exact hq σ H Z ι (Stp.refl R)
theorem ps_contC : PS X (.Continue pos) (tS X.K fun s => some (.ct s)) := PS.imp ps_continue fun D σ H ⟨Z, ι, s, o, R, hf, hq⟩ => by
  cases hf
  exact hq σ H Z ι (Stp.refl R)
abbrev Fs := S → Option Out
def seqF (f g : Fs) : Fs := fun s => (f s).bind fun o => match o with
  | .nx s1 => g s1
  | o => some o
theorem pss_consC {st : Stmt} {rest : List Stmt} {f g : Fs} (h1 : PS X st (tS X.K f)) (h2 : PSs X rest (tS X.K g)) : PSs X (st :: rest) (tS X.K (seqF f g)) := by
  refine PSs.imp (pss_cons h1 h2) fun D σ H ⟨Z, ι, s, o, R, hf, hq⟩ => ?_
  obtain ⟨o1, f1, hf⟩ := Option.bind_eq_some_iff.mp hf
  refine ⟨Z, ι, s, o1, R, f1, ?_⟩
  cases o1 with
  | nx s1 => exact fun σ' H' Z' ι' N => ⟨Z', ι', s1, o, N.sr, hf, hq.pre N⟩
  | ct s1 => cases hf; exact hq
  | bk s1 => cases hf; exact hq
  | rt d s1 => cases hf; exact hq
  | rf d s1 => cases hf; exact hq
theorem ps_retC (ha : PE X a (tE X.K f)) : PS X (.Return (some a) pos) (tS X.K fun s => (hF f s).map fun h => .rt h.1 h.2) := by
  refine PS.imp (ps_ret ha) fun D σ H ⟨Z, ι, s, o, R, hf, hq⟩ => ?_
  obtain ⟨⟨d1, s2⟩, f1, hf⟩ := Option.map_eq_some_iff.mp hf
  cases hf
  obtain ⟨⟨d0, t0, s1⟩, f0, f1⟩ := Option.bind_eq_some_iff.mp f1
  refine ⟨Z, ι, s, d0, t0, s1, R, f0, fun v H1 Z1 ι1 N1 v1 => ?_⟩
  obtain ⟨Z2, N2, r2, _⟩ := hold_ok R N1 v1 (Nxt.refl N1.sr) f1
  exact hq v H1 Z2 ι1 (Stp.of N2).drop r2
theorem ps_retfC (ha : PE X a (tE X.K f)) : PS X (.Return (some a) pos) (tS X.K fun s => (f s).bind fun x => (fresh x.2.2 (x.1, x.2.1)).map fun d => .rf d x.2.2) := by
  refine PS.imp (ps_ret ha) fun D σ H ⟨Z, ι, s, o, R, hf, hq⟩ => ?_
  obtain ⟨⟨d0, t0, s1⟩, f0, hf⟩ := Option.bind_eq_some_iff.mp hf
  obtain ⟨d1, f1, hf⟩ := Option.map_eq_some_iff.mp hf
  cases hf
  refine ⟨Z, ι, s, d0, t0, s1, R, f0, fun v H1 Z1 ι1 N1 v1 => hq v H1 Z1 ι1 (Stp.of N1).drop ?_⟩
  cases t0 with
  | st => cases f1
  | fr =>
    cases f1
    obtain ⟨a, e, h1, h2, h3, h4⟩ := v1
    exact ⟨a, e, .inl h1, h2, fun q => h3 (.inl q), h4⟩
  | bw i =>
    have f1' : (match s1.sl[i]? with | some (some (d, true)) => some d | _ => none) = some d1 := f1
    split at f1'
    · rename_i d' h3
      cases f1'
      obtain ⟨q1, _⟩ := v1
      obtain ⟨a, q2, t, z, n⟩ := N1.sr.ow i _ h3
      rw [q1] at q2
      cases q2
      exact ⟨a, rfl, (N1.wn a (.inr ⟨i, _, h3, q1⟩)).symm, z, n, t⟩
    · cases f1'
theorem ps_retnC : PS X (.Return none pos) (tS X.K fun s => some (.rt .non s)) := by
  refine PS.imp ps_retN fun D σ H ⟨Z, ι, s, o, R, hf, hq⟩ => ?_
  cases hf
  exact hq .non H Z ι (Stp.refl R).drop .non
def iteS (c : Fc) (f g : Fs) : Fs := fun s => (c s).bind fun x => if x.1 then f x.2 else g x.2
theorem ps_ifC {t : Fc} {p q : List Stmt} {f g : Fs} (hc : PT X c (tET X.K t)) (ha : PSs X p (tS X.K f)) (hb : PSs X q (tS X.K g)) : PS X (.If c p q pos) (tS X.K (iteS t f g)) := by
  refine PS.imp (ps_if hc ha hb) fun D σ H ⟨Z, ι, s, o, R, hf, hq⟩ => ?_
  obtain ⟨⟨cb, s1⟩, f1, hf⟩ := Option.bind_eq_some_iff.mp hf
  refine ⟨Z, ι, s, cb, s1, R, f1, fun H1 Z1 ι1 N1 => ?_⟩
  cases cb with
  | true =>
    simp only [if_true]
    exact ⟨Z1, ι1, s1, o, N1.sr, hf, hq.pre (Stp.of N1)⟩
  | false =>
    simp only [Bool.false_eq_true, if_false]
    exact ⟨Z1, ι1, s1, o, N1.sr, by simpa using hf, hq.pre (Stp.of N1)⟩
theorem ps_forC {tge iter : Expr} {body : List Stmt} {it : Fa} {t : Tn} {f : Fs} (hp : PassesOwn (model X.prog X.w) X.A X.env X.xe) (hc : X.calm = true) (hi : PI X tge iter (tI X.K it)) (hg : PG X tge (tT X.K t)) (hb : PSs X body (tS X.K f))
    (hs : ∀ x, foldedSetIterable iter X.env x = pure x) : PS X (.For tge iter body [] pos) (tS X.K fun s => (it s).bind fun x => forLoop (fun d s => bindX t [d] s) f x.1 x.2) := by
  refine PS.imp (ps_for hp hc hi hg hb hs) fun D σ H ⟨Z, ι, s, o, R, hf, hq⟩ => ?_
  obtain ⟨⟨ds, s1⟩, f1, hf⟩ := Option.bind_eq_some_iff.mp hf
  refine ⟨Z, ι, s, ds, s1, R, f1, fun J H1 Z1 ι1 N1 wk => ?_⟩
  have hq1 := hq.pre (Stp.of N1)
  refine ⟨fun i m σ' H' => m = ds.length - i ∧ i ≤ ds.length ∧ ∃ si Zi ιi, Stp X.K σ H1 Z1 ι1 s1 σ' H' Zi ιi si ∧ forLoop (fun d s => bindX t [d] s) f (ds.drop i) si = some o, ⟨ds.length, by simp, Nat.zero_le _, s1, Z1, ι1, Stp.refl N1.sr, hf⟩, ?_⟩
  rintro i m σi Hi ⟨rfl, hle, si, Zi, ιi, N, fl⟩
  have sb := Stp.stb N1.sr N
  by_cases hlt : i < ds.length
  · refine .inr ⟨wk.go Hi sb i hlt, fun σ' H' => ∃ si Zi ιi, Stp X.K σ H1 Z1 ι1 s1 σ' H' Zi ιi si ∧ forLoop (fun d s => bindX t [d] s) f (ds.drop (i + 1)) si = some o,
      fun σ' H' p' => ⟨ds.length - (i + 1), by omega, rfl, hlt, p'⟩, fun y H2 yd => ?_⟩
    obtain ⟨ex, rel⟩ := wk.yld Hi sb i y H2 yd
    have rd := rel ds[i] (List.getElem?_eq_getElem hlt)
    rw [List.drop_eq_getElem_cons hlt] at fl
    obtain ⟨s2, b1, fl⟩ := Option.bind_eq_some_iff.mp (show (bindX t [ds[i]] si).bind _ = some o from fl)
    obtain ⟨o2, b2, fl⟩ := Option.bind_eq_some_iff.mp fl
    have N2 := N.trans (Stp.of (Nxt.ext N.sr ex))
    refine ⟨Zi, ιi, si, ds[i], s2, N2.sr, rd.mono (kp_up N.zs N.ip), b1, fun σ2 R2 B2 => ?_⟩
    have N3 := N2.trans (Stp.bnd R2 B2)
    refine ⟨Zi, ιi, s2, o2, R2, b2, ?_⟩
    cases o2 with
    | nx s4 => exact fun σ' H' Z' ι' M => ⟨s4, Z', ι', N3.trans M, fl⟩
    | ct s4 => exact fun σ' H' Z' ι' M => ⟨s4, Z', ι', N3.trans M, fl⟩
    | bk s4 =>
      cases fl
      exact fun σ' H' Z' ι' M => hq1 σ' H' Z' ι' (N3.trans M)
    | rt d s4 =>
      cases fl
      exact fun v H' Z' ι' M r => hq1 v H' Z' ι' (N3.trans M) r
    | rf d s4 =>
      cases fl
      exact (hq1.pre N3)
  · have e : i = ds.length := by omega
    subst e
    rw [List.drop_length] at fl
    cases fl
    exact .inl ⟨wk.stop Hi sb, hq1 σi Hi Zi ιi N⟩
def whlN (c : Fc) (f : Fs) : Nat → Fs
  | 0, _ => none
  | n + 1, s => (c s).bind fun x => if x.1 then (f x.2).bind fun o => match o with
    | .nx s2 => whlN c f n s2
    | .ct s2 => whlN c f n s2
    | .bk s2 => some (.nx s2)
    | .rt d s2 => some (.rt d s2)
    | .rf d s2 => some (.rf d s2) else some (.nx x.2)
theorem whl_fuel {t : Fc} {f : Fs} {o : Out} (h : whlLoop t f s = some o) : ∃ n, whlN t f n s = some o := by
  refine whlLoop.partial_correctness t f (fun s o => ∃ n, whlN t f n s = some o) (fun loop ih s o h => ?_) s o h
  obtain ⟨x, h1, h⟩ := Option.bind_eq_some_iff.mp h
  split at h
  · rename_i hx
    obtain ⟨o2, h2, h⟩ := Option.bind_eq_some_iff.mp h
    cases o2 with
    | nx s2 =>
      obtain ⟨n, hn⟩ := ih s2 o h
      exact ⟨n + 1, by show (t s).bind _ = _; rw [h1]; show (if x.1 then _ else _) = _; rw [if_pos hx, h2]; exact hn⟩
    | ct s2 =>
      obtain ⟨n, hn⟩ := ih s2 o h
      exact ⟨n + 1, by show (t s).bind _ = _; rw [h1]; show (if x.1 then _ else _) = _; rw [if_pos hx, h2]; exact hn⟩
    | bk s2 => exact ⟨1, by show (t s).bind _ = _; rw [h1]; show (if x.1 then _ else _) = _; rw [if_pos hx, h2]; exact h⟩
    | rf d s2 => exact ⟨1, by show (t s).bind _ = _; rw [h1]; show (if x.1 then _ else _) = _; rw [if_pos hx, h2]; exact h⟩
    | rt d s2 => exact ⟨1, by show (t s).bind _ = _; rw [h1]; show (if x.1 then _ else _) = _; rw [if_pos hx, h2]; exact h⟩
  · rename_i hx
    exact ⟨1, by show (t s).bind _ = _; rw [h1]; show (if x.1 then _ else _) = _; rw [if_neg hx]; exact h⟩
theorem ps_whlC {body : List Stmt} {t : Fc} {f : Fs} (hp : PassesOwn (model X.prog X.w) X.A X.env X.xe) (hc : PT X c (tET X.K t)) (hb : PSs X body (tS X.K f)) : PS X (.While c body [] pos) (tS X.K (whlLoop t f)) := by
  refine PS.imp (ps_while hp hc hb) fun D σ H ⟨Z, ι, s, o, R, hf, hq⟩ => ?_
  obtain ⟨n, hn⟩ := whl_fuel hf
  refine ⟨fun m σ' H' => ∃ si Zi ιi, Stp X.K σ H Z ι s σ' H' Zi ιi si ∧ whlN t f m si = some o, ⟨n, s, Z, ι, Stp.refl R, hn⟩, ?_⟩
  rintro m σi Hi ⟨si, Zi, ιi, N, fl⟩
  cases m with
  | zero => cases fl
  | succ m =>
    obtain ⟨⟨cb, s2⟩, b1, fl⟩ := Option.bind_eq_some_iff.mp (show (t si).bind _ = some o from fl)
    refine ⟨Zi, ιi, si, cb, s2, N.sr, b1, fun H2 Z2 ι2 N2 => ?_⟩
    have N3 := N.trans (Stp.of N2)
    cases cb with
    | true =>
      simp only [if_true] at fl ⊢
      obtain ⟨o2, b2, fl⟩ := Option.bind_eq_some_iff.mp fl
      refine ⟨fun σ' H' => ∃ si Zi ιi, Stp X.K σ H Z ι s σ' H' Zi ιi si ∧ whlN t f m si = some o, fun σ' H' p' => ⟨m, Nat.lt_succ_self _, p'⟩, Z2, ι2, s2, o2, N2.sr, b2, ?_⟩
      cases o2 with
      | nx s4 => exact fun σ' H' Z' ι' M => ⟨s4, Z', ι', N3.trans M, fl⟩
      | ct s4 => exact fun σ' H' Z' ι' M => ⟨s4, Z', ι', N3.trans M, fl⟩
      | bk s4 =>
        cases fl
        exact fun σ' H' Z' ι' M => hq σ' H' Z' ι' (N3.trans M)
      | rt d s4 =>
        cases fl
        exact fun v H' Z' ι' M r => hq v H' Z' ι' (N3.trans M) r
      | rf d s4 =>
        cases fl
        exact (outQ.pre N3 hq)
    | false =>
      simp only [Bool.false_eq_true, if_false] at fl ⊢
      cases fl
      exact hq σi H2 Z2 ι2 N3
end
end E3
set_option Elab.async false
set_option linter.all false
set_option maxRecDepth 100000
set_option maxHeartbeats 1000000
/-! Rules: statements that write; raise. -/
namespace E3
open PySem PySem.Spec PyProof.Rows L2
section
variable {X : Cx} {a b c : Expr} {f g h : Fv} {pos p p2 apos : Pos} {D : Ends} {i : Nat} {x : Str}
variable {K : PySem.W.Frag} {H H' H0 H1 H2 H3 H4 : Hp} {Z Z' Z0 Z1 Z2 Z3 Z4 : Addr → Prop} {ι ι' ι0 ι1 ι2 ι3 ι4 : List Addr} {σ σ' σ1 σ2 : St} {s s' s0 s1 s2 s3 s4 sn : S} {v : V} {d e : E3.D} {tg : Tg}
theorem ownL_some {xs : List E3.D} (h : ownL s i = some xs) : s.sl[i]? = some (some (.lst xs, true)) := by
  unfold ownL at h
  split at h
  · rename_i h1; cases h; exact h1
  · cases h
theorem ownK_some {xs : List (Key × E3.D)} (h : ownK s i = some xs) : s.sl[i]? = some (some (.dct xs, true)) := by
  unfold ownK at h
  split at h
  · rename_i h1; cases h; exact h1
  · cases h
theorem SR.list (R : SR K H Z ι σ s) {xs : List E3.D} (h : ownL s i = some xs) : ∃ a vs, σ[i]? = some (some (.ref a)) ∧ H a = some (.lst vs) ∧ Rels K H Z ι vs xs := by
  obtain ⟨a, h1, t, _⟩ := R.ow i _ (ownL_some h)
  obtain ⟨b, vs, e, h2, r⟩ := t
  cases e
  exact ⟨a, vs, h1, h2, r⟩
theorem SR.dict (R : SR K H Z ι σ s) {xs : List (Key × E3.D)} (h : ownK s i = some xs) : ∃ a vs, σ[i]? = some (some (.ref a)) ∧ H a = some (.dK vs) ∧ RelK K H Z ι vs xs := by
  obtain ⟨a, h1, t, _⟩ := R.ow i _ (ownK_some h)
  obtain ⟨b, vs, e, h2, r⟩ := t
  cases e
  exact ⟨a, vs, h1, h2, r⟩
def appS (i : Nat) (f : Fv) : Fs := fun s => nxS ((ownL s i).bind fun _ => (hF f s).bind fun h => (ownL h.2 i).bind fun xs => if xs.length < sizeLine then some (h.2.set i (.lst (xs ++ [h.1])) true) else none)
theorem ps_appC (hN : X.N[i]? = some x) (hv : Vis X.env.scope x) (hd : (x == ("__debug__" : Str)) = false) (hcd : (x == ("__classdict__" : Str)) = false) (ha : PE X a (tE X.K f))
    (hline : (apos.endLine == p.line) = true) (hs : starEach [a] X.env = [(false, eval a X.env)]) :
    PS X (.Expr (.Call (.Attribute (.Name x p2) "append" apos) [a] [] p) pos) (tS X.K (appS i f)) := by
  refine PS.imp (ps_expr (pe_bm PySem.F.plainAttrs_list PySem.F.slot_list_append PySem.F.type_list_append mt_append (pe_var hN hv hd hcd) (pa_cons ha pa_nil (by rw [hs]; rfl)) rfl (by rw [hs]; rfl) hline (by rw [hs]; rfl) rfl)) fun D σ H ⟨Z, ι, s, o, R, hf, hq⟩ => ?_
  obtain ⟨s', hf1, e⟩ := Option.map_eq_some_iff.mp (show (Option.map Out.nx _) = some o from hf)
  subst e
  replace hf := hf1
  obtain ⟨xs0, g0, hf⟩ := Option.bind_eq_some_iff.mp hf
  obtain ⟨⟨d1, s2⟩, f1, hf⟩ := Option.bind_eq_some_iff.mp hf
  obtain ⟨xs, g1, hf⟩ := Option.bind_eq_some_iff.mp hf
  have hf' : (if xs.length < sizeLine then some (s2.set i (.lst (xs ++ [d1])) true) else none) = some s' := hf
  split at hf'
  · rename_i hz
    cases hf'
    obtain ⟨⟨d0, t0, s1⟩, f0, f1⟩ := Option.bind_eq_some_iff.mp f1
    obtain ⟨q, vs0, hσ, h1, _⟩ := R.list g0
    refine ⟨.ref q, hσ, .inl ⟨rfl, vs0, .inl (.inl h1)⟩, Z, ι, s, d0, t0, s1, R, f0, fun v H1 Z1 ι1 N1 v1 => ?_⟩
    obtain ⟨Z2, N2, r2, _⟩ := hold_ok R N1 v1 (Nxt.refl N1.sr) f1
    obtain ⟨q', vs, hσ', h2, r⟩ := N2.sr.list g1
    rw [hσ] at hσ'; cases hσ'
    refine ⟨q, vs, v, rfl, rfl, h2, by rw [r.length]; exact hz, ?_⟩
    have N3 := N2.sr.put (o := .lst (vs ++ [v])) (d' := .lst (xs ++ [d1])) (ownL_some g1) hσ (.inl ⟨_, rfl⟩) fun H' k e => ⟨q, _, rfl, e, (r.append (.cons r2 .nil)).mono k⟩
    exact hq σ _ Z2 ι1 (Stp.of (Nxt.trans R N2 N3))
  · cases hf'
def extS (i : Nat) (f : Fv) : Fs := fun s => nxS ((ownL s i).bind fun _ => (hF f s).bind fun h => (listD h.1).bind fun ys => (ownL h.2 i).bind fun xs => if xs.length + ys.length ≤ sizeLine then some (h.2.set i (.lst (xs ++ ys)) true) else none)
theorem ps_extC (hN : X.N[i]? = some x) (hv : Vis X.env.scope x) (hd : (x == ("__debug__" : Str)) = false) (hcd : (x == ("__classdict__" : Str)) = false) (ha : PE X a (tE X.K f))
    (hline : (apos.endLine == p.line) = true) (hs : starEach [a] X.env = [(false, eval a X.env)]) :
    PS X (.Expr (.Call (.Attribute (.Name x p2) "extend" apos) [a] [] p) pos) (tS X.K (extS i f)) := by
  refine PS.imp (ps_expr (pe_bm PySem.F.plainAttrs_list PySem.F.slot_list_extend PySem.F.type_list_extend mt_extend (pe_var hN hv hd hcd) (pa_cons ha pa_nil (by rw [hs]; rfl)) rfl (by rw [hs]; rfl) hline (by rw [hs]; rfl) rfl)) fun D σ H ⟨Z, ι, s, o, R, hf, hq⟩ => ?_
  obtain ⟨s', hf1, e⟩ := Option.map_eq_some_iff.mp (show (Option.map Out.nx _) = some o from hf)
  subst e
  replace hf := hf1
  obtain ⟨xs0, g0, hf⟩ := Option.bind_eq_some_iff.mp hf
  obtain ⟨⟨d1, s2⟩, f1, hf⟩ := Option.bind_eq_some_iff.mp hf
  obtain ⟨ys, gy, hf⟩ := Option.bind_eq_some_iff.mp hf
  obtain ⟨xs, g1, hf⟩ := Option.bind_eq_some_iff.mp hf
  have hf' : (if xs.length + ys.length ≤ sizeLine then some (s2.set i (.lst (xs ++ ys)) true) else none) = some s' := hf
  have ed : d1 = .lst ys := by
    have gy' : listD d1 = some ys := gy
    cases d1 <;> first | (cases gy'; rfl) | cases gy'
  subst ed
  split at hf'
  · rename_i hz
    cases hf'
    obtain ⟨⟨d0, t0, s1⟩, f0, f1⟩ := Option.bind_eq_some_iff.mp f1
    obtain ⟨q, vs0, hσ, h1, _⟩ := R.list g0
    refine ⟨.ref q, hσ, .inl ⟨rfl, vs0, .inl (.inl h1)⟩, Z, ι, s, d0, t0, s1, R, f0, fun v H1 Z1 ι1 N1 v1 => ?_⟩
    obtain ⟨Z2, N2, r2, _⟩ := hold_ok R N1 v1 (Nxt.refl N1.sr) f1
    obtain ⟨q', vs, hσ', h2, r⟩ := N2.sr.list g1
    rw [hσ] at hσ'; cases hσ'
    obtain ⟨b, ws, rfl, hb, rb⟩ := RelW.lst (.inl r2)
    refine ⟨q, b, vs, ws, rfl, rfl, h2, hb, by rw [r.length, rb.length]; exact hz, ?_⟩
    have N3 := N2.sr.put (o := .lst (vs ++ ws)) (d' := .lst (xs ++ ys)) (ownL_some g1) hσ (.inl ⟨_, rfl⟩) fun H' k e => ⟨q, _, rfl, e, (r.append rb).mono k⟩
    exact hq σ _ Z2 ι1 (Stp.of (Nxt.trans R N2 N3))
  · cases hf'
def insS (i : Nat) (f : Fv) : Fs := fun s => nxS ((ownL s i).bind fun _ => (hF f s).bind fun h => (ownL h.2 i).bind fun xs => if xs.length < sizeLine then some (h.2.set i (.lst (h.1 :: xs)) true) else none)
theorem ps_insC {n : Nat} {p3 : Pos} (hN : X.N[i]? = some x) (hv : Vis X.env.scope x) (hd : (x == ("__debug__" : Str)) = false) (hcd : (x == ("__classdict__" : Str)) = false) (ha : PE X a (tE X.K f))
    (hline : (apos.endLine == p.line) = true) (hs : starEach [.Constant (.int 0) n p3, a] X.env = [(false, eval (.Constant (.int 0) n p3) X.env), (false, eval a X.env)]) (hs2 : starEach [a] X.env = [(false, eval a X.env)]) :
    PS X (.Expr (.Call (.Attribute (.Name x p2) "insert" apos) [.Constant (.int 0) n p3, a] [] p) pos) (tS X.K (insS i f)) := by
  have c0 : PE X (.Constant (.int 0) n p3) (tC (.int 0)) := pe_int
  refine PS.imp (ps_expr (pe_bm PySem.F.plainAttrs_list PySem.F.slot_list_insert PySem.F.type_list_insert mt_insert (pe_var hN hv hd hcd) (pa_cons c0 (pa_cons ha pa_nil (by rw [hs2]; rfl)) (by rw [hs, hs2])) rfl (by rw [hs]; rfl) hline (by rw [hs, hs2]) (by rw [hs2]; rfl))) fun D σ H ⟨Z, ι, s, o, R, hf, hq⟩ => ?_
  obtain ⟨s', hf1, e⟩ := Option.map_eq_some_iff.mp (show (Option.map Out.nx _) = some o from hf)
  subst e
  replace hf := hf1
  obtain ⟨xs0, g0, hf⟩ := Option.bind_eq_some_iff.mp hf
  obtain ⟨⟨d1, s2⟩, f1, hf⟩ := Option.bind_eq_some_iff.mp hf
  obtain ⟨xs, g1, hf⟩ := Option.bind_eq_some_iff.mp hf
  have hf' : (if xs.length < sizeLine then some (s2.set i (.lst (d1 :: xs)) true) else none) = some s' := hf
  split at hf'
  · rename_i hz
    cases hf'
    obtain ⟨⟨d0, t0, s1⟩, f0, f1⟩ := Option.bind_eq_some_iff.mp f1
    obtain ⟨q, vs0, hσ, h1, _⟩ := R.list g0
    refine ⟨.ref q, hσ, .inl ⟨rfl, vs0, .inl (.inl h1)⟩, Z, ι, s, d0, t0, s1, R, f0, fun v H1 Z1 ι1 N1 v1 => ?_⟩
    obtain ⟨Z2, N2, r2, _⟩ := hold_ok R N1 v1 (Nxt.refl N1.sr) f1
    obtain ⟨q', vs, hσ', h2, r⟩ := N2.sr.list g1
    rw [hσ] at hσ'; cases hσ'
    refine ⟨q, vs, 0, v, rfl, rfl, h2, by rw [r.length]; exact hz, by decide, by decide, ?_⟩
    have N3 := N2.sr.put (o := .lst (vs.take (0 : Int).toNat ++ [v] ++ vs.drop (0 : Int).toNat)) (d' := .lst (d1 :: xs)) (ownL_some g1) hσ (.inl ⟨_, rfl⟩) fun H' k e => ⟨q, _, rfl, e, by
      have : vs.take (0 : Int).toNat ++ [v] ++ vs.drop (0 : Int).toNat = v :: vs := by simp
      rw [this]
      exact (Rels.cons r2 r).mono k⟩
    exact hq σ _ Z2 ι1 (Stp.of (Nxt.trans R N2 N3))
  · cases hf'
def setdS (i : Nat) (k f : Fv) : Fs := fun s => nxS ((hF f s).bind fun h => (ownK h.2 i).bind fun _ => (k h.2).bind fun y => (ownK y.2.2 i).bind fun ks => (keyD y.1).bind fun k => if ks.length < sizeLine then some (y.2.2.set i (.dct (putD ks k h.1)) true) else none)
theorem ps_setdC (hu : X.A.units + 1 < cLine) (hN : X.N[i]? = some x) (hv : Vis X.env.scope x) (hd : (x == ("__debug__" : Str)) = false) (hcd : (x == ("__classdict__" : Str)) = false) (hk : PE X b (tE X.K g)) (ha : PE X a (tE X.K f))
    (hs : swapsWith a (some (.Subscript (.Name x p2) b p)) pos.line X.env = pure false) :
    PS X (.Assign [.Subscript (.Name x p2) b p] a pos) (tS X.K (setdS i g f)) := by
  refine PS.imp (ps_dput hu (pe_var (pos := p2) hN hv hd hcd) hk ha hs) fun D σ H ⟨Z, ι, s, o, R, hf, hq⟩ => ?_
  obtain ⟨s', hf1, e⟩ := Option.map_eq_some_iff.mp (show (Option.map Out.nx _) = some o from hf)
  subst e
  replace hf := hf1
  obtain ⟨⟨d1, s2⟩, f1, hf⟩ := Option.bind_eq_some_iff.mp hf
  obtain ⟨ks0, g0, hf⟩ := Option.bind_eq_some_iff.mp hf
  obtain ⟨⟨dk, tk, s3⟩, g1, hf⟩ := Option.bind_eq_some_iff.mp hf
  obtain ⟨ks, g2, hf⟩ := Option.bind_eq_some_iff.mp hf
  obtain ⟨k, g3, hf⟩ := Option.bind_eq_some_iff.mp hf
  have hf' : (if ks.length < sizeLine then some (s3.set i (.dct (putD ks k d1)) true) else none) = some s' := hf
  split at hf'
  · rename_i hz
    cases hf'
    obtain ⟨⟨d0, t0, s1⟩, f0, f1⟩ := Option.bind_eq_some_iff.mp f1
    refine ⟨Z, ι, s, d0, t0, s1, R, f0, fun v H1 Z1 ι1 N1 v1 => ?_⟩
    obtain ⟨Z2, N2, r2, _⟩ := hold_ok R N1 v1 (Nxt.refl N1.sr) f1
    obtain ⟨q, vs0, hσ, _, _⟩ := N2.sr.dict g0
    refine ⟨.ref q, hσ, Z2, ι1, s2, dk, tk, s3, N2.sr, g1, fun w H3 Z3 ι3 N3 v3 => ?_⟩
    obtain ⟨q', vs, hσ', h3, r⟩ := N3.sr.dict g2
    rw [hσ] at hσ'; cases hσ'
    have ek : w = kV k := key_rel (vr_weak N3.sr v3) g3
    refine ⟨q, _, rfl, .inl ⟨vs, k, h3, ek, by rw [r.length]; exact hz, rfl⟩, ?_⟩
    have N4 := N3.sr.put (o := .dK (putK vs k v)) (d' := .dct (putD ks k d1)) (ownK_some g2) hσ (.inr ⟨_, rfl⟩) fun H' kp e => ⟨q, _, rfl, e, (putK_rel r k (r2.mono (N3.kp N2.sr))).mono kp⟩
    exact hq σ _ Z3 ι3 (Stp.of (Nxt.trans R N2 (Nxt.trans N2.sr N3 N4)))
  · cases hf'
/-- a mutable object's place is written -/
theorem SR.putM {n : Nat} {x : Addr} {vs : List V} {ds : List E3.D} (R : SR K H Z ι σ s) (hx : ι[n]? = some x) (hn : n < s.mh.length) (r : ∀ H', Kp K H Z ι H' Z ι → Rels K H' Z ι vs ds) :
    Nxt K σ H Z ι s (upd H x (.lst vs)) Z ι { s with mh := s.mh.set n ds } := by
  obtain ⟨z, vs0, h0, _⟩ := R.mh n x s.mh[n] hx (List.getElem?_eq_getElem hn)
  have wx : Wr σ s ι x := .inl (List.mem_of_getElem? hx)
  have keep : ∀ a u, a ≠ x → H a = some u → upd H x (.lst vs) a = some u := fun a u n e => by rw [upd_ne n]; exact e
  have ntup : ∀ a u, H a = some u → ((∀ vs, u ≠ .lst vs) ∧ ∀ kvs, u ≠ .dK kvs) → upd H x (.lst vs) a = some u := fun a u e n => keep a u (fun q => notup R e n (q ▸ wx)) e
  have k : Kp K H Z ι (upd H x (.lst vs)) Z ι := by
    refine ⟨fun a xs q => ?_, fun a xs q => ?_, fun _ z => z, fun a vs z' q => keep a _ (fun e => z (e ▸ z')) q, fun a kvs z' q => ?_, fun _ _ h => h⟩
    · rcases q with ⟨ob, q, dn⟩ | q
      · exact .inl ⟨ob, ntup _ _ q ⟨fun _ e => (by cases e), fun _ e => (by cases e)⟩, dn⟩
      · exact .inr q
    · rcases q with ⟨ob, q⟩ | q
      · exact .inl ⟨ob, ntup _ _ q ⟨fun _ e => (by cases e), fun _ e => (by cases e)⟩⟩
      · exact .inr q
    · rcases q with q | ⟨ob, q⟩
      · exact .inl (keep a _ (fun e => z (e ▸ z')) q)
      · exact .inr ⟨ob, keep a _ (fun e => z (e ▸ z')) q⟩
  have inj : ∀ (m : Nat), ι[m]? = some x → m = n := fun m e => by
    exact (List.getElem?_inj (List.getElem?_eq_some_iff.mp e).1 R.nd).mp (e.trans hx.symm)
  refine ⟨⟨R.len, fun j y e => ?_, fun j y e => ?_, R.ap, by simp [R.il], fun m b ds' e1 e2 => ?_, R.nd, fun b zb => ?_⟩,
    fun a u e w => keep a u (fun q => w (q ▸ wx)) e, fun _ z => z, fun _ z => .inl z, fun b w => .inl w, fun a q => ?_, fun _ _ h => h⟩
  · obtain ⟨v, q, r⟩ := R.st j y e
    exact ⟨v, q, r.mono k⟩
  · obtain ⟨b, q, t2, z', n'⟩ := R.ow j y e
    exact ⟨b, q, t2.mono k fun c u ec hu => keep _ _ (fun q2 => n' (by cases ec; rw [q2]; exact List.mem_of_getElem? hx)) hu, z', n'⟩
  · have e2' : (s.mh.set n ds)[m]? = some ds' := e2
    rw [List.getElem?_set] at e2'
    split at e2'
    · rename_i hm
      subst hm
      rw [hx] at e1
      cases e1
      cases e2'
      exact ⟨z, vs, upd_same, r _ k⟩
    · rename_i hm
      obtain ⟨z', ws, q, rr⟩ := R.mh m b ds' e1 e2'
      exact ⟨z', ws, keep b _ (fun e => hm (inj m (e ▸ e1)).symm) q, rr.mono k⟩
  · rcases R.zd b zb with ⟨vs, q⟩ | ⟨kvs, q | ⟨ob, q⟩⟩
    · exact .inl ⟨vs, keep b _ (fun e => z (e ▸ zb)) q⟩
    · exact .inr ⟨kvs, .inl (keep b _ (fun e => z (e ▸ zb)) q)⟩
    · exact .inr ⟨kvs, .inr ⟨ob, keep b _ (fun e => z (e ▸ zb)) q⟩⟩
  · by_cases e : a = x
    · subst e; rw [upd_same]; simp
    · rw [upd_ne e]; exact q
def setrS (i : Nat) (k f : Fv) : Fs := fun s => nxS ((hF f s).bind fun h => (refD h.2 i).bind fun n => (k h.2).bind fun y => (intD y.1).bind fun z => (y.2.2.mh[n]?).bind fun xs => (ixN xs.length z).bind fun j => some { y.2.2 with mh := y.2.2.mh.set n (xs.set j h.1) })
theorem refD_some {n : Nat} (h : refD s i = some n) : s.sl[i]? = some (some (.ref n, false)) := by
  unfold refD at h
  split at h
  · rename_i h1; cases h; exact h1
  · cases h
theorem pe_rxF (hN : X.N[i]? = some x) (hv : Vis X.env.scope x) (hd : (x == ("__debug__" : Str)) = false) (hcd : (x == ("__classdict__" : Str)) = false) (hb : PE X b (tE X.K g)) (hs : PlainIx b) :
    PE X (.Subscript (.Name x p2) b pos) (tE X.K (rxF i g)) := by
  refine PE.imp (pe_ix ix_seq (pe_var (pos := p2) hN hv hd hcd) hb hs) fun σ H Q ⟨Z, ι, s, d, tg, s', R, hf, hq⟩ => ?_
  obtain ⟨n, g0, hf⟩ := Option.bind_eq_some_iff.mp hf
  obtain ⟨⟨dk, tk, s3⟩, g1, hf⟩ := Option.bind_eq_some_iff.mp hf
  obtain ⟨z, g2, hf⟩ := Option.bind_eq_some_iff.mp hf
  obtain ⟨xs, g3, hf⟩ := Option.bind_eq_some_iff.mp hf
  obtain ⟨d', g4, hf⟩ := Option.map_eq_some_iff.mp hf
  cases hf
  obtain ⟨u, hσ, ru⟩ := R.st i _ (refD_some g0)
  obtain ⟨q, rfl, hq1⟩ := RelW.ref (.inl ru)
  refine ⟨.ref q, hσ, Z, ι, s, dk, tk, s3, R, g1, fun w H3 Z3 ι3 N3 v3 => ?_⟩
  have ed : dk = .int z := intD_some g2
  subst ed
  obtain ⟨z3, vs, h3, r3⟩ := N3.sr.mh n q xs (N3.ip n q hq1) g3
  obtain ⟨v, h4, h5⟩ := at_rel r3 (show atI xs z = some d from g4)
  exact .inl ⟨q, vs, z, v, rfl, (vr_weak N3.sr v3).int, .inl (.inl h3), h4, hq v H3 Z3 ι3 N3 h5⟩
theorem ps_setrC {n : Nat} {z : Int} {p3 : Pos} (hN : X.N[i]? = some x) (hv : Vis X.env.scope x) (hd : (x == ("__debug__" : Str)) = false) (hcd : (x == ("__classdict__" : Str)) = false) (hk : PE X (.Constant (.int z) n p3) (tE X.K g)) (ha : PE X a (tE X.K f))
    (hs : swapsWithSole [.Subscript (.Name x p2) (.Constant (.int z) n p3) p] a pos.line X.env = pure false) (hw : swappedStores [.Subscript (.Name x p2) (.Constant (.int z) n p3) p] a X.env = pure none) :
    PS X (.Assign [.Subscript (.Name x p2) (.Constant (.int z) n p3) p] a pos) (tS X.K (setrS i g f)) := by
  refine PS.imp (ps_asg ha (pg_sub (pe_var (pos := p2) hN hv hd hcd) hk set_list) hs hw) fun D σ H ⟨Z, ι, s, o, R, hf, hq⟩ => ?_
  obtain ⟨s', hf1, e⟩ := Option.map_eq_some_iff.mp (show (Option.map Out.nx _) = some o from hf)
  subst e
  replace hf := hf1
  obtain ⟨⟨d1, s2⟩, f1, hf⟩ := Option.bind_eq_some_iff.mp hf
  obtain ⟨m, g0, hf⟩ := Option.bind_eq_some_iff.mp hf
  obtain ⟨⟨dk, tk, s3⟩, g1, hf⟩ := Option.bind_eq_some_iff.mp hf
  obtain ⟨y, g2, hf⟩ := Option.bind_eq_some_iff.mp hf
  obtain ⟨xs, g3, hf⟩ := Option.bind_eq_some_iff.mp hf
  obtain ⟨j, g4, hf⟩ := Option.bind_eq_some_iff.mp hf
  cases hf
  obtain ⟨⟨d0, t0, s1⟩, f0, f1⟩ := Option.bind_eq_some_iff.mp f1
  refine ⟨Z, ι, s, d0, t0, s1, R, f0, fun v H1 Z1 ι1 N1 v1 => ?_⟩
  obtain ⟨Z2, N2, r2, _⟩ := hold_ok R N1 v1 (Nxt.refl N1.sr) f1
  obtain ⟨u, hσ, ru⟩ := N2.sr.st i _ (refD_some g0)
  obtain ⟨q, rfl, hq1⟩ := RelW.ref (.inl ru)
  refine ⟨.ref q, hσ, Z2, ι1, s2, dk, tk, s3, N2.sr, g1, fun w H3 Z3 ι3 N3 v3 => ?_⟩
  have ed : dk = .int y := intD_some g2
  subst ed
  have hq3 := N3.ip m q hq1
  obtain ⟨z3, vs, h3, r3⟩ := N3.sr.mh m q xs hq3 g3
  refine ⟨q, vs, y, j, rfl, (vr_weak N3.sr v3).int, h3, by rw [r3.length]; exact g4, ?_⟩
  have N4 := N3.sr.putM (vs := vs.set j v) (ds := xs.set j d1) hq3 (List.getElem?_eq_some_iff.mp g3).1 fun H' k => (Rels.set (r2.mono (N3.kp N2.sr)) j r3).mono k
  exact hq σ _ Z3 ι3 (Stp.of (Nxt.trans R N2 (Nxt.trans N2.sr N3 N4)))
theorem ps_neverC {st : Stmt} : PS X st (tS X.K fun _ => none) := PS.imp (ps_never (st := st)) fun D σ H ⟨_, _, _, _, _, hf, _⟩ => by cases hf
end
end E3
set_option Elab.async false
set_option linter.all false
set_option maxRecDepth 100000
set_option maxHeartbeats 4000000
/-! sorted(set(..)) of a list of texts. -/
namespace E3
open PySem PySem.Spec PyProof.Rows L2
def keyS (e : Int × Value) : Str := match e.2 with | .str k _ => k | _ => Str.empty
def GoodS (w : World) (e : Int × Value) : Prop := ∃ k tk, e.2 = Value.str k tk ∧ e.1 = PySem.hashStr w k
/-- the set of ints at a: S its members, n their number; its table rises and can be walked -/
def SetS (w : World) (h : Heap) (a : Addr) (S : Str → Bool) (n : Nat) : Prop :=
  ∃ o es ep t, h.get? a = some o ∧ o.ExactSet ∧ o.data = .set es ep t ∧ (∀ e ∈ es.toList, GoodS w e) ∧ (es.toList.map keyS).Nodup ∧ (∀ k, S k = true ↔ k ∈ es.toList.map keyS) ∧
    es.size < scanBound ∧ t.fits es.size = true ∧ es.size = n ∧ Ris t.place.toList ∧ (w.params.followText "set-order" = true ∨ t.led = true)

section
variable {P : Program} {w : World} {h h' : Heap} {a : Addr} {S : Str → Bool} {n : Nat}

theorem SetS.at (R : SetS w h a S n) (k : ∀ o, h.get? a = some o → h'.get? a = some o) : SetS w h' a S n := by
  obtain ⟨o, es, ep, t, ho, r⟩ := R
  exact ⟨o, es, ep, t, k o ho, r⟩
theorem SetS.lt (R : SetS w h a S n) : a < h.objs.size := by
  obtain ⟨o, es, ep, t, ho, r⟩ := R
  exact Heap.lt_size ho
theorem SetS.congr {S' : Str → Bool} (R : SetS w h a S n) (e : ∀ k, S' k = S k) : SetS w h a S' n := by
  have q : S' = S := funext e
  rw [q]; exact R
theorem goodS_elems {l : List (Int × Value)} (g : ∀ e ∈ l, GoodS w e) : ElemsOf (PySem.strKind P w) l := fun e he => by
  obtain ⟨k, tk, h1, h2⟩ := g e he
  exact ⟨⟨k, by rw [h1]; exact PySem.strKind_is P w k tk, h2⟩, by rw [h1] <;> rfl⟩
theorem goodS_is {e : Int × Value} (g : GoodS w e) (k : Str) : (PySem.strKind P w).is k e.2 = true ↔ keyS e = k := by
  obtain ⟨k0, tk, h1, _⟩ := g
  unfold keyS
  rw [h1]
  show ((k0 == k) = true) ↔ k0 = k
  exact beq_iff_eq
theorem goodS_mem {l : List (Int × Value)} (g : ∀ e ∈ l, GoodS w e) (k : Str) : k ∈ l.map keyS ↔ ∃ e ∈ l, (PySem.strKind P w).is k e.2 = true := by
  rw [List.mem_map]
  constructor
  · rintro ⟨e, he, q⟩
    exact ⟨e, he, (goodS_is (g e he) k).2 q⟩
  · rintro ⟨e, he, q⟩
    exact ⟨e, he, (goodS_is (g e he) k).1 q⟩
theorem SetS.setOf (R : SetS w h a S n) : h.SetOf (PySem.strKind P w) a S n := by
  obtain ⟨o, es, ep, t, ho, hx, hd, g, nd, hm, hb, hf, hn, _⟩ := R
  exact ⟨o, es, ep, t, ho, hx, hd, goodS_elems g, fun k => (hm k).trans (goodS_mem g k), hb, hf, hn⟩
end

section
variable {P : Program} {w : World} {A : Around} {E : Value → Shared → Prop} {s : Shared} {a : Addr} {S : Str → Bool} {n : Nat}

/-! ### add -/
theorem setS_add_tail {g : Bool → Sem Unit} (hg : ∀ (b : Bool) (s₁ : Shared) (Q' : Unit → Shared → Prop), Q' () s₁ → wpAny (model P w) A (g b) Q' E s₁)
    {o : Obj} {es : Array (Int × Value)} {ep : Nat} {t : SetTable} (ho : s.heap.get? a = some o) (hex : o.ExactSet) (hd : o.data = .set es ep t)
    {es1 : Array (Int × Value)} {t2 : SetTable} {S' : Str → Bool} (g1 : ∀ e ∈ es1.toList, GoodS w e) (nd1 : (es1.toList.map keyS).Nodup) (m1 : ∀ k, S' k = true ↔ k ∈ es1.toList.map keyS)
    (hb1 : es1.size < scanBound) (hf2 : t2.fits es1.size = true) (hr : Ris t2.place.toList) (hl : w.params.followText "set-order" = true ∨ t2.led = true) {wasDummy : Bool} {R : Option Bool → Shared → Prop}
    (hR : ∀ h', Heap.SameBut a s.heap h' → SetS w h' a S' es1.size → R (some true) { s with heap := h' }) :
    wpAny (model P w) A (do
        storeSet a es1 t2
        if (!wasDummy && t2.tooFull) = true then do
            g (relayAll t2 es1 (SetTable.grown es1.size)).2.2
            storeSet a (relayAll t2 es1 (SetTable.grown es1.size)).1 (relayAll t2 es1 (SetTable.grown es1.size)).2.1
            pure (some true)
          else pure (some true)) R E s := by
  refine wpAny_bind (wpAny_storeSet_of ho hd ?_ (fits_of_scanBound hb1))
  have ho1 := store_at (es' := es1) (t' := t2) ho hd
  have sb1 := Heap.SameBut.update s.heap a (Obj.putSet es1 t2)
  split
  · have pm := relayAll_perm t2 es1 (SetTable.grown es1.size)
    have hf3 := relayAll_fits t2 es1 (SetTable.grown es1.size)
    have hr3 := relayAll_ris t2 es1 (SetTable.grown es1.size)
    have hl3 := relayAll_led t2 es1 (SetTable.grown es1.size)
    generalize relayAll t2 es1 (SetTable.grown es1.size) = Z at pm hf3 hr3 hl3 ⊢
    obtain ⟨es2, t3, gave⟩ := Z
    dsimp only at pm hf3 hr3 hl3 ⊢
    have hsz : es2.size = es1.size := by rw [← Array.length_toList, pm.length_eq, Array.length_toList]
    have hb2 : es2.size < scanBound := by rw [hsz]; exact hb1
    refine wpAny_bind (hg _ _ _ ?_)
    refine wpAny_bind (wpAny_storeSet_of ho1 rfl ?_ (fits_of_scanBound hb2))
    have ho2 := store_at (es' := es2) (t' := t3) ho1 rfl
    refine wpAny_pure (hR _ (sb1.trans (Heap.SameBut.update _ a _)) ?_)
    exact ⟨_, es2, _, t3, ho2, hex, rfl, fun e he => g1 e (pm.mem_iff.mp he), (pm.map keyS).nodup_iff.mpr nd1, fun k => (m1 k).trans (pm.map keyS).mem_iff.symm, hb2, hf3, hsz, hr3,
      hl.imp id fun z => by rw [hl3]; exact z⟩
  · exact wpAny_pure (hR _ sb1 ⟨_, es1, _, t2, ho1, hex, rfl, g1, nd1, m1, hb1, hf2, rfl, hr, hl⟩)

theorem setS_add_hashed {k : Str} {tk : Tok} {Q : Bool → Shared → Prop} (R : SetS w s.heap a S n) (room : n + 1 < scanBound)
    (hQ : ∀ h', Heap.SameBut a s.heap h' → SetS w h' a (fun j => S j || decide (j = k)) (if S k = true then n else n + 1) → Q (!S k) { s with heap := h' }) :
    wpAny (model P w) A (setAddHashed a (.str k tk) ((PySem.strKind P w).hash k)) Q E s := by
  obtain ⟨o, es, ep, t, ho, hex, hd, g, nd, hm, hb, hf, hn, hr, hl⟩ := R
  have hkey : (PySem.strKind P w).is k (.str k tk) = true := PySem.strKind_is P w k tk
  have hsc : (Value.str k tk).scannable = true := rfl
  have hel : ElemsOf (PySem.strKind P w) es.toList := goodS_elems g
  unfold setAddHashed setAddHashedIn
  refine wpAny_holding (wpAny_bind (wpAny_setState_of ho hd hf ?_))
  dsimp only
  rw [byScan_of hsc hb hel]
  simp only [↓reduceIte]
  unfold setAddByScan
  refine wpAny_bind ?_
  refine wpAny_bind (wpAny_rule ?_)
  refine wpAny_bind (wpAny_setScan_of hkey ho hd hf hel ?_)
  cases hfi : List.findIdx? (fun e => (PySem.strKind P w).is k e.2) es.toList with
  | some j =>
    dsimp only
    obtain ⟨hj, pj, _⟩ := List.findIdx?_eq_some_iff_getElem.mp hfi
    have hSk : S k = true := (hm k).2 ((goodS_mem (P := P) (w := w) g k).2 ⟨es.toList[j], List.getElem_mem hj, pj⟩)
    refine wpAny_pure (wpAny_pure ?_)
    have q := hQ s.heap (Heap.SameBut.refl a s.heap) ⟨o, es, ep, t, ho, hex, hd, g, nd, fun i => by
      rw [Bool.or_eq_true, decide_eq_true_eq, ← hm i]
      exact ⟨fun z => z.elim id (fun e => e ▸ hSk), .inl⟩, hb, hf, by rw [if_pos hSk]; exact hn, hr, hl⟩
    rw [hSk] at q
    exact q
  | none =>
    dsimp only
    have hnk : k ∉ es.toList.map keyS := fun z => by
      obtain ⟨e, he, q⟩ := (goodS_mem (P := P) (w := w) g k).1 z
      have c := List.findIdx?_eq_none_iff.mp hfi e he
      rw [q] at c
      cases c
    have hSk : S k = false := by
      cases q : S k with
      | false => rfl
      | true => exact absurd ((hm k).1 q) hnk
    have hgw : ∀ (b : Bool) {s₁ : Shared} {Q' : Unit → Shared → Prop}, Q' () s₁ → wpAny (model P w) A (match b with | true => rule "set.scan.the-table-gave-way" | false => pure ()) Q' E s₁ :=
      fun b s₁ Q' q => by cases b <;> first | exact wpAny_pure q | exact wpAny_rule q
    have pm := layNew_perm t es ((PySem.strKind P w).hash k) (.str k tk)
    have hf1 := layNew_fits t es ((PySem.strKind P w).hash k) (.str k tk)
    have hr1 := layNew_ris t es ((PySem.strKind P w).hash k) (.str k tk) hr
    have hl1 := layNew_led t es ((PySem.strKind P w).hash k) (.str k tk)
    generalize layNew t es ((PySem.strKind P w).hash k) (.str k tk) = Z at pm hf1 hr1 hl1 ⊢
    obtain ⟨es1, t1, wasDummy, gave⟩ := Z
    dsimp only at pm hf1 hr1 hl1 ⊢
    rw [Array.toList_push] at pm
    have pc : es1.toList.Perm (((PySem.strKind P w).hash k, Value.str k tk) :: es.toList) := pm.trans (List.perm_append_singleton _ _)
    have pk : (es1.toList.map keyS).Perm (k :: es.toList.map keyS) := pc.map keyS
    have g1 : ∀ e ∈ es1.toList, GoodS w e := fun e he => by
      rcases List.mem_cons.mp (pc.mem_iff.mp he) with z | z
      · rw [z]; exact ⟨k, tk, rfl, rfl⟩
      · exact g e z
    have nd1 : (es1.toList.map keyS).Nodup := pk.nodup_iff.mpr (List.nodup_cons.mpr ⟨hnk, nd⟩)
    have m1 : ∀ i, (S i || decide (i = k)) = true ↔ i ∈ es1.toList.map keyS := fun i => by
      rw [Bool.or_eq_true, decide_eq_true_eq, hm i, pk.mem_iff, List.mem_cons]
      exact Or.comm
    have hsz : es1.size = n + 1 := by rw [← Array.length_toList, pc.length_eq, List.length_cons, Array.length_toList, hn]
    have hb1 : es1.size < scanBound := by rw [hsz]; exact room
    have hled : w.params.followText "set-order" = true ∨ t1.led = true := hl.imp id fun z => by rw [hl1]; exact z
    have fin : ∀ h', Heap.SameBut a s.heap h' → SetS w h' a (fun j => S j || decide (j = k)) es1.size → Q true { s with heap := h' } := fun h' sb r => by
      have q := hQ h' sb
      rw [hSk] at q
      rw [hsz] at r
      exact q r
    refine wpAny_bind (hgw _ ?_)
    split
    · refine wpAny_bind ?_
      rw [hashByValue_scannable 8 hsc]
      refine wpAny_pure ?_
      refine setS_add_tail ?_ ho hex hd g1 nd1 m1 hb1 ?_ ?_ ?_ ?_
      · intro b s₁ Q' q; cases b <;> first | exact wpAny_pure q | exact wpAny_rule q
      · first | (split <;> first | exact hf1 | exact SetTable.fits_plain_off hf1) | exact hf1
      · first | (split <;> exact hr1) | exact hr1
      · first | (split <;> exact hled) | exact hled
      · intro h' sb r; dsimp only; exact wpAny_pure (fin h' sb r)
    · refine wpAny_bind (wpAny_pure ?_)
      simp only [↓reduceIte]
      refine setS_add_tail ?_ ho hex hd g1 nd1 m1 hb1 hf1 hr1 hled ?_
      · intro b s₁ Q' q; cases b <;> first | exact wpAny_pure q | exact wpAny_rule q
      · intro h' sb r; dsimp only; exact wpAny_pure (fin h' sb r)

end
theorem setS_new_at {w : World} {h : Heap} {a : Addr} {ns : List Str} (ho : h.get? a = some { cls := .type "set", dict := none, data := .set #[] 0 (.fresh 0 0 (!w.params.followText "set-order")) }) : SetS w h a (fun j => decide (j ∈ ns.take 0)) 0 :=
  ⟨_, #[], 0, _, ho, ⟨rfl, rfl, rfl⟩, rfl, (fun e he => by simp at he), (by simp), (fun k => by simp), (by decide), (by rfl), rfl, List.Pairwise.nil, by
    show _ ∨ (!w.params.followText "set-order") = true
    cases w.params.followText "set-order"
    · exact .inr rfl
    · exact .inl rfl⟩
section
variable {P : Program} {w : World} {A : Around} {E : Value → Shared → Prop} {s : Shared}
theorem set_update_strs {I : Addr} {fp wr : List Addr} {G : Array GenState → Array GenState → Prop} {n : Nat} {Pv : Nat → Value → Prop} {St : Nat → Shared → Prop} {R : Result → Shared → Prop}
    (W : WalksS P w A.in1 I fp wr G n Pv St) (S : Addr) (hSf : S ∉ fp) (ns : List Str) (hn : n = ns.length) (hb : ns.length + 1 < scanBound) (hval : ∀ i v, Pv i v → ∃ k t, ns[i]? = some k ∧ v = .str k t) :
    ∀ (k i : Nat) (s : Shared), n - i = k → i ≤ n → St i s → (∃ c, c ≤ i ∧ SetS w s.heap S (fun j => decide (j ∈ ns.take i)) c) →
      (∀ s' c, Moved (S :: wr) G s s' → c ≤ n → SetS w s'.heap S (fun j => decide (j ∈ ns)) c → R (.ok (.ret .none)) s') →
      codeAny (model P w) A (.builtin "set.update.loop" ⟨[.ref S, .ref I], []⟩) R s := by
  have hSw : S ∉ wr := fun h => hSf (W.sub _ h)
  have hsub : ∀ b ∈ wr, b ∈ S :: wr := fun b hb => List.mem_cons_of_mem _ hb
  intro k
  induction k with
  | zero =>
    intro i s hk' hi hst ⟨c, hc, hS⟩ hR
    have hin : i = n := by omega
    subst hin
    refine codeAny_builtin F.entry_set_update_loop ?_
    rw [Around.under_plainId F.plain_set_update_loop _]
    show wpAny _ A.in1 (pyNext (.ref I) >>= _) _ _ s
    refine wpAny_bind (W.done s _ _ hst fun s' hm => ?_)
    show wpAny _ A.in1 (ret Value.none) _ _ s'
    have e : ns.take i = ns := List.take_of_length_le (by omega)
    rw [e] at hS
    exact wpAny_pure (hR s' c (hm.mono hsub) hc (hS.at fun o e => hm.heap S o hSw e))
  | succ k ih =>
    intro i s hk' hi hst ⟨c, hc, hS⟩ hR
    have hlt : i < n := by omega
    refine codeAny_builtin F.entry_set_update_loop ?_
    rw [Around.under_plainId F.plain_set_update_loop _]
    show wpAny _ A.in1 (pyNext (.ref I) >>= _) _ _ s
    refine wpAny_bind (W.item i s _ _ hlt hst fun v s' hP hst' hm => ?_)
    obtain ⟨z, t, hz, rfl⟩ := hval i v hP
    have hS' : SetS w s'.heap S (fun j => decide (j ∈ ns.take i)) c := hS.at fun o e => hm.heap S o hSw e
    show wpAny _ A.in1 (holding [Value.str z t] (setAdd S (.str z t)) >>= _) _ _ s'
    refine wpAny_bind (wpAny_holding ?_)
    unfold setAdd
    refine wpAny_holding ?_
    refine wpAny_bind ((PySem.strKind P w).pyHash (k := z) (PySem.strKind_is _ _ _ _) ?_)
    refine setS_add_hashed (s := { s' with toks := s'.toks + 1 }) hS' (by omega) fun h' hsb hS2 => ?_
    have hS3 : SetS w h' S (fun j => decide (j ∈ ns.take (i + 1))) (if decide (z ∈ ns.take i) = true then c else c + 1) := hS2.congr fun j => by
      rw [List.take_add_one, hz]
      simp [List.mem_append]
    have hc3 : (if decide (z ∈ ns.take i) = true then c else c + 1) ≤ i + 1 := by
      split <;> omega
    refine wpAny_pure ⟨plainId_quiet F.plain_set_update_loop _, ih (i + 1) _ (by omega) hlt (W.frame _ s' _ _ hst' (Nat.le_succ _) fun b hb o e => ?_) ⟨_, hc3, hS3⟩ fun s'' c2 hm'' hc'' hS'' => ?_⟩
    · rw [hsb.2 b (fun h : b = S => hSf (by rw [← h]; exact hb))]; exact e
    · refine hR s'' c2 (Moved.trans W.gtrans ((hm.mono hsub).then_heap (Nat.le_succ _) fun b o hb e => ?_) hm'') hc'' hS''
      rw [hsb.2 b (fun h : b = S => hb (by rw [h]; exact List.mem_cons_self))]; exact e

set_option maxRecDepth 100000 in
set_option maxHeartbeats 3200000 in
theorem call_set_lstS {l : Addr} {items : Array Value} (ns : List Str) {Q : Value → Shared → Prop} (hh : A.handled = none) (hl : s.heap.IsList l items) (hit : StrsAre items.toList ns) (hb : ns.length + 1 < scanBound)
    (h : ∀ (h' : Heap) (tk c : Nat), SetS w h' s.heap.objs.size (fun j => decide (j ∈ ns)) c → c ≤ ns.length → (∀ b o, s.heap.get? b = some o → h'.get? b = some o) → Q (.ref s.heap.objs.size) { s with heap := h', toks := tk }) :
    wpAny (model P w) A (call (.type "set") [.ref l]) Q E s := by
  have hisz : items.size = ns.length := by
    have q := StrsAre.length hit
    rw [Array.length_toList] at q
    exact q
  obtain ⟨c, tl, hmro⟩ := F.called_set.mro
  have hmade := F.called_set.made
  have hsub := F.called_set.sub
  refine wpAny_call (codeAny_of_tree ?_)
  show wpAny _ _ (callAny (.type "set") _) _ _ _
  refine wpAny_pure ⟨Code.quiet_builtin _ (by decide +kernel), codeAny_builtin F.entry_type_call ?_⟩
  rw [Around.under_plain (weight_type_call_type "set" [.ref l] []) rfl]
  have h1 := F.called_set.notType
  have h2 := F.called_set.canCreate
  have hct := F.typeCall_set_1 (.ref l)
  repeat (any_goals (first | assumption | wp_step))

  refine codeAny_mono (code_set_led1 (.ref l) (E := E) (Q₁ := fun obj s₁ => obj = .ref s.heap.objs.size ∧ s₁ = { s with heap := s.heap.push { cls := .type "set", dict := none, data := .set #[] 0 (.fresh 0 0 (!w.params.followText "set-order")) } }) ⟨rfl, rfl⟩) fun r s₁ hr => ?_
  cases r with
  | error e => exact hr
  | ok fl =>
    cases fl with
    | ret obj =>
      obtain ⟨rfl, rfl⟩ := hr
      have hS : (s.heap.push { cls := .type "set", dict := none, data := .set #[] 0 (.fresh 0 0 (!w.params.followText "set-order")) }).get? s.heap.objs.size = some { cls := .type "set", dict := none, data := .set #[] 0 (.fresh 0 0 (!w.params.followText "set-order")) } := Heap.get?_push_size _ rfl
      have hT : Shared.TypeIs { s with heap := s.heap.push { cls := .type "set", dict := none, data := .set #[] 0 (.fresh 0 0 (!w.params.followText "set-order")) } } (.ref s.heap.objs.size) "set" := ⟨_, hS, rfl⟩
      have hli := F.called_set.init.lookup
      have hbi := F.called_set.init.bind (.ref s.heap.objs.size)
      repeat (any_goals (first | assumption | wp_step))

      refine codeAny_mono (codeAny_call_builtin (R := wants (fun r s₂ => r = .none ∧ ∃ h' tk c, s₂ = { s with heap := h', toks := tk } ∧ SetS w h' s.heap.objs.size (fun j => decide (j ∈ ns)) c ∧ c ≤ ns.length ∧
          (∀ b o, s.heap.get? b = some o → h'.get? b = some o)) E) F.called_set.init.plain F.entry_set_init (check_set_init_1 hT ?_)) fun r₂ s₂ hr₂ => ?_
      · obtain ⟨ol, hol, hcl, nl, hdl⟩ := hl
        obtain ⟨ocls, odict, odata, oslots⟩ := ol
        simp only at hcl hdl
        subst hcl; subst hdl
        have hol' : (s.heap.push { cls := .type "set", dict := none, data := .set #[] 0 (.fresh 0 0 (!w.params.followText "set-order")) }).get? l = some { cls := .type "list", dict := odict, data := .seq items nl, slots := oslots } := Heap.get?_push_of_some _ hol
        have hsls := F.sub_list_set
        have hslf := F.sub_list_frozenset
        have hne : (Value.type "list" == Value.type "dict") = false := by decide
        have hl1 : (s.heap.push { cls := .type "set", dict := none, data := .set #[] 0 (.fresh 0 0 (!w.params.followText "set-order")) }).IsList l items := ⟨_, hol', rfl, nl, rfl⟩
        unfold Builtin.«set.__init__» noKeywords Builtin.Frozenset.updateFrom
        generalize hPI : pyIter = PI
        wp_walk
        subst hPI

        refine wpAny_pyIter_list hl1 ?_
        refine wpAny_bind (wpAny_runValue ?_)
        have hlS : l < s.heap.objs.size := Heap.lt_size hol
        have hh3 : A.in1.in1.in1.handled = none := by simp [hh]
        have hz1 : (s.heap.push { cls := .type "set", dict := none, data := .set #[] 0 (.fresh 0 0 (!w.params.followText "set-order")) }).objs.size = s.heap.objs.size + 1 := Heap.size_push ..
        have hneI : l ≠ (s.heap.push { cls := .type "set", dict := none, data := .set #[] 0 (.fresh 0 0 (!w.params.followText "set-order")) }).objs.size := by
          rw [Heap.size_push]; exact Nat.ne_of_lt (Nat.lt_succ_of_lt hlS)
        have hSf : s.heap.objs.size ∉ [(s.heap.push { cls := .type "set", dict := none, data := .set #[] 0 (.fresh 0 0 (!w.params.followText "set-order")) }).objs.size, l] := by
          rw [Heap.size_push]; simp only [List.mem_cons, List.mem_singleton, List.not_mem_nil, or_false, not_or]
          exact ⟨Nat.ne_of_lt (Nat.lt_succ_self _), Nat.ne_of_gt hlS⟩
        have hval : ∀ (i : Nat) (v : Value), items[i]? = some v → ∃ k t, ns[i]? = some k ∧ v = .str k t := fun i v hv => by
          have hi : i < ns.length := by rw [← hisz]; exact (Array.getElem?_eq_some_iff.mp hv).1
          have e0 : items.toList[i]? = some v := by rw [Array.getElem?_toList]; exact hv
          have go : ∀ {us : List Value} {ns : List Str} {i : Nat}, PyProof.Rows.StrsAre us ns → us[i]? = some v → ∃ k t, ns[i]? = some k ∧ v = .str k t := by
            intro us ns i h
            induction h generalizing i with
            | nil => intro e; simp at e
            | cons x t _ ih =>
              intro e
              cases i with
              | zero => exact ⟨x, t, rfl, by simpa using e.symm⟩
              | succ i => exact ih (by simpa using e)
          exact go hit e0
        refine set_update_strs ((Walks.list hh3 _ l hneI items).toS) s.heap.objs.size
          hSf ns hisz hb hval (items.size - 0) 0 _ (by omega) (Nat.zero_le _)
          ⟨⟨_, Heap.get?_push_size _ rfl, rfl, rfl⟩, (hl1.push _)⟩ ?hS0 ?hR
        case hS0 =>
          have hget : ((s.heap.push { cls := .type "set", dict := none, data := .set #[] 0 (.fresh 0 0 (!w.params.followText "set-order")) }).push { cls := .type "list_iterator", data := .fields #[.ref l, .int 0 0] }).get? s.heap.objs.size
              = some { cls := .type "set", dict := none, data := .set #[] 0 (.fresh 0 0 (!w.params.followText "set-order")) } := Heap.get?_push_of_some _ hS
          exact ⟨0, Nat.le_refl 0, setS_new_at hget⟩
        case hR =>
          intro s' c' hm hc' hS'
          obtain ⟨h', g2, d', tk', os'⟩ := s'
          have eg : g2 = s.gens := hm.gens
          have ed : d' = s.drawn := hm.drawn
          have eo : os' = s.os := hm.os
          subst eg; subst ed; subst eo
          show wpAny _ _ _ _ _ _
          refine wpAny_pure ?_
          show wpAny _ _ (ret Value.none) _ _ _
          rw [hisz] at hc'
          refine wpAny_pure ⟨rfl, h', tk', c', rfl, hS', hc', fun b o e => ?_⟩
          have hb0 : b < s.heap.objs.size := Heap.lt_size e
          have hb1 : b ≠ s.heap.objs.size := Nat.ne_of_lt hb0
          have hb2 : b ≠ (s.heap.push { cls := .type "set", dict := none, data := .set #[] 0 (.fresh 0 0 (!w.params.followText "set-order")) }).objs.size := by
            rw [Heap.size_push]; exact Nat.ne_of_lt (Nat.lt_succ_of_lt hb0)
          exact hm.heap b o (by simp only [List.mem_cons, List.mem_singleton, List.not_mem_nil, or_false, not_or]; exact ⟨hb1, hb2⟩) (Heap.get?_push_of_some _ (Heap.get?_push_of_some _ e))

      · cases r₂ with
        | error e => exact hr₂
        | ok fl₂ =>
          cases fl₂ with
          | ret r =>
            obtain ⟨rfl, h', tk, c', rfl, hS', hc', hk'⟩ := hr₂
            repeat (any_goals (first | assumption | wp_step))
            exact h _ _ _ hS' hc' hk'
          | _ => exact hr₂.elim
    | _ => exact hr.elim

end

end E3
set_option Elab.async false
set_option linter.all false
set_option maxRecDepth 100000
set_option maxHeartbeats 4000000
/-! sorted(set(..)) of a list of texts: the value, the rule. -/
namespace E3
open PySem PySem.Spec PyProof.Rows L2
/-! ### the order of texts -/
abbrev ltT (x y : Str) : Prop := ltCps x.cps.toList y.cps.toList = true
theorem ltT_iff {x y : Str} : ltT x y ↔ x.cps.toList < y.cps.toList := by
  unfold ltT
  rw [ltCps_eq]
  exact decide_eq_true_iff
theorem ltT_irrefl (x : Str) : ¬ ltT x x := fun h => List.lt_irrefl _ (ltT_iff.mp h)
theorem ltT_trans {x y z : Str} (h : ltT x y) (h' : ltT y z) : ltT x z := ltT_iff.mpr (List.lt_trans (ltT_iff.mp h) (ltT_iff.mp h'))
theorem ltT_tri {x y : Str} (n : x ≠ y) (h : ¬ ltT x y) : ltT y x := by
  rw [ltT_iff] at h ⊢
  have h1 : y.cps.toList ≤ x.cps.toList := List.not_lt.mp h
  by_cases q : y.cps.toList < x.cps.toList
  · exact q
  · have h2 : x.cps.toList ≤ y.cps.toList := List.not_lt.mp q
    have e : x.cps.toList = y.cps.toList := List.le_antisymm h2 h1
    refine absurd ?_ n
    cases x; cases y
    simp only [Str.mk.injEq]
    exact Array.toList_inj.mp e
theorem insT_mem {x k : Str} : ∀ {l : List Str}, k ∈ insT x l ↔ k = x ∨ k ∈ l
  | [] => by simp [insT]
  | y :: r => by
    unfold insT
    split
    · rename_i e; subst e; simp
    · split
      · simp
      · rw [List.mem_cons, insT_mem, List.mem_cons]
        constructor
        · rintro (h | h | h)
          · exact .inr (.inl h)
          · exact .inl h
          · exact .inr (.inr h)
        · rintro (h | h | h)
          · exact .inr (.inl h)
          · exact .inl h
          · exact .inr (.inr h)
theorem insT_rise {x : Str} : ∀ {l : List Str}, l.Pairwise ltT → (insT x l).Pairwise ltT
  | [], _ => by simp [insT]
  | y :: r, h => by
    obtain ⟨h1, h2⟩ := List.pairwise_cons.mp h
    unfold insT
    split
    · exact h
    · rename_i n
      split
      · rename_i hl
        refine List.pairwise_cons.mpr ⟨fun z hz => ?_, h⟩
        rcases List.mem_cons.mp hz with e | hz
        · rw [e]; exact hl
        · exact ltT_trans hl (h1 z hz)
      · rename_i hl
        refine List.pairwise_cons.mpr ⟨fun z hz => ?_, insT_rise h2⟩
        rcases insT_mem.mp hz with e | hz
        · rw [e]; exact ltT_tri n hl
        · exact h1 z hz
theorem srtS_mem {k : Str} : ∀ {l : List Str}, k ∈ srtS l ↔ k ∈ l
  | [] => by simp [srtS]
  | x :: r => by
    show k ∈ insT x (srtS r) ↔ _
    rw [insT_mem, srtS_mem, List.mem_cons]
theorem srtS_rise : ∀ {l : List Str}, (srtS l).Pairwise ltT
  | [] => List.Pairwise.nil
  | x :: r => insT_rise (srtS_rise (l := r))
theorem rise_unique : ∀ {l m : List Str}, l.Pairwise ltT → m.Pairwise ltT → (∀ k, k ∈ l ↔ k ∈ m) → l = m
  | [], [], _, _, _ => rfl
  | [], y :: r, _, _, h => absurd ((h y).mpr List.mem_cons_self) (by simp)
  | x :: r, [], _, _, h => absurd ((h x).mp List.mem_cons_self) (by simp)
  | x :: l, y :: m, hl, hm, h => by
    obtain ⟨l1, l2⟩ := List.pairwise_cons.mp hl
    obtain ⟨m1, m2⟩ := List.pairwise_cons.mp hm
    have e : x = y := by
      rcases List.mem_cons.mp ((h x).mp List.mem_cons_self) with e | e
      · exact e
      · rcases List.mem_cons.mp ((h y).mpr List.mem_cons_self) with e' | e'
        · exact e'.symm
        · exact absurd (ltT_trans (l1 y e') (m1 x e)) (ltT_irrefl x)
    subst e
    rw [rise_unique l2 m2 fun k => ?_]
    constructor
    · intro hk
      rcases List.mem_cons.mp ((h k).mp (List.mem_cons_of_mem _ hk)) with e | q
      · subst e; exact absurd (l1 k hk) (ltT_irrefl k)
      · exact q
    · intro hk
      rcases List.mem_cons.mp ((h k).mpr (List.mem_cons_of_mem _ hk)) with e | q
      · subst e; exact absurd (m1 k hk) (ltT_irrefl k)
      · exact q
theorem sorted_rise : ∀ {l : List Str}, sortedS l = true → l.Nodup → l.Pairwise ltT
  | [], _, _ => List.Pairwise.nil
  | x :: r, h, d => by
    have go : ∀ (l : List Str) (p : Str), risingS p l = true → (p :: l).Nodup → (p :: l).Pairwise ltT := by
      intro l
      induction l with
      | nil => intro p _ _; exact List.pairwise_singleton _ _
      | cons y l ih =>
        intro p h d
        obtain ⟨d1, d2⟩ := List.nodup_cons.mp d
        have h' : (!ltCps y.cps.toList p.cps.toList && risingS y l) = true := h
        rw [Bool.and_eq_true] at h'
        have hy := ih y h'.2 d2
        have hp : ltT p y := ltT_tri (fun e => d1 (by simp [e])) (fun q => by
          have := h'.1
          rw [show ltCps y.cps.toList p.cps.toList = true from q] at this
          cases this)
        refine List.pairwise_cons.mpr ⟨fun z hz => ?_, hy⟩
        rcases List.mem_cons.mp hz with e | hz
        · rw [e]; exact hp
        · exact ltT_trans hp ((List.pairwise_cons.mp hy).1 z hz)
    exact go r x h d
theorem strsOf : ∀ (l : List Value), (∀ v ∈ l, ∃ k tk, v = Value.str k tk) → ∃ ss, StrsAre l ss ∧ ss = l.map fun v => match v with | .str k _ => k | _ => Str.empty
  | [], _ => ⟨[], .nil, rfl⟩
  | v :: l, h => by
    obtain ⟨k, tk, rfl⟩ := h v List.mem_cons_self
    obtain ⟨ss, h1, h2⟩ := strsOf l fun u hu => h u (List.mem_cons_of_mem _ hu)
    exact ⟨k :: ss, .cons k tk h1, by rw [h2]; rfl⟩
section
variable {P : Program} {w : World} {A : Around} {E : Value → Shared → Prop} {s : Shared} {a : Addr}
theorem sorted_setS {S : Str → Bool} {n : Nat} {Q : Value → Shared → Prop} (R : SetS w s.heap a S n) (hh : A.handled = none) (h64 : n < 64)
    (hQ : ∀ s' p (out : Array Value) (c : Nat) (ns : List Str), (∀ b o, s.heap.get? b = some o → s'.heap.get? b = some o) → s'.gens = s.gens → s'.os = s.os → s.heap.objs.size ≤ p →
      s'.heap.get? p = some (seqObj "list" out c) → StrsAre out.toList ns → ns.Pairwise ltT → (∀ k, k ∈ ns ↔ S k = true) → ns.length = n → Q (.ref p) s') :
    wpAny (model P w) A (call (.builtin "sorted") [.ref a]) Q E s := by
  obtain ⟨o, es, ep, t, ho, hex, hd, g, nd, hm, hb, hf, hn, hr, hl⟩ := R
  refine Calls.call_function_entry kind_sorted plain_sorted entry_sorted (args_sorted1 _) ?_
  unfold Builtin.«sorted»
  refine wpAny_bind (m := checkCount "sorted" 1 1 _) (wpAny_pure ?_)
  refine wpAny_bind (collect_set (A := A.in1) hh ⟨o, ho, hex.1, hd⟩ hf hb hr hl fun s1 vs k1 hz g1 o1 pm => ?_)
  have hvl : vs.length = n := by rw [pm.length_eq, List.length_map, Array.length_toList]; exact hn
  obtain ⟨ss, hS, hss⟩ := strsOf vs fun v hv => by
    obtain ⟨e, he, q⟩ := List.mem_map.mp (pm.mem_iff.mp hv)
    obtain ⟨k, tk, h1, _⟩ := g e he
    exact ⟨k, tk, by rw [← q]; exact h1⟩
  have pk : ss.Perm (es.toList.map keyS) := by
    have q := pm.map fun v => match v with | Value.str k _ => k | _ => Str.empty
    rw [List.map_map] at q
    rw [hss]
    exact q
  refine wpAny_bind (wpAny_newList ?_ (by rw [hvl, sizeLine_eq]; omega))
  have hoL : (s1.heap.push (seqObj "list" vs.toArray 0)).get? s1.heap.objs.size = some (seqObj "list" vs.toArray 0) := Heap.get?_push_size _ rfl
  refine wpAny_bind (wpAny_holding (wpAny_call_entry slot_list_sort ⟨_, hoL, rfl⟩ entry_list_sort
    (list_sort_treeK strKind_oneLt (s := { s1 with heap := s1.heap.push (seqObj "list" vs.toArray 0) }) hoL hS.keysOf (fun v₁ v₂ rest e => keyKind_strs (by rw [← e]; exact hS)) (by rw [hvl]; exact h64) fun st' hp hs => ⟨_, rfl, ?_⟩)
    (args_list_sort _)))
  obtain ⟨ys, b1, b2, b3⟩ := sorted_out_str hS hp hs
  obtain ⟨c, hc⟩ := sortedHeap_at (vs := vs) (out := (arrOf st').map (·.2)) hoL
  have pn : ys.Perm (es.toList.map keyS) := b2.trans pk
  refine wpAny_pure ⟨_, rfl, hQ _ s1.heap.objs.size ((arrOf st').map (·.2)) c ys (fun b u e => ?_) g1 o1 hz hc b1 (sorted_rise b3 (pn.nodup_iff.mpr nd)) (fun k => by rw [pn.mem_iff, ← hm k]) ?_⟩
  · have q := k1 b u e
    have hlt := Heap.lt_size q
    show (sortedHeap (s1.heap.push (seqObj "list" vs.toArray 0)) s1.heap.objs.size vs _).get? b = some u
    rw [sortedHeap_old (Nat.ne_of_lt hlt) (by rw [size_push']; exact Nat.lt_succ_of_lt hlt)]
    exact Heap.get?_push_of_some _ q
  · rw [pn.length_eq, List.length_map, Array.length_toList]; exact hn
end
section
variable {X : Cx}
/-- sorted(set(xs)) of a list of texts -/
def tSrt (K : PySem.W.Frag) (ta : TE) : TE := fun σ H Q => ta σ H fun x H1 => ∃ l, ∃ xs : List Str, x = .ref l ∧ SqL K H1 l (xs.map V.str) ∧ xs.length < 63 ∧ ∀ p, H1 p = none → Q (.ref p) (upd H1 p (.lst ((srtS xs).map V.str)))
theorem srt_at {pins : List (Addr × Obj)} {σ : L2.St} {H : Hp} {s : Shared} {Q : VK} {a : Addr} {S : Str → Bool} {n : Nat} {xs : List Str} (hc : X.calm = true) (I : Inv X pins σ H s) (hS : SetS X.w s.heap a S n) (hn : n < 64)
    (hx : ∀ k, S k = true ↔ k ∈ xs) (q : ∀ p, H p = none → Q (.ref p) (upd H p (.lst ((srtS xs).map V.str)))) : wpAny (model X.prog X.w) X.A (call (.builtin "sorted") [.ref a]) (EP X pins σ Q) X.xe s := by
  refine sorted_setS hS (I.ok.hd hc) hn fun s' p out c2 ns k g o hp hg hi hs hm hl => ?_
  have e : ns = srtS xs := rise_unique hs srtS_rise fun k => by rw [hm k, srtS_mem, hx k]
  subst e
  have hlen : ((srtS xs).map V.str).length ≤ sizeLine := by rw [List.length_map, hl, sizeLine_eq]; omega
  have hn : H p = none := I.hok.fresh hp
  have J : Inv X pins σ (upd H p (.lst ((srtS xs).map V.str))) { s with heap := s'.heap, gens := s'.gens, drawn := s'.drawn, toks := s'.toks } :=
    I.call (ch := []) (Un.laid k hp hn) (I.hok.laid k hp ⟨hlen, out.toList, c2, vals_of_strs hi, hg⟩) (by rw [g]; exact I.bare) (fun _ z => nomatch z)
  have e : s' = { s with heap := s'.heap, gens := s'.gens, drawn := s'.drawn, toks := s'.toks } := by
    cases s'
    cases s
    cases o
    rfl
  rw [e]
  exact ⟨.ref p, _, J, rfl, q p hn⟩
theorem pe_srt {a : Expr} {ta : TE} {p p2 q pos : Pos} (hc : X.calm = true) (hg : Gl X "sorted") (hm : X.mg "sorted" = none) (hg2 : Gl X "set") (hm2 : X.mg "set" = none) (ha : PE X a ta)
    (na : starEach [a] X.env = (false, eval a X.env) :: starEach [] X.env) : PE X (.Call (.Name "sorted" p) [.Call (.Name "set" p2) [a] [] q] [] pos) (tSrt X.K ta) := by
  refine ⟨fun pins s σ H Q I h => ?_⟩
  refine Call_ (ld_blt I hg hm boot_sorted ?_)
  refine PyProof.Rows.callWith_builtin1 (PyProof.Rows.args_cons ?_ rfl) rfl rfl
  refine Call_ (ld_blt I hg2 hm2 boot_set ?_)
  refine PyProof.Rows.callWith_type1 (PyProof.Rows.args_cons (thn (ha.run pins s σ H _ I h) fun v s1 ⟨x, H1, I1, r1, q1⟩ => PyProof.Rows.args_nil ?_) na) na rfl
  obtain ⟨l, xs, rfl, hq, h1, q1⟩ := q1
  cases r1
  obtain ⟨its, r, pl, hz⟩ := I1.list hq
  refine call_set_lstS (ns := xs) (I1.ok.hd hc) pl.isList (by simpa using Vals.strs r) (by unfold scanBound; omega) fun h' tk c hS hcn hk => ?_
  refine PyProof.Rows.args_nil ?_
  exact srt_at hc (s := { s1 with heap := h', toks := tk }) (I1.kept hk) hS (by omega) (fun k => decide_eq_true_iff) q1
variable {K : PySem.W.Frag} {H : Hp} {Z : Addr → Prop} {ι : List Addr}
theorem rels_strs : ∀ {vs : List V} {ds : List D} {xs : List Str}, Rels K H Z ι vs ds → strsD ds = some xs → vs = xs.map V.str
  | _, [], _, .nil, h => by cases h; rfl
  | _, d :: ds, xs, .cons r t, h => by
    cases d with
    | str x =>
      obtain ⟨ys, h1, h2⟩ := Option.map_eq_some_iff.mp (show (strsD ds).map (x :: ·) = some xs from h)
      subst h2
      rw [rels_strs t h1, RelW.str (.inl r)]
      rfl
    | _ => cases h
theorem strs_rels : ∀ (xs : List Str), Rels K H Z ι (xs.map V.str) (xs.map D.str)
  | [] => .nil
  | x :: xs => .cons (.str x) (strs_rels xs)
theorem pe_srtF {a : Expr} {f : Fv} {p p2 q pos : Pos} (hc : X.calm = true) (hg : Gl X "sorted") (hm : X.mg "sorted" = none) (hg2 : Gl X "set") (hm2 : X.mg "set" = none) (ha : PE X a (tE X.K f))
    (na : starEach [a] X.env = (false, eval a X.env) :: starEach [] X.env) : PE X (.Call (.Name "sorted" p) [.Call (.Name "set" p2) [a] [] q] [] pos) (tE X.K (b1F .srtset f)) := by
  refine PE.imp (pe_srt hc hg hm hg2 hm2 ha na) fun σ H Q ⟨Z, ι, s, d, tg, s', R, hf, hq⟩ => ?_
  obtain ⟨⟨d1, t1, s1⟩, f1, hf⟩ := Option.bind_eq_some_iff.mp hf
  obtain ⟨e1, w1, hf⟩ := Option.bind_eq_some_iff.mp hf
  obtain ⟨⟨d', tg'⟩, hk, hf⟩ := Option.map_eq_some_iff.mp hf
  cases hf
  refine ⟨Z, ι, s, d1, t1, _, R, f1, fun x H1 Z1 ι1 N1 v1 => ?_⟩
  have ww := wk_ok N1.sr v1 (Nxt.refl N1.sr) w1
  cases e1 with
  | lst xs =>
    have hk' : (match strsD xs with
      | some ys => if decide (ys.length ≤ 60) then some (D.lst ((srtS ys).map .str), Tg.fr) else none
      | none => none) = some (d', tg') := hk
    split at hk'
    · rename_i ys hys
      split at hk'
      · rename_i h60
        cases hk'
        obtain ⟨p, vs, rfl, h1, q1⟩ := ww.lst
        have e := rels_strs q1 hys
        subst e
        have := of_decide_eq_true h60
        refine ⟨p, ys, rfl, .inl (.inl h1), by omega, fun p hp => ?_⟩
        obtain ⟨N4, vr⟩ := new_lst (H0 := H) N1.sr N1.dm hp (strs_rels (srtS ys))
        exact hq _ _ _ _ (Nxt.trans R N1 N4) vr
      · cases hk'
    · cases hk'
  | _ => cases hk
end
end E3
set_option Elab.async false
set_option linter.all false
set_option maxRecDepth 100000
set_option maxHeartbeats 4000000
/-! t[::-1] of a tuple. -/
namespace E3
open PySem PySem.Spec PyProof.Rows L2
theorem adjust_rev (n : Nat) : Builtin.Slice.sliceAdjust none none (-1) (n : Int) = ((n : Int) - 1, -1) := by
  unfold Builtin.Slice.sliceAdjust
  simp
theorem places_rev (n : Nat) : Builtin.Slice.slicePlaces ((n : Int) - 1) (-1) (-1) = n := by
  unfold Builtin.Slice.slicePlaces
  have h1 : ¬ ((-1 : Int) > 0) := by omega
  simp only [h1, if_false]
  have e : ((n : Int) - 1 - -1 - 1) / - -1 = (n : Int) - 1 := by
    rw [show - -(1 : Int) = 1 by decide, Int.ediv_one]; omega
  rw [e]
  split <;> omega
section
variable {prog : Program} {w : World} {A : Around} {E : Value → Shared → Prop} {s : Shared}
theorem sliceApplied_rev {sl : Addr} {vs : Value} {n : Nat} {Q : Int × Int × Nat → Shared → Prop} (hs : s.heap.IsSliceOf sl .none .none vs) (ps : IsPart vs (some (-1)))
    (h : Q ((n : Int) - 1, -1, n) s) : wpAny (model prog w) A (Builtin.Slice.sliceApplied (.ref sl) (pure (n : Int))) Q E s := by
  obtain ⟨os, hos, hcs, hds⟩ := id hs
  unfold Builtin.Slice.sliceApplied Builtin.Slice.sliceFields
  refine wpAny_bind (wpAny_bind (wpAny_field hos hds (x := .none) rfl (wpAny_bind (wpAny_field hos hds (x := .none) rfl (wpAny_bind (wpAny_field hos hds (x := vs) rfl (wpAny_pure ?_)))))))
  refine wpAny_bind (HT.slicePart_ ps ?_)
  show wpAny _ _ (if ((-1 : Int) == 0) = true then _ else _) _ _ s
  rw [if_neg (by decide)]
  refine wpAny_bind (HT.slicePart_ .none (wpAny_bind (HT.slicePart_ .none (wpAny_bind (wpAny_pure ?_)))))
  show wpAny _ _ (match Builtin.Slice.sliceAdjust none none (-1) (n : Int) with | (lo, hi) => pure (lo, (-1 : Int), Builtin.Slice.slicePlaces lo hi (-1))) _ _ s
  rw [adjust_rev n]
  show wpAny _ _ (pure ((n : Int) - 1, (-1 : Int), Builtin.Slice.slicePlaces ((n : Int) - 1) (-1) (-1))) _ _ s
  rw [places_rev]
  exact wpAny_pure h
theorem pick_rev (xs : Array Value) : ((List.range xs.size).filterMap fun (m : Nat) => xs[(((xs.size : Nat) : Int) - 1 + (m : Int) * (-1)).toNat]?).toArray = xs.toList.reverse.toArray := by
  congr 1
  have e : ∀ m ∈ List.range xs.size, xs[(((xs.size : Nat) : Int) - 1 + (m : Int) * (-1)).toNat]? = xs[xs.size - 1 - m]? := fun m hm => by
    congr 1
    omega
  have cg : ∀ (l : List Nat) (f g : Nat → Option Value), (∀ m ∈ l, f m = g m) → l.filterMap f = l.filterMap g := by
    intro l f g h
    induction l with
    | nil => rfl
    | cons a l ih => rw [List.filterMap_cons, List.filterMap_cons, h a List.mem_cons_self, ih fun m hm => h m (List.mem_cons_of_mem _ hm)]
  rw [cg _ _ _ e]
  have := PySem.W.krv_range xs.size
  have h2 : (List.range xs.size).filterMap (fun m => xs[xs.size - 1 - m]?) = ((List.range xs.size).map (fun k => xs.size - 1 - k)).filterMap (xs[·]?) := by rw [List.filterMap_map]; rfl
  rw [h2, this, List.filterMap_reverse, PySem.W.krv_all]
theorem getItem_tuple_rev {t sl : Addr} {items : Array Value} {vs : Value} {Q : Value → Shared → Prop} (ht : IsTup s.heap t items) (hs : s.heap.IsSliceOf sl .none .none vs) (ps : IsPart vs (some (-1)))
    (h : Q (.ref s.heap.objs.size) { s with heap := s.heap.push { cls := .type "tuple", data := .seq items.toList.reverse.toArray } })
    (hsz : items.size ≤ sizeLine) : wpAny (model prog w) A (getItem (.ref t) (.ref sl)) Q E s := by
  have htake : sizeOk (.seq items.toList.reverse.toArray) := by
    show items.toList.reverse.toArray.size ≤ sizeLine
    rw [List.size_toArray, List.length_reverse, Array.length_toList]
    exact hsz
  obtain ⟨os, hos, hcs, hds⟩ := id hs
  have hTs : s.TypeIs (.ref sl) "slice" := ⟨os, hos, hcs⟩
  unfold getItem
  try with_reducible refine wpAny_holding ?_
  first | refine wpAny_bind (wpAny_pure ?_) | skip
  refine wpAny_bind (wpAny_sequenceKey ht.typeIs (by decide) ?_)
  refine wpAny_bind (wpAny_callSpecial?_slot (name := Str.ofString "__getitem__") ht.typeIs PyProof.Rows.slot_tuple_getitem
    (wpAny_call_entry PyProof.Rows.slot_tuple_getitem ht.typeIs entry_tuple_getitem ?_ (args_tuple_getitem _ _)))
  show wpAny _ _ (Builtin.Tuple.tupleItemsOf (.ref t) >>= _) _ _ s
  refine wpAny_bind (tupleItemsOf_ ht ?_)
  refine wpAny_bind (wpAny_typeOf hTs ?_)
  rw [if_pos (by decide)]
  refine wpAny_bind (sliceApplied_rev hs ps ?_)
  have hno : ¬ (((((items.size : Nat) : Int) - 1) == 0 && (-1 : Int) == 1 && items.size == items.size) = true) := by simp
  show wpAny _ _ (if ((((items.size : Nat) : Int) - 1) == 0 && (-1 : Int) == 1 && items.size == items.size) = true then _ else _) _ _ s
  rw [if_neg hno, pick_rev]
  first
    | exact wpAny_bind (m := Builtin.Tuple.tupleExact _) (wpAny_newObj_type (wpAny_pure ⟨_, rfl, wpAny_pure h⟩) htake)
    | exact wpAny_bind (m := Builtin.Tuple.tupleExact _) (wpAny_newObj_type (wpAny_bind (wpAny_pure (wpAny_pure ⟨_, rfl, wpAny_pure h⟩))) htake)
    | exact wpAny_bind (wpAny_bind (m := Builtin.Tuple.tupleExact _) (wpAny_newObj_type (wpAny_pure (wpAny_pure ⟨_, rfl, wpAny_pure h⟩)) htake))
    | exact wpAny_bind (wpAny_bind (m := Builtin.Tuple.tupleExact _) (wpAny_newObj_type (wpAny_pure ⟨_, rfl, wpAny_pure h⟩) htake))
end
def tRevT (K : PySem.W.Frag) (te : TE) : TE := fun σ H Q => te σ H fun x H1 => ∃ a xs, x = .ref a ∧ SqT K H1 a xs ∧ ∀ p o, H1 p = none → o.dict = none → Q (.ref p) (upd H1 p (.frz o (.tup xs.reverse)))
section
variable {X : Cx}
theorem pe_revT {e : Expr} {te : TE} {k : Nat} {p1 p2 p3 pos : Pos} (he : PE X e te) : PE X (.Subscript e (.Slice none none (some (.UnaryOp .USub (.Constant (.int 1) k p1) p2)) p3) pos) (tRevT X.K te) := by
  refine ⟨fun pins s σ H Q I h => ?_⟩
  refine Subscript_ (thn (he.run pins s σ H _ I h) fun v s1 ⟨x, H1, I1, r1, q1⟩ => ?_)
  obtain ⟨a, xs, ex, hx, q⟩ := q1
  subst ex
  cases r1
  have hst : PO X (some (.UnaryOp .USub (.Constant (.int 1) k p1) p2)) (tPart (tUn (rU fun i => .int (-i)) (tC (.int 1)))) := po_some (pe_un un_neg pe_int)
  refine wpAny_Slice (thn (po_none.run pins s1 σ H1 (fun o H2 => o = none ∧ H2 = H1) I1 ⟨rfl, rfl⟩) fun vl s2 ⟨l, H2, I2, pl, el, e2⟩ => ?_)
  subst el e2
  refine thn (po_none.run pins s2 σ H2 (fun o H3 => o = none ∧ H3 = H2) I2 ⟨rfl, rfl⟩) fun vu s3 ⟨u, H3, I3, pu, eu, e3⟩ => ?_
  subst eu e3
  refine thn (hst.run pins s3 σ H3 (fun o H4 => o = some (-1) ∧ H4 = H3) I3 ⟨1, rfl, -1, rfl, rfl, rfl⟩) fun vs s4 ⟨o, H4, I4, ps, eo, e4⟩ => ?_
  subst eo e4
  cases pl
  cases pu
  have I5 : Inv X pins σ H4 { s4 with heap := s4.heap.push { cls := .type "slice", data := .fields #[.none, .none, vs] } } := I4.kept (t' := s4.toks) fun b ob q => Heap.get?_push_of_some _ q
  obtain ⟨its, r, ht, hz⟩ := I5.tuple hx
  have hlen := r.length
  show wpAny (model X.prog X.w) X.A (subscriptTail e (.Slice none none (some (.UnaryOp .USub (.Constant (.int 1) k p1) p2)) p3) (.ref a) (.ref s4.heap.objs.size)) (EP X pins σ Q) X.xe { s4 with heap := s4.heap.push { cls := .type "slice", data := .fields #[.none, .none, vs] } }
  refine tail_any (ops := [.ref a, .ref s4.heap.objs.size]) ht.typeIs (PyProof.Rows.slot_tuple_getitem.lookup) ?_ (by with_unfolding_all rfl)
  refine getItem_tuple_rev ht (Heap.IsSliceOf.new _ .none .none vs) ps ?_ (by rw [List.size_toArray]; omega)
  exact ⟨.ref _, _, tup_laid I5 r.reverse (by rw [List.length_reverse]; exact hz), rfl, q _ _ (I5.hok.fresh (Nat.le_refl _)) rfl⟩
theorem pe_revF {a : Expr} {f : Fv} {k : Nat} {p1 p2 p3 pos : Pos} (ha : PE X a (tE X.K f)) : PE X (.Subscript a (.Slice none none (some (.UnaryOp .USub (.Constant (.int 1) k p1) p2)) p3) pos) (tE X.K (revF f)) := by
  refine PE.imp (pe_revT ha) fun σ H Q ⟨Z, ι, s, d, tg, s', R, hf, hq⟩ => ?_
  obtain ⟨⟨d1, t1, s1⟩, f1, hf⟩ := Option.bind_eq_some_iff.mp hf
  obtain ⟨e1, w1, hf⟩ := Option.bind_eq_some_iff.mp hf
  obtain ⟨⟨d', tg'⟩, hk, hf⟩ := Option.map_eq_some_iff.mp hf
  cases hf
  refine ⟨Z, ι, s, d1, t1, _, R, f1, fun x H1 Z1 ι1 N1 v1 => ?_⟩
  have ww := wk_ok N1.sr v1 (Nxt.refl N1.sr) w1
  cases e1 with
  | tup xs =>
    cases hk
    obtain ⟨p, vs, rfl, h1, q1⟩ := ww.tup
    refine ⟨p, vs, rfl, h1, fun p o hp ho => ?_⟩
    obtain ⟨N4, vr⟩ := new_tup (H0 := H) N1.sr hp ho q1.reverse
    exact hq _ _ _ _ (Nxt.trans R N1 N4) vr
  | _ => cases hk
end
end E3
set_option Elab.async false
set_option linter.all false
set_option maxRecDepth 100000
set_option maxHeartbeats 4000000
/-! dict(t) of a tuple of pairs. -/
namespace E3
open PySem PySem.Spec PyProof.Rows L2
theorem tuple_keys_none : typeLookup (.type "tuple") "keys" = pure none := am_miss_of_fast (by first | decide +kernel | rfl)
section
variable {prog : Program} {w : World} {A : Around} {E : Value → Shared → Prop}

theorem miss_tup {s : Shared} {a : Addr} {o : Obj} {xs : Array Value} {k : Nat} {Q : Option Value → Shared → Prop} (hx : s.heap.get? a = some o) (hc : o.cls = .type "tuple") (hdat : o.data = .seq xs k) (hd : o.dict = none) (hA : A.handled = none)
    (h : ∀ h' tk, (∀ b ob, s.heap.get? b = some ob → h'.get? b = some ob) → Q none { s with heap := h', toks := tk }) : wpAny (model prog w) A (getAttr? (.ref a) "keys") Q E s := by
  obtain ⟨c, dct, dat, sl⟩ := o
  simp only at hc hdat hd
  subst hc hdat hd
  obtain ⟨hp, g, d, tk, os⟩ := s
  have hT : ∀ tk', (⟨hp, g, d, tk', os⟩ : Shared).TypeIs (.ref a) "tuple" := fun _ => ⟨_, hx, rfl⟩
  have hmiss := tuple_keys_none
  have hname : (["__module__", "__name__", "__qualname__", "__doc__", "__annotations__"] : List Str).contains "keys" = false := by decide +kernel
  have hsz : ("keys" : Str).length + 100 ≤ sizeLine := by first | size_fits | decide +kernel
  have f1 := sub_AttributeError
  have f3 := PySem.F.slot_tuple_getattribute.lookup
  have f4 := PySem.F.slot_tuple_getattribute.bind (.ref a)
  have f5 := am_tuple_getattr_none
  unfold getAttr? getAttrBy? getAttrBy
  repeat (any_goals (first | assumption | exact hT _ | ((with_reducible show wpAny _ _ (call (Value.builtin "tuple.__getattribute__") _ _) _ _ _); refine call_meets PySem.F.slot_tuple_getattribute (hT _) am_entry_tuple_getattribute (PySem.F.args_tuple_getattribute_2 _ _) (meets_getattribute_miss_tuple a xs k sl "keys" _ hmiss hname hsz) ⟨hx, hA, fun h' tk' e hx' => ?_⟩) | wp_step))
  obtain ⟨t', u', he⟩ := hx'.there
  show wpAny _ _ (getattributeRaised _ _ _ _ _ _ _) _ _ _
  unfold getattributeRaised
  repeat (any_goals (first | assumption | wp_step))
  all_goals first | exact h _ _ hx'.keeps | (dsimp only; repeat (any_goals (first | assumption | exact h _ _ hx'.keeps | wp_step)))


theorem upd_loopT {R : Result → Shared → Prop} {S I l : Addr} {items : Array Value} {res : Value} (hh : A.handled = none) (hlI : l ≠ I) (hSI : S ≠ I) (hSl : S ≠ l) :
    ∀ (rest : List (Key × Value)) (i : Nat) (acc : List (Key × Value)) (ix : Int) (t : Tok) (s : Shared), items.size = i + rest.length → acc.length + rest.length ≤ sizeLine →
      (∀ (j : Nat) (q : Key × Value), rest[j]? = some q → ∃ (b : Addr) (u : Value), items[i + j]? = some (.ref b) ∧ b ≠ S ∧ b ≠ I ∧ IsTup s.heap b #[u, q.2] ∧ keyIs q.1 u = true) →
      s.heap.IsTupleIter I l i → s.heap.IsTuple l items → s.heap.DictOf (mixKind prog w) S acc →
      (∀ h' tk, h'.DictOf (mixKind prog w) S (merged acc rest) → (∀ b o, b ≠ S → b ≠ I → s.heap.get? b = some o → h'.get? b = some o) → R (.ok (.ret res)) { s with heap := h', toks := tk }) →
      codeAny (model prog w) A (.builtin "dict.update.loop" ⟨[.ref S, .ref I, .int ix t, res], []⟩) R s
  | [], i, acc, ix, t, s, hsz, hln, ht, hit, hl, hm, hR => by
    refine codeAny_builtin ud_entry ?_
    rw [Around.under_plainId ud_plain _]
    show wpAny _ A.in1 (pyNext (.ref I) >>= _) _ _ s
    refine wpAny_bind (wpAny_pyNext_tuple_end (A := A.in1) hh hit hl (by first | exact Array.getElem?_eq_none (Nat.le_of_eq hsz) | (simp at hsz; simp; omega)) fun h' he => ?_)
    show wpAny _ A.in1 (Builtin.Dict.addKeywords S [] >>= _) _ _ _
    refine wpAny_bind (wpAny_pure (wpAny_pure ?_))
    exact hR h' s.toks (hm.extBut he hSI) fun b o _ hb e => he b o hb e
  | q :: rest, i, acc, ix, t, s, hsz, hln, ht, hit, hl, hm, hR => by
    obtain ⟨b, u, hb, hbS, hbI, htup, hk⟩ := ht 0 q rfl
    rw [List.length_cons] at hsz hln
    refine codeAny_builtin ud_entry ?_
    rw [Around.under_plainId ud_plain _]
    show wpAny _ A.in1 (pyNext (.ref I) >>= _) _ _ s
    refine wpAny_bind (wpAny_pyNext_tuple_item (x := .ref b) hit hl (by simpa using hb) fun h1 hit1 hs1 => ?_)
    have ht1 : IsTup h1 b #[u, q.2] := htup.extBut hs1.extBut hbI
    have hl1 : h1.IsTuple l items := hl.extBut hs1.extBut hlI
    have hm1 : h1.DictOf (mixKind prog w) S acc := hm.extBut hs1.extBut hSI
    obtain ⟨o, ho, hc, n, hd⟩ := id ht1
    show wpAny _ A.in1 (holding [Value.ref b] _ >>= _) _ _ _
    refine wpAny_bind (wpAny_holding ?_)
    refine wpAny_bind (wpAny_tryCatch ?_)
    unfold Builtin.Dict.pairItems
    refine wpAny_bind (wpAny_typeOf (T := "tuple") ⟨o, ho, hc⟩ ?_)
    rw [if_pos (by first | decide | rfl | simp)]
    refine wpAny_bind (wpAny_seqItems ho hd (wpAny_pure ?_))
    show wpAny _ A.in1 (holding [u, q.2] (dictSet S u q.2)) _ _ _
    refine wpAny_holding (wpAny_dictSet_pairs (knd := mixKind prog w) (k := q.1) hk hm1 (fun h2 hm2 hs2 => ?_) (by omega))
    refine wpAny_pure ⟨plainId_quiet ud_plain _, upd_loopT (items := items) hh hlI hSI hSl rest (i + 1) (stored acc q.1 q.2) (ix + 1) 0 _ (show items.size = i + 1 + rest.length by omega) ?_ (fun j q' e => ?_) ?_ ?_ hm2 fun h' tk hd' k => ?_⟩
    · have z := stored_length_le acc q.1 q.2
      omega
    · obtain ⟨b', u', hb', hbS', hbI', htup', hk'⟩ := ht (j + 1) q' (by simpa using e)
      refine ⟨b', u', ?_, hbS', hbI', (htup'.extBut hs1.extBut hbI').extBut hs2.extBut hbS', hk'⟩
      rw [show i + 1 + j = i + (j + 1) by omega]
      exact hb'
    · exact hit1.at fun o' e => hs2.extBut I o' (Ne.symm hSI) e
    · exact hl1.extBut hs2.extBut (Ne.symm hSl)
    · exact hR h' tk hd' fun c oc h3 h4 e => k c oc h3 h4 (hs2.extBut c oc h3 (hs1.extBut c oc h4 e))


theorem call_dict_pairsT {s : Shared} {l : Addr} {ol : Obj} {items : Array Value} {n : Nat} {prs : List (Key × Value)} {Q : Value → Shared → Prop} (hh : A.handled = none) (hl : s.heap.get? l = some ol) (hc : ol.cls = .type "tuple") (hd : ol.dict = none)
    (hdat : ol.data = .seq items n) (hsz : items.size = prs.length) (hln : prs.length ≤ sizeLine)
    (ht : ∀ (j : Nat) (q : Key × Value), prs[j]? = some q → ∃ (b : Addr) (u : Value), items[j]? = some (.ref b) ∧ IsTup s.heap b #[u, q.2] ∧ keyIs q.1 u = true)
    (h : ∀ h' tk, h'.DictOf (mixKind prog w) s.heap.objs.size (merged [] prs) → (∀ b o, s.heap.get? b = some o → h'.get? b = some o) → Q (.ref s.heap.objs.size) { s with heap := h', toks := tk }) :
    wpAny (model prog w) A (call (.type "dict") [.ref l]) Q E s := by
  refine callType_codes (Q₁ := fun obj s₁ => obj = .ref s.heap.objs.size ∧ s₁ = { s with heap := s.heap.push { cls := .type "dict", data := .dict #[] } }) PySem.F.kt_called_dict (PySem.F.kt_typeCall_dict_1 _) PySem.F.entry_dict_init (kt_code_dict_new _ ⟨rfl, rfl⟩) ?_
  rintro obj s₁ ⟨rfl, rfl⟩
  have hnew : (s.heap.push { cls := .type "dict", data := .dict #[] }).DictOf (mixKind prog w) s.heap.objs.size [] := Heap.DictOf.new s.heap
  have k0 : ∀ b o, s.heap.get? b = some o → (s.heap.push { cls := .type "dict", data := .dict #[] }).get? b = some o := fun b o e => Heap.get?_push_of_some _ e
  refine ⟨hnew.typeIs, PySem.F.args_dict_init_2 _ _, ?_⟩
  unfold Builtin.«dict.__init__»
  refine wpAny_bind ?_
  unfold Builtin.Dict.selfAndRest
  refine wpAny_bind (wpAny_notOrdered_dict hnew.typeIs ?_)
  show wpAny _ _ (pure (s.heap.objs.size, [Value.ref l])) _ _ _
  refine wpAny_pure ?_
  show wpAny _ _ (Builtin.Dict.updateFrom "dict.__init__" s.heap.objs.size (.ref l) [] .none) _ _ _
  unfold Builtin.Dict.updateFrom
  refine wpAny_bind (wpAny_typeOf (T := "tuple") ⟨ol, k0 _ _ hl, hc⟩ ?_)
  rw [if_pos (by first | decide | rfl | simp)]
  refine wpAny_bind (miss_tup (k0 _ _ hl) hc hdat hd hh fun h1 tk1 hk1 => ?_)
  rw [if_pos (show (none : Option Value).isNone = true from rfl)]
  refine wpAny_bind (wpAny_rule ?_)
  have hl1 : h1.IsTuple l items := ⟨ol, hk1 _ _ (k0 _ _ hl), hc, n, hdat⟩
  have hS1 : s.heap.objs.size < h1.objs.size := by
    have e : (s.heap.push { cls := .type "dict", data := .dict #[] }).get? s.heap.objs.size = some { cls := .type "dict", data := .dict #[] } := Heap.get?_push_size _ rfl
    exact Heap.lt_size (hk1 _ _ e)
  refine wpAny_bind (wpAny_pyIter_tuple hl1 ?_)
  have k2 : ∀ b o, h1.get? b = some o → (h1.push { cls := .type "tuple_iterator", data := .fields #[.ref l, .int 0 0] }).get? b = some o := fun b o e => Heap.get?_push_of_some _ e
  have hlt : l < s.heap.objs.size := Heap.lt_size hl
  have key := upd_loopT (prog := prog) (w := w) (A := A.in1) (R := wants (fun r s₂ => r = .none ∧ Q (.ref s.heap.objs.size) s₂) E) (S := s.heap.objs.size) (I := h1.objs.size) (l := l) (items := items) (res := Value.none) hh
    (Nat.ne_of_lt (Nat.lt_trans hlt hS1)) (Nat.ne_of_lt hS1) (Nat.ne_of_gt hlt) prs 0 [] 0 0
    { s with heap := h1.push { cls := .type "tuple_iterator", data := .fields #[.ref l, .int 0 0] }, toks := tk1 } (by rw [hsz, Nat.zero_add]) (by rw [List.length_nil, Nat.zero_add]; exact hln)
    (fun j q e => by
      obtain ⟨b, u, e1, e2, e3⟩ := ht j q e
      have hb : b < s.heap.objs.size := e2.lt
      exact ⟨b, u, by rw [Nat.zero_add]; exact e1, Nat.ne_of_lt hb, Nat.ne_of_lt (Nat.lt_trans hb hS1), e2.keeps fun c o z => k2 _ _ (hk1 _ _ (k0 _ _ z)), e3⟩)
    ⟨_, Heap.get?_push_size _ rfl, rfl, rfl⟩ (hl1.at fun o e => k2 _ _ e) ((hnew.at fun o e => hk1 _ _ e).at fun o e => k2 _ _ e)
    (fun h' tk hd' k => ⟨rfl, h h' tk hd' fun b o e => k b o (Nat.ne_of_lt (Heap.lt_size e)) (Nat.ne_of_lt (Nat.lt_trans (Heap.lt_size e) hS1)) (k2 _ _ (hk1 _ _ (k0 _ _ e)))⟩)
  first
    | exact wpAny_pure ⟨plainId_quiet ud_plain _, key⟩
    | exact wpAny_bind (wpAny_pure (wpAny_pure ⟨plainId_quiet ud_plain _, key⟩))
end

section
variable {X : Cx}
theorem TpX.at {pins : List (Addr × Obj)} {σ : L2.St} {H : Hp} {s : Shared} {a : Addr} {xs : List V} (h : TpX X.K H a xs) (I : Inv X pins σ H s) : ∃ (o : Obj) (its : List Value) (n : Nat), s.heap.get? a = some o ∧ o.cls = .type "tuple" ∧ o.dict = none ∧ o.data = .seq its.toArray n ∧ Vals xs its ∧ xs.length ≤ sizeLine := by
  have hs := h.sq
  obtain ⟨its, rv, ⟨o, ho, hc, n, hd⟩, z⟩ := I.tuple hs
  refine ⟨o, its, n, ho, hc, ?_, hd, rv, z⟩
  rcases h with ⟨ob, h, dn⟩ | ⟨⟨ob, h, dn⟩, _⟩
  · obtain ⟨e, _⟩ := I.hok a _ h
    rw [ho] at e
    cases e
    exact dn
  · have e := I.kIn a ob h
    rw [ho] at e
    cases e
    exact dn
theorem call_dictT (hcalm : X.calm = true) : CallR X (.type "dict") (fun xs H Q => ∃ (a : Addr) (ps : List Addr) (kvs : List (Key × V)), xs = [.ref a] ∧ TpX X.K H a (ps.map V.ref) ∧ Paired (fun p kv => SqT X.K H p [kV kv.1, kv.2]) ps kvs ∧
    ∀ p, H p = none → Q (.ref p) (upd H p (.dK (mergeK [] kvs)))) := by
  intro pins s σ H xs us Q I r q
  obtain ⟨a, ps, kvs, ex, hq, hp, q⟩ := q
  subst ex
  obtain ⟨u, eu, rx⟩ := vals1 r
  subst eu
  cases rx
  obtain ⟨o, its, n, ho, hc, hd, hdat, rv, hz⟩ := hq.at I
  have ei := refs_at rv
  subst ei
  rw [List.length_map] at hz
  obtain ⟨prs, rel, hl, hpr⟩ := pairs_of I hp
  refine call_dict_pairsT (prs := prs) (I.ok.hd hcalm) ho hc hd hdat (by simp [hl]) (by rw [hl]; exact hz) (fun j q' e => ?_) fun h' tk hd' k => ?_
  · obtain ⟨b, u, e1, e2, e3⟩ := hpr j q' e
    exact ⟨b, u, by simp [e1], e2, e3⟩
  · have hm : (s.heap.objs.size == sysModules) = false := beq_eq_false_iff_ne.mpr (Nat.ne_of_gt I.big)
    have hlen : (mergeK [] kvs).length ≤ sizeLine := by
      refine Nat.le_trans (length_mergeK kvs []) ?_
      rw [List.length_nil, Nat.zero_add, rel.length, hl]
      exact hz
    exact ⟨.ref s.heap.objs.size, upd H s.heap.objs.size (.dK (mergeK [] kvs)), I.laid (t' := tk) k (Nat.le_refl _) (show ObjOk X.prog X.w _ _ _ (.dK (mergeK [] kvs)) from ⟨hlen, hm, merged [] prs, KV.merge rel .nil, hd'⟩), rfl, q _ (I.hok.fresh (Nat.le_refl _))⟩
end
def rDictA (K : PySem.W.Frag) : List V → Hp → VK → Prop := fun xs H Q => (∃ (a : Addr) (ps : List Addr) (kvs : List (Key × V)), xs = [.ref a] ∧ SqL K H a (ps.map V.ref) ∧ Paired (fun p kv => SqT K H p [kV kv.1, kv.2]) ps kvs ∧
    ∀ p, H p = none → Q (.ref p) (upd H p (.dK (mergeK [] kvs)))) ∨ ∃ (a : Addr) (ps : List Addr) (kvs : List (Key × V)), xs = [.ref a] ∧ TpX K H a (ps.map V.ref) ∧ Paired (fun p kv => SqT K H p [kV kv.1, kv.2]) ps kvs ∧
    ∀ p, H p = none → Q (.ref p) (upd H p (.dK (mergeK [] kvs)))
theorem call_dictA {X : Cx} (hc : X.calm = true) : CallR X (.type "dict") (rDictA X.K) := (call_dictP hc).or (call_dictT hc)
theorem v1_dictA {K : PySem.W.Frag} : Val1 K (fun x H Q => rDictA K [x] H Q) (b1D .dict) := by
  intro H0 H Z ι σ s x a d tg Q R hb r1 hk hq
  cases a with
  | lst xs =>
    obtain ⟨ks, h1, h2⟩ := Option.map_eq_some_iff.mp (show (pairsD xs).map _ = some (d, tg) from hk)
    cases h2
    obtain ⟨p, vs, rfl, h3, q1⟩ := r1.lst
    obtain ⟨ps, kvs, e, pr, rr⟩ := pairs_rel q1 h1
    subst e
    refine .inl ⟨p, ps, kvs, rfl, .inl (.inl h3), pr, fun c hc => ?_⟩
    obtain ⟨N, vr⟩ := new_dct (H0 := H0) R hb hc (merge_rel rr .nil)
    exact hq _ _ N vr
  | tup xs =>
    obtain ⟨ks, h1, h2⟩ := Option.map_eq_some_iff.mp (show (pairsD xs).map _ = some (d, tg) from hk)
    cases h2
    obtain ⟨p, vs, rfl, h3, q1⟩ := r1.tupX
    obtain ⟨ps, kvs, e, pr, rr⟩ := pairs_rel q1 h1
    subst e
    refine .inr ⟨p, ps, kvs, rfl, h3, pr, fun c hc => ?_⟩
    obtain ⟨N, vr⟩ := new_dct (H0 := H0) R hb hc (merge_rel rr .nil)
    exact hq _ _ N vr
  | _ => cases hk
end E3
set_option Elab.async false
set_option linter.all false
set_option maxRecDepth 100000
set_option maxHeartbeats 4000000
/-! Which text an expression stands for; it computes what the expression computes. -/
namespace E3
open PySem PySem.Spec PyProof.Rows L2
structure En where
  N : List Str
  sc : Scope
  fn : Str → Bool
  ft : List (Str × Nat × Bool)
def blkEn (en : En) (scope : Scope) : En := { en with sc := relS scope en.sc, fn := fun x => scope.names.lookup x == some .cell }
def bnames : List Str := ["len", "range", "isinstance", "int", "bool", "str", "tuple", "list", "set", "dict", "sorted", "any", "all", "min", "max", "zip"]
structure Good (X : Cx) (en : En) (F : Fn) : Prop where
  calm : X.calm = true
  N : X.N = en.N
  sc : X.env.scope = en.sc
  fn : X.fn = en.fn
  nd : en.N.Nodup
  hu : X.A.units + 64 < cLine
  mg : ∀ x ∈ bnames, X.mg x = none
  call : ∀ (j : Nat) x n rb, en.ft[j]? = some (x, n, rb) → (∀ ds mh r, F j ds mh = some r → ds.length = n) ∧ ∃ k, Room k X.A ∧ ∃ (f : Addr) (fd : FuncData) (ps : List Str), ps.length = n ∧ FnOk X.prog X.w X.K X.mg X.base CX0 k f fd ps (spB rb X.K ps.length (F j)) ∧ X.mg x = some (.ref f) ∧ PySem.W.keepIn X.K (.ref f) = true ∧ Binds X.K fd ps []
theorem Good.blk {X : Cx} {en : En} {F : Fn} (g : Good X en F) (scope : Scope) (s : Shared) (H : Hp) (C : Addr) (cl : List (Str × Addr)) (fp : List Addr) : Good (X.blk s H scope (compEnvC scope cl C X.env) fp) (blkEn en scope) F where
  calm := g.calm
  N := g.N
  sc := by
    show relS scope X.env.scope = relS scope en.sc
    rw [g.sc]
  fn := rfl
  nd := g.nd
  hu := g.hu
  mg := g.mg
  call := g.call
/-! ### the matcher -/
def visB (sc : Scope) (x : Str) : Bool := match sc.names.lookup x with
  | some .local => true
  | some .cell => true
  | some .free => true
  | _ => false
def locB (sc : Scope) (x : Str) : Bool := match sc.names.lookup x with
  | some .local => true
  | some .cell => true
  | _ => false
def glB (sc : Scope) (x : Str) : Bool := match sc.names.lookup x with
  | some .globalImplicit => true
  | _ => false
def plainN (x : Str) : Bool := !(x == ("__debug__" : Str)) && !(x == ("__classdict__" : Str))
/-- neither a starred one nor a set nor a slice -/
def ok1 : Expr → Bool
  | .Starred .. => false
  | .Set .. => false
  | .Slice .. => false
  | _ => true
/-- isTrue looks at the value -/
def atomB : Expr → Bool
  | .BoolOp .. => false
  | .UnaryOp .Not _ _ => false
  | .IfExp .. => false
  | .Compare .. => false
  | _ => true
structure Ok where
  v : Expr → Bool
  a : List Expr → Bool := fun _ => false
  i : Expr → Expr → Bool := fun _ e => v e
  c : List Expr → Bool := fun es => match es with
    | [e] => v e
    | _ => false
  b : Option Expr → Bool := fun o => match o with
    | some e => v e
    | none => false
def slotB (en : En) (i : Nat) (x : Str) : Bool := decide (en.N[i]? = some x) && visB en.sc x && plainN x
def Tn.isL : Tn → Bool
  | .nil => true
  | .cons _ _ => true
  | _ => false
def okT : Tn → En → List Expr → Bool
  | .nm i, en => fun es => match es with
    | [.Name x _] => decide (en.N[i]? = some x) && locB en.sc x && (en.fn x || decide (en.sc.names.lookup x = some .local))
    | _ => false
  | .tp r, en => fun es => match es with
    | [.Tuple ts _ _] => r.isL && okT r en ts
    | _ => false
  | .nil, _ => fun es => match es with
    | [] => true
    | _ => false
  | .cons a r, en => fun es => match es with
    | t :: ts => ok1 t && a.isL.not && okT a en [t] && (r.isL && okT r en ts)
    | _ => false
def b1N : B1 → Str
  | .len => "len" | .all => "all" | .any => "any" | .tuple => "tuple" | .list => "list" | .dict => "dict" | .int => "int" | .min1 => "min" | .max1 => "max" | .srtset => "sorted"
def bi1 (sc : Scope) (nm : Str) (x : Str) : Bool := decide (x = nm) && glB sc nm
def ok : E → En → Ok
  | .v i, en => { v := fun e => match e with | .Name x _ => slotB en i x | _ => false }
  | .cint z, _ => { v := fun e => match e with | .Constant (.int n) _ _ => decide (z = n) | _ => false }
  | .cbl z, _ => { v := fun e => match e with | .Constant (.bool n) _ _ => decide (z = n) | _ => false }
  | .cnon, _ => { v := fun e => match e with | .Constant .none _ _ => true | _ => false }
  | .cstr z, _ => { v := fun e => match e with | .Constant (.str n) _ _ => decide (z = n) | _ => false }
  | .glob _, _ => { v := fun _ => false }
  | .bin o a b, en => { v := fun e => match e with | .BinOp x op y _ => decide (op = bopOf o) && (ok a en).v x && (ok b en).v y | _ => false }
  | .neg a, en => { v := fun e => match e with | .UnaryOp .USub x _ => (ok a en).v x | _ => false }
  | .cmp o a b, en => { v := fun e => match e with | .Compare x [op] [y] _ => decide (op = copOf o) && ok1 y && (ok a en).v x && (ok b en).v y | _ => false }
  | .chn o p a b c, en => { v := fun e => match e with | .Compare x [op, oq] [y, z] _ => decide (op = copOf o) && decide (oq = copOf p) && ok1 z && (ok a en).v x && (ok b en).v y && (ok c en).v z | _ => false }
  | .isn a, en => { v := fun e => match e with | .Compare x [.Is] [.Constant .none _ _] _ => (ok a en).v x | _ => false }
  | .ntn a, en => { v := fun e => match e with | .Compare x [.IsNot] [.Constant .none _ _] _ => (ok a en).v x | _ => false }
  | .and a b, en => { v := fun e => match e with | .BoolOp .And (x :: y :: r) p => (ok a en).v x && (ok b en).v (.BoolOp .And (y :: r) p) | _ => false }
  | .or a b, en => { v := fun e => match e with | .BoolOp .Or (x :: y :: r) p => (ok a en).v x && (ok b en).v (.BoolOp .Or (y :: r) p) | _ => false }
  | .one a, en => { v := fun e => match e with | .BoolOp _ [x] _ => (ok a en).v x | _ => false }
  | .nt a, en => { v := fun e => match e with | .UnaryOp .Not x _ => (ok a en).v x | _ => false }
  | .ife c a b, en => { v := fun e => match e with | .IfExp z x y _ => (ok c en).v z && (ok a en).v x && (ok b en).v y | _ => false }
  | .ix a i, en => { v := fun e => match e with | .Subscript x y _ => ok1 y && (ok a en).v x && (ok i en).v y | _ => false }
  | .sl a lo hi, en => { v := fun e => match e with | .Subscript x (.Slice l h none _) _ => (ok a en).v x && (ok lo en).b l && (ok hi en).b h | _ => false }
  | .rev a, en => { v := fun e => match e with | .Subscript x (.Slice none none (some (.UnaryOp .USub (.Constant (.int 1) _ _) _)) _) _ => (ok a en).v x | _ => false }
  | .nop, _ => { v := fun _ => false, c := fun es => match es with | [] => true | _ => false, b := fun o => match o with | none => true | _ => false }
  | .tup es', en => { v := fun e => match e with | .Tuple es _ _ => (ok es' en).a es | _ => false }
  | .lst es', en => { v := fun e => match e with | .List es _ => (ok es' en).a es | _ => false }
  | .new es', en => { v := fun e => match e with | .List es _ => (ok es' en).a es | _ => false }
  | .dnil, _ => { v := fun e => match e with | .Dict [] [] _ => true | _ => false }
  | .nil, _ => { v := fun _ => false, a := fun es => match es with | [] => true | _ => false, i := fun _ _ => false, c := fun _ => false, b := fun _ => false }
  | .cons a es', en => { v := fun _ => false, a := fun es => match es with | x :: r => ok1 x && (ok a en).v x && (ok es' en).a r | _ => false, i := fun _ _ => false, c := fun _ => false, b := fun _ => false }
  | .call j _ es', en => { v := fun e => match e with | .Call (.Name x _) (y :: r) [] _ => decide (en.ft[j]? = some (x, (y :: r).length, false)) && glB en.sc x && !(x == ("__debug__" : Str)) && (ok es' en).a (y :: r) && (y :: r).all ok1 | _ => false }
  | .callr j es', en => { v := fun e => match e with | .Call (.Name x _) (y :: r) [] _ => decide (en.ft[j]? = some (x, (y :: r).length, true)) && glB en.sc x && !(x == ("__debug__" : Str)) && (ok es' en).a (y :: r) && (y :: r).all ok1 | _ => false }
  | .bor a, en => { v := fun e => atomB e && (ok a en).v e }
  | .b1 .srtset a, en => { v := fun e => match e with | .Call (.Name x _) [.Call (.Name y _) [z] [] _] [] _ => bi1 en.sc "sorted" x && bi1 en.sc "set" y && ok1 z && (ok a en).v z | _ => false }
  | .b1 f a, en => { v := fun e => match e with | .Call (.Name x _) [z] [] _ => bi1 en.sc (b1N f) x && ok1 z && (ok a en).v z | _ => false }
  | .min2 a b, en => { v := fun e => match e with | .Call (.Name x _) [y, z] [] _ => bi1 en.sc "min" x && ok1 y && ok1 z && (ok a en).v y && (ok b en).v z | _ => false }
  | .max2 a b, en => { v := fun e => match e with | .Call (.Name x _) [y, z] [] _ => bi1 en.sc "max" x && ok1 y && ok1 z && (ok a en).v y && (ok b en).v z | _ => false }
  | .isi a t, en => { v := fun e => match e with | .Call (.Name x _) [y, .Name z _] [] _ => bi1 en.sc "isinstance" x && bi1 en.sc (Str.ofString (tyName t)) z && ok1 y && (ok a en).v y | _ => false }
  | .lc own tg it cd el, en => { v := fun e => match e with | .ListComp z [⟨t, y, ifs, 0⟩] scope _ => ok1 y && (ok it en).i t y && blkC en.N en.sc scope own && tg.slots.all (fun j => decide (j ∈ own.map (·.2))) && (!tg.isL && okT tg (blkEn en scope) [t]) && (ok cd (blkEn en scope)).c ifs && (ok el (blkEn en scope)).v z | _ => false }
  | .dc own tg it cd ky el, en => { v := fun e => match e with | .DictComp k z [⟨t, y, ifs, 0⟩] scope _ => ok1 y && (ok it en).i t y && blkC en.N en.sc scope own && tg.slots.all (fun j => decide (j ∈ own.map (·.2))) && (!tg.isL && okT tg (blkEn en scope) [t]) && (ok cd (blkEn en scope)).c ifs && (ok ky (blkEn en scope)).v k && (ok el (blkEn en scope)).v z | _ => false }
  | .dk own i j cd ky el, en => { v := fun e => match e with | .DictComp k z [⟨t, .Name y _, ifs, 0⟩] scope _ => slotB en j y && blkC en.N en.sc scope own && decide (i ∈ own.map (·.2)) && okT (.nm i) (blkEn en scope) [t] && (ok cd (blkEn en scope)).c ifs && (ok ky (blkEn en scope)).v k && (ok el (blkEn en scope)).v z | _ => false }
  | .pop i, en => { v := fun e => match e with | .Call (.Attribute (.Name x _) mm q) [] [] p => slotB en i x && decide (mm = "pop") && (q.endLine == p.line) | _ => false }
  | .rx i k, en => { v := fun e => match e with | .Subscript (.Name x _) y _ => slotB en i x && ok1 y && (ok k en).v y | _ => false }
  | .rg1 a, en => { v := fun _ => false, c := fun _ => false, b := fun _ => false, i := fun _ e => match e with | .Call (.Name x _) [y] [] _ => bi1 en.sc "range" x && ok1 y && (ok a en).v y | _ => false }
  | .rg2 a b, en => { v := fun _ => false, c := fun _ => false, b := fun _ => false, i := fun _ e => match e with | .Call (.Name x _) [y, z] [] _ => bi1 en.sc "range" x && ok1 y && ok1 z && (ok a en).v y && (ok b en).v z | _ => false }
  | .zp a b, en => { v := fun _ => false, c := fun _ => false, b := fun _ => false, i := fun t e => match t, e with | .Tuple _ _ _, .Call (.Name x _) [y, z] [] _ => bi1 en.sc "zip" x && ok1 y && ok1 z && (ok a en).v y && (ok b en).v z | _, _ => false }
/-! ### plain texts -/
theorem star1 {e : Expr} {es : List Expr} {env : Env} (h : ok1 e = true) : starEach (e :: es) env = (false, eval e env) :: starEach es env := by
  cases e <;> first | rfl | cases h
theorem star_any {env : Env} {p : Pos} : ∀ {es : List Expr}, es.all ok1 = true → (backTo p (starEach es env)).any (·.1) = false
  | [], _ => rfl
  | e :: es, h => by
    rw [List.all_cons, Bool.and_eq_true] at h
    rw [star1 h.1]
    show (false || (backTo p (starEach es env)).any (·.1)) = false
    rw [star_any h.2]
    rfl
theorem behind1 {o : CmpOp} {e : Expr} (h : ok1 e = true) : behindInMarks o e = false := by
  cases e <;> first | rfl | cases h
theorem plainIx1 {e : Expr} (h : ok1 e = true) : PlainIx e := by
  intro o i
  cases e <;> first | rfl | cases h
theorem folded1 {e : Expr} {env : Env} {x : Value} (h : ok1 e = true) : foldedSetIterable e env x = pure x := by
  cases e <;> first | rfl | cases h
theorem vis_of {sc : Scope} {x : Str} (h : visB sc x = true) : Vis sc x := by
  unfold visB at h
  split at h
  · exact .inl (by assumption)
  · exact .inr (.inl (by assumption))
  · exact .inr (.inr (by assumption))
  · cases h
theorem loc_of {sc : Scope} {x : Str} (h : locB sc x = true) : Loc sc x := by
  unfold locB at h
  split at h
  · exact .inl (by assumption)
  · exact .inr (by assumption)
  · cases h
theorem gl_of {sc : Scope} {x : Str} (h : glB sc x = true) : sc.names.lookup x = some .globalImplicit := by
  unfold glB at h
  split at h
  · assumption
  · cases h
theorem and2 {a b : Bool} (h : (a && b) = true) : a = true ∧ b = true := Bool.and_eq_true_iff.mp h
section
variable {X : Cx} {en : En} {F : Fn}
theorem Good.gl (g : Good X en F) {x : Str} (h : glB en.sc x = true) : Gl X x := by
  have := gl_of h
  show X.env.scope.names.lookup x = _
  rw [g.sc]
  exact this
theorem Good.slot (g : Good X en F) {i : Nat} {x : Str} (h : slotB en i x = true) : X.N[i]? = some x ∧ Vis X.env.scope x ∧ (x == ("__debug__" : Str)) = false ∧ (x == ("__classdict__" : Str)) = false := by
  obtain ⟨h, h3⟩ := and2 h
  obtain ⟨h1, h2⟩ := and2 h
  obtain ⟨h4, h5⟩ := and2 h3
  rw [g.N, g.sc]
  exact ⟨of_decide_eq_true h1, vis_of h2, by simpa using h4, by simpa using h5⟩
theorem Good.b1 (g : Good X en F) {nm x : Str} (h : bi1 en.sc nm x = true) (hm : nm ∈ bnames) : x = nm ∧ Gl X nm ∧ X.mg nm = none := by
  obtain ⟨h1, h2⟩ := and2 h
  exact ⟨of_decide_eq_true h1, g.gl h2, g.mg nm hm⟩
/-- what each view of an expression gives -/
structure PP (X : Cx) (o : Ok) (m : Sm) : Prop where
  v : ∀ e, o.v e = true → PE X e (tE X.K m.v)
  t : ∀ e, o.v e = true → PT X e (tET X.K (toC m.v))
  w : ∀ op es p, o.v (.BoolOp op es p) = true → PW X (.BoolOp op es p) (tET X.K (toC m.v))
  a : ∀ es, o.a es = true → PA X es (tEA X.K m.a) ∧ PA X es (tEG X.K m.t)
  i : ∀ tg e, o.i tg e = true → PI X tg e (tI X.K m.i)
  c : ∀ es, o.c es = true → PTs X es (tET X.K m.c)
  b : ∀ x, o.b x = true → PO X x (tEB X.K m.b)
theorem atom_true {e : Expr} {env : Env} (h : atomB e = true) : ∀ whole, isTrue e env whole = (do let v ← whole; standAt e.pos; holding [v] (truthy v)) := by
  intro whole
  cases e with
  | UnaryOp op x p => cases op <;> first | rfl | cases h
  | _ => first | rfl | cases h
theorem PP.of {ov : Expr → Bool} {mv : Fv} (hv : ∀ e, ov e = true → PE X e (tE X.K mv)) (ht : ∀ e, ov e = true → PT X e (tET X.K (toC mv))) (hw : ∀ op es p, ov (.BoolOp op es p) = true → PW X (.BoolOp op es p) (tET X.K (toC mv))) :
    PP X { v := ov } { v := mv } where
  v := hv
  t := ht
  w := hw
  a := fun es h => by cases h
  i := fun tg e h => pi_toI (hv e h)
  c := fun es h => by
    match es, h with
    | [e], h => exact pts_one (ht e h)
    | [], h => cases h
    | _ :: _ :: _, h => cases h
  b := fun x h => by
    cases x with
    | none => cases h
    | some e => exact po_F (hv e h)
/-- the same for texts that isTrue takes by their value -/
theorem PP.atom {ov : Expr → Bool} {mv : Fv} (ha : ∀ e, ov e = true → atomB e = true) (hv : ∀ e, ov e = true → PE X e (tE X.K mv)) : PP X { v := ov } { v := mv } :=
  PP.of hv (fun e h => pt_of (hv e h) (atom_true (ha e h))) fun op es p h => by cases ha _ h
theorem pg_ok {t : Tn} {en : En} (g : Good X en F) : (t.isL = false → ∀ e, okT t en [e] = true → PG X e (tT X.K t)) ∧ (t.isL = true → ∀ es, okT t en es = true → PGs X es (tTs X.K t) ∧ (assignEach es X.env).findIdx? (·.1) = none ∧ (assignEach es X.env).length = es.length ∧ ∀ ds s s', bindX t ds s = some s' → ds.length = es.length) := by
  induction t with
  | nm i =>
    refine ⟨fun _ e h => ?_, fun q => (by cases q)⟩
    cases e with
    | Name x p =>
      obtain ⟨h, h3⟩ := and2 (show (decide (en.N[i]? = some x) && locB en.sc x && (en.fn x || decide (en.sc.names.lookup x = some .local))) = true from h)
      obtain ⟨h1, h2⟩ := and2 h
      refine pg_nm (by rw [g.N]; exact g.nd) (by rw [g.N]; exact of_decide_eq_true h1) (by rw [g.sc]; exact loc_of h2) ?_
      rw [g.fn, g.sc]
      exact (Bool.or_eq_true_iff.mp h3).imp id fun z => of_decide_eq_true z
    | _ => cases h
  | tp r ih =>
    refine ⟨fun _ e h => ?_, fun q => (by cases q)⟩
    cases e with
    | Tuple ts n p =>
      obtain ⟨hl, h'⟩ := and2 (show (r.isL && okT r en ts) = true from h)
      obtain ⟨h1, h2, h3, h4⟩ := ih.2 hl ts h'
      exact pg_tpT g.calm h1 rfl (fun ds s s' e => (h4 ds s s' e).trans h3.symm) h2
    | _ => cases h
  | nil =>
    refine ⟨fun q => (by cases q), fun _ es h => ?_⟩
    cases es with
    | nil => exact ⟨pgs_nilT, rfl, rfl, fun ds s s' e => by
        cases ds with
        | nil => rfl
        | cons d ds => cases e⟩
    | cons e es => cases h
  | cons a r iha ihr =>
    refine ⟨fun q => (by cases q), fun _ es h => ?_⟩
    cases es with
    | nil => cases h
    | cons e es =>
      obtain ⟨h, h4⟩ := and2 (show (ok1 e && a.isL.not && okT a en [e] && (r.isL && okT r en es)) = true from h)
      obtain ⟨h, h2⟩ := and2 h
      obtain ⟨h1, h0⟩ := and2 h
      obtain ⟨h4, h3⟩ := and2 h4
      have pa := iha.1 (by simpa using h0) e h2
      obtain ⟨r1, r2, r3, r4⟩ := ihr.2 h4 es h3
      have as1 : assignEach (e :: es) X.env = (false, assign e X.env) :: assignEach es X.env := by
        cases e <;> first | rfl | cases h1
      refine ⟨pgs_consT pa r1 (by rw [as1]; rfl), ?_, by rw [as1, List.length_cons, List.length_cons, r3], fun ds s s' hb => ?_⟩
      · rw [as1, List.findIdx?_cons]
        simp only [Bool.false_eq_true, if_false]
        rw [r2]
        rfl
      · cases ds with
        | nil => cases hb
        | cons d ds =>
          obtain ⟨s1, b1, b2⟩ := Option.bind_eq_some_iff.mp (show (bindX a [d] s).bind (bindX r ds) = some s' from hb)
          rw [List.length_cons, List.length_cons, r4 ds s1 s' b2]
end
end E3
set_option Elab.async false
set_option linter.all false
set_option maxRecDepth 100000
set_option maxHeartbeats 4000000
/-! The expressions compute what they stand for. -/
namespace E3
open PySem PySem.Spec PyProof.Rows L2
section
variable {X : Cx} {en : En} {F : Fn}
theorem Good.blkOk (g : Good X en F) {scope : Scope} {own : List (Str × Nat)} (h : blkC en.N en.sc scope own = true) : BlkOk X.N X.env.scope scope own := by
  rw [g.N, g.sc]
  exact blkOk_by h
theorem pp_none : PP X { v := fun _ => false } { v := noF } := PP.of (fun _ h => by cases h) (fun _ h => by cases h) fun _ _ _ h => by cases h
theorem own_all {tg : Tn} {own : List (Str × Nat)} (h : tg.slots.all (fun j => decide (j ∈ own.map (·.2))) = true) : ∀ j ∈ tg.slots, j ∈ own.map (·.2) := fun j hj => of_decide_eq_true (List.all_eq_true.mp h j hj)
theorem pg_one {t : Tn} (g : Good X en F) {e : Expr} (h : (!t.isL && okT t en [e]) = true) : PG X e (tT X.K t) := by
  obtain ⟨h1, h2⟩ := and2 h
  exact (pg_ok g).1 (by simpa using h1) e h2
theorem list1 {e : Expr} {es : List Expr} {k : Fa} (h : es = [e]) : True := trivial
/-- the arguments: all of them plain -/
theorem ok_all {G : Nat → Option D} {F : Fn} : ∀ (a : E3.E) (en : En) (es : List Expr), (ok a en).a es = true → es.all ok1 = true := by
  intro a
  induction a with
  | nil => intro en es h; cases es with
    | nil => rfl
    | cons e es => cases h
  | cons a r _ ih => intro en es h; cases es with
    | nil => cases h
    | cons e es =>
      obtain ⟨h, h3⟩ := and2 (show (ok1 e && (ok a en).v e && (ok r en).a es) = true from h)
      obtain ⟨h1, _⟩ := and2 h
      rw [List.all_cons, h1, ih en es h3]
      rfl
  | b1 f a _ => intro en es h; cases f <;> cases h
  | _ => intro en es h; cases h
theorem pt_ifE {c a b : Expr} {pos : Pos} {t ta tb : TT} (hc : PT X c t) (ha : PT X a ta) (hb : PT X b tb) : PT X (.IfExp c a b pos) (fun σ H Q => t σ H fun k H1 => if k = true then ta σ H1 Q else tb σ H1 Q) := by
  refine ⟨fun pins s σ H Q I h => ?_⟩
  show wpAny _ _ (isTrue c X.env (eval c X.env) >>= fun k => if k = true then isTrue a X.env (eval a X.env) else isTrue b X.env (eval b X.env)) _ _ _
  refine wpAny_bind (thn (hc.run pins s σ H _ I h) fun k s1 ⟨H1, I1, q1⟩ => ?_)
  cases k with
  | true => exact ha.run pins s1 σ H1 Q I1 q1
  | false => exact hb.run pins s1 σ H1 Q I1 q1
theorem pt_iteF {c a b : Expr} {pos : Pos} {k f g : Fv} (hc : PT X c (tET X.K (toC k))) (ha : PT X a (tET X.K (toC f))) (hb : PT X b (tET X.K (toC g))) : PT X (.IfExp c a b pos) (tET X.K (toC (iteF k f g))) := by
  refine PT.imp (pt_ifE hc ha hb) fun σ H Q ⟨Z, ι, s, r, s', R, hf, hq⟩ => ?_
  obtain ⟨⟨d1, t1, s1⟩, f1, hf⟩ := Option.bind_eq_some_iff.mp hf
  obtain ⟨r', hr, hf⟩ := Option.bind_eq_some_iff.mp hf
  cases hf
  obtain ⟨⟨d2, t2, s2⟩, f2, f1⟩ := Option.bind_eq_some_iff.mp f1
  obtain ⟨b', hb', f1⟩ := Option.bind_eq_some_iff.mp f1
  refine ⟨Z, ι, s, b', s2, R, ?_, fun H1 Z1 ι1 N1 => ?_⟩
  · show ((k s).bind fun x => (boolD x.1).bind fun b => some (b, x.2.2)) = _
    rw [f2]
    show ((boolD d2).bind fun b => some (b, s2)) = _
    rw [hb']
    rfl
  · cases b' with
    | true =>
      simp only [if_true] at f1 ⊢
      refine ⟨Z1, ι1, s2, r, s1, N1.sr, ?_, fun H2 Z2 ι2 N2 => hq H2 Z2 ι2 (Nxt.trans R N1 N2)⟩
      show ((f s2).bind fun x => (boolD x.1).bind fun b => some (b, x.2.2)) = _
      rw [f1]
      show ((boolD d1).bind fun b => some (b, s1)) = _
      rw [hr]
      rfl
    | false =>
      simp only [Bool.false_eq_true, if_false] at f1 ⊢
      refine ⟨Z1, ι1, s2, r, s1, N1.sr, ?_, fun H2 Z2 ι2 N2 => hq H2 Z2 ι2 (Nxt.trans R N1 N2)⟩
      show ((g s2).bind fun x => (boolD x.1).bind fun b => some (b, x.2.2)) = _
      rw [f1]
      show ((boolD d1).bind fun b => some (b, s1)) = _
      rw [hr]
      rfl
/-- a value found while all lists are lent -/
theorem frz_at {s : E3.S} {i : Nat} {d : D} {o : Bool} (h : (frzS s).sl[i]? = some (some (d, o))) : o = false ∧ noRef d = true ∧ ∃ o', s.sl[i]? = some (some (d, o')) := by
  have h' : (s.sl.map fun o => match o with
    | some (d, _) => if noRef d then some (d, false) else none
    | none => none)[i]? = some (some (d, o)) := h
  rw [List.getElem?_map] at h'
  obtain ⟨x, hx, e⟩ := Option.map_eq_some_iff.mp h'
  match x, hx, e with
  | some (d', o'), hx, e =>
    simp only at e
    split at e
    · rename_i hn
      cases e
      exact ⟨rfl, hn, o', hx⟩
    · cases e
  | none, hx, e => cases e
theorem bor_imp {K : PySem.W.Frag} {f : Fv} : ∀ σ H Q, tE K (borF f) σ H Q → tE K f σ H Q := by
  rintro σ H Q ⟨Z, ι, s, d, tg, s', R, hf, hq⟩
  obtain ⟨⟨d0, t0, s1⟩, f1, hf⟩ := Option.bind_eq_some_iff.mp hf
  have hf' : (if flatT (d0, t0) then some (d0, t0, s) else none) = some (d, tg, s') := hf
  split at hf'
  · rename_i hfl
    cases hf'
    let Zf : Addr → Prop := fun a => Z a ∨ ∃ (i : Nat) (x : D), s.sl[i]? = some (some (x, true)) ∧ σ[i]? = some (some (.ref a))
    have kc : Kp K H Z ([] : List Addr) H Zf [] := ⟨fun _ _ h => h, fun _ _ h => h, fun _ z => .inl z, fun _ _ _ h => h, fun _ _ _ h => h, fun _ _ h => h⟩
    have now : ∀ {u : E3.S} {a : Addr}, Wr σ (frzS u) [] a → False := fun {u a} w => by
      rcases w with w | ⟨i, x, h1, _⟩
      · cases w
      · obtain ⟨q, _⟩ := frz_at h1
        cases q
    have R1 : SR K H Zf [] σ (frzS s) := by
      refine ⟨by simpa [frzS] using R.len, fun i x h => ?_, fun i x h => ?_, fun i j x y a h => ?_, rfl, fun n a ds h => by simp at h, List.nodup_nil, fun a z => ?_⟩
      · obtain ⟨_, hn, o', h1⟩ := frz_at h
        cases o' with
        | false =>
          obtain ⟨v, h2, r⟩ := R.st i x h1
          exact ⟨v, h2, (r.noref hn).mono kc⟩
        | true =>
          obtain ⟨a, h2, t, _, _⟩ := R.ow i x h1
          refine ⟨.ref a, h2, ?_⟩
          cases x with
          | lst ds =>
            obtain ⟨b, vs, e, q, r⟩ := t
            cases e
            exact .lst (.inr ⟨i, _, h1, h2⟩) q ((Rels.noref r hn).mono kc)
          | dct ks =>
            obtain ⟨b, vs, e, q, r⟩ := t
            cases e
            exact .dct (.inr ⟨i, _, h1, h2⟩) (.inl q) ((RelK.noref r hn).mono kc)
          | _ => exact t.elim
      · obtain ⟨q, _⟩ := frz_at h
        cases q
      · obtain ⟨q, _⟩ := frz_at h
        cases q
      · rcases z with z | ⟨i, x, h1, h2⟩
        · exact R.zd a z
        · rcases R.wr (.inr ⟨i, x, h1, h2⟩) with q | ⟨kvs, q⟩
          · exact .inl q
          · exact .inr ⟨kvs, .inl q⟩
    refine ⟨Zf, [], frzS s, d, tg, s1, R1, f1, fun v H' Z' ι' N vr => ?_⟩
    have ext : ∀ a o, H a = some o → H' a = some o := fun a o e => N.fr a o e now
    refine hq v H' Z ι (Nxt.ext R ext) ?_
    cases tg with
    | st => exact Rel.flatR (show Rel K H' Z' ι' v d from vr) hfl
    | fr =>
      obtain ⟨a, e, h1, h2, h3, t⟩ := vr
      refine ⟨a, e, h1, fun z => R.zSome z h1, fun w => R.wrSome w h1, ?_⟩
      cases d with
      | lst ds =>
        obtain ⟨b, vs, e2, q, r⟩ := t
        exact ⟨b, vs, e2, q, Rels.flatR r hfl⟩
      | _ => cases hfl
    | bw i => cases d <;> cases hfl
  · cases hf'
variable (G : Nat → Option D) (F : Fn)
theorem ppE : ∀ (e : E3.E) (en : En) (X : Cx), Good X en F → PP X (ok e en) (sm G F e) := by
  intro e
  induction e with
  | v i =>
    intro en X g
    refine PP.atom (fun e h => by cases e <;> first | rfl | cases h) fun e h => ?_
    cases e with
    | Name x p => obtain ⟨h1, h2, h3, h4⟩ := g.slot (i := i) (x := x) h; exact pe_vF h1 h2 h3 h4
    | _ => cases h
  | cint z =>
    intro en X g
    refine PP.atom (fun e h => by cases e <;> first | rfl | cases h) fun e h => ?_
    cases e with
    | Constant c n p =>
      cases c with
      | int m =>
        have e := of_decide_eq_true (p := z = m) h
        subst e
        exact pe_cF pe_int fun _ _ _ => .int _
      | _ => cases h
    | _ => cases h
  | cbl z =>
    intro en X g
    refine PP.atom (fun e h => by cases e <;> first | rfl | cases h) fun e h => ?_
    cases e with
    | Constant c n p =>
      cases c with
      | bool m =>
        have e := of_decide_eq_true (p := z = m) h
        subst e
        exact pe_cF pe_bl fun _ _ _ => .bl _
      | _ => cases h
    | _ => cases h
  | cnon =>
    intro en X g
    refine PP.atom (fun e h => by cases e <;> first | rfl | cases h) fun e h => ?_
    cases e with
    | Constant c n p =>
      cases c with
      | none => exact pe_cF pe_non fun _ _ _ => .non
      | _ => cases h
    | _ => cases h
  | cstr z =>
    intro en X g
    refine PP.atom (fun e h => by cases e <;> first | rfl | cases h) fun e h => ?_
    cases e with
    | Constant c n p =>
      cases c with
      | str m =>
        have e := of_decide_eq_true (p := z = m) h
        subst e
        exact pe_cF pe_str fun _ _ _ => .str _
      | _ => cases h
    | _ => cases h
  | glob j => intro en X g; exact PP.of (fun _ h => by cases h) (fun _ h => by cases h) fun _ _ _ h => by cases h
  | bin o a b iha ihb =>
    intro en X g
    refine PP.atom (fun e h => by cases e <;> first | rfl | cases h) fun e h => ?_
    cases e with
    | BinOp x op y p =>
      obtain ⟨h, h3⟩ := and2 (show (decide (op = bopOf o) && (ok a en).v x && (ok b en).v y) = true from h)
      obtain ⟨h1, h2⟩ := and2 h
      have e := of_decide_eq_true h1
      subst e
      exact pe_binF o ((iha en X g).v x h2) ((ihb en X g).v y h3)
    | _ => cases h
  | neg a iha =>
    intro en X g
    refine PP.atom (fun e h => by cases e with
      | UnaryOp op x p => cases op <;> first | rfl | cases h
      | _ => cases h) fun e h => ?_
    cases e with
    | UnaryOp op x p =>
      cases op with
      | USub => exact pe_negF ((iha en X g).v x h)
      | _ => cases h
    | _ => cases h
  | cmp o a b iha ihb =>
    intro en X g
    have key : ∀ e, (ok (.cmp o a b) en).v e = true → ∃ x y p, e = .Compare x [copOf o] [y] p ∧ behindInMarks (copOf o) y = false ∧ (ok a en).v x = true ∧ (ok b en).v y = true := fun e h => by
      cases e with
      | Compare x ops ys p =>
        match ops, ys, h with
        | [op], [y], h =>
          obtain ⟨h, h4⟩ := and2 (show (decide (op = copOf o) && ok1 y && (ok a en).v x && (ok b en).v y) = true from h)
          obtain ⟨h, h3⟩ := and2 h
          obtain ⟨h1, h2⟩ := and2 h
          have e := of_decide_eq_true h1
          subst e
          exact ⟨x, y, p, rfl, behind1 h2, h3, h4⟩
        | [], _, h => cases h
        | [_], [], h => cases h
        | [_], _ :: _ :: _, h => cases h
        | _ :: _ :: _, _, h => cases h
      | _ => cases h
    refine PP.of (fun e h => ?_) (fun e h => ?_) fun op es p h => by obtain ⟨_, _, _, e, _⟩ := key (.BoolOp op es p) h; cases e
    · obtain ⟨x, y, p, rfl, h1, h2, h3⟩ := key e h
      exact pe_cmpF g.hu o h1 ((iha en X g).v x h2) ((ihb en X g).v y h3)
    · obtain ⟨x, y, p, rfl, h1, h2, h3⟩ := key e h
      exact pt_cmpF g.hu o h1 ((iha en X g).v x h2) ((ihb en X g).v y h3)
  | chn o q a b c iha ihb ihc =>
    intro en X g
    have key : ∀ e, (ok (.chn o q a b c) en).v e = true → ∃ x y z p, e = .Compare x [copOf o, copOf q] [y, z] p ∧ lastMarks [copOf o, copOf q] [y, z] = false ∧ (ok a en).v x = true ∧ (ok b en).v y = true ∧ (ok c en).v z = true := fun e h => by
      cases e with
      | Compare x ops ys p =>
        match ops, ys, h with
        | [op, oq], [y, z], h =>
          obtain ⟨h, h6⟩ := and2 (show (decide (op = copOf o) && decide (oq = copOf q) && ok1 z && (ok a en).v x && (ok b en).v y && (ok c en).v z) = true from h)
          obtain ⟨h, h5⟩ := and2 h
          obtain ⟨h, h4⟩ := and2 h
          obtain ⟨h, h3⟩ := and2 h
          obtain ⟨h1, h2⟩ := and2 h
          have e := of_decide_eq_true h1
          have e2 := of_decide_eq_true h2
          subst e e2
          exact ⟨x, y, z, p, rfl, behind1 (o := copOf q) h3, h4, h5, h6⟩
        | [], _, h => cases h
        | [_], _, h => cases h
        | [_, _], [], h => cases h
        | [_, _], [_], h => cases h
        | [_, _], _ :: _ :: _ :: _, h => cases h
        | _ :: _ :: _ :: _, _, h => cases h
      | _ => cases h
    refine PP.of (fun e h => ?_) (fun e h => ?_) fun op es p h => by obtain ⟨_, _, _, _, e, _⟩ := key (.BoolOp op es p) h; cases e
    · obtain ⟨x, y, z, p, rfl, h1, h2, h3, h4⟩ := key e h
      exact pe_chnF g.hu o q ((iha en X g).v x h2) ((ihb en X g).v y h3) ((ihc en X g).v z h4) h1
    · obtain ⟨x, y, z, p, rfl, h1, h2, h3, h4⟩ := key e h
      exact pt_chnF g.hu o q ((iha en X g).v x h2) ((ihb en X g).v y h3) ((ihc en X g).v z h4) h1
  | isn a iha =>
    intro en X g
    have key : ∀ e, (ok (.isn a) en).v e = true → ∃ x n q p, e = .Compare x [.Is] [.Constant .none n q] p ∧ (ok a en).v x = true := fun e h => by
      cases e with
      | Compare x ops ys p =>
        dsimp only [ok] at h
        split at h
        · rename_i heq; cases heq; exact ⟨_, _, _, _, rfl, h⟩
        · cases h
      | _ => cases h
    refine PP.of (fun e h => ?_) (fun e h => ?_) fun op es p h => by obtain ⟨_, _, _, _, e, _⟩ := key (.BoolOp op es p) h; cases e
    · obtain ⟨x, n, q, p, rfl, h1⟩ := key e h
      exact pe_isnF ((iha en X g).v x h1)
    · obtain ⟨x, n, q, p, rfl, h1⟩ := key e h
      exact pt_isnF ((iha en X g).v x h1)
  | ntn a iha =>
    intro en X g
    have key : ∀ e, (ok (.ntn a) en).v e = true → ∃ x n q p, e = .Compare x [.IsNot] [.Constant .none n q] p ∧ (ok a en).v x = true := fun e h => by
      cases e with
      | Compare x ops ys p =>
        dsimp only [ok] at h
        split at h
        · rename_i heq; cases heq; exact ⟨_, _, _, _, rfl, h⟩
        · cases h
      | _ => cases h
    refine PP.of (fun e h => ?_) (fun e h => ?_) fun op es p h => by obtain ⟨_, _, _, _, e, _⟩ := key (.BoolOp op es p) h; cases e
    · obtain ⟨x, n, q, p, rfl, h1⟩ := key e h
      exact pe_ntnF ((iha en X g).v x h1)
    · obtain ⟨x, n, q, p, rfl, h1⟩ := key e h
      exact pt_ntnF ((iha en X g).v x h1)
  | and a b iha ihb =>
    intro en X g
    have key : ∀ e, (ok (.and a b) en).v e = true → ∃ x y r p, e = .BoolOp .And (x :: y :: r) p ∧ (ok a en).v x = true ∧ (ok b en).v (.BoolOp .And (y :: r) p) = true := fun e h => by
      try dsimp only [ok] at h
      split at h
      · obtain ⟨h1, h2⟩ := and2 h; exact ⟨_, _, _, _, rfl, h1, h2⟩
      · cases h
    have w : ∀ x y r p, (ok a en).v x = true → (ok b en).v (.BoolOp .And (y :: r) p) = true → PW X (.BoolOp .And (x :: y :: r) p) (tET X.K (toC (andF (sm G F a).v (sm G F b).v))) := fun x y r p h1 h2 =>
      pw_andF ((iha en X g).t x h1) ((ihb en X g).w _ _ _ h2)
    refine PP.of (fun e h => ?_) (fun e h => ?_) fun op es p h => ?_
    · obtain ⟨x, y, r, p, rfl, h1, h2⟩ := key e h
      exact pe_andF ((iha en X g).v x h1) ((ihb en X g).v _ h2)
    · obtain ⟨x, y, r, p, rfl, h1, h2⟩ := key e h
      exact (w x y r p h1 h2).pt
    · obtain ⟨x, y, r, p', e, h1, h2⟩ := key (.BoolOp op es p) h
      cases e
      exact w x y r _ h1 h2
  | or a b iha ihb =>
    intro en X g
    have key : ∀ e, (ok (.or a b) en).v e = true → ∃ x y r p, e = .BoolOp .Or (x :: y :: r) p ∧ (ok a en).v x = true ∧ (ok b en).v (.BoolOp .Or (y :: r) p) = true := fun e h => by
      try dsimp only [ok] at h
      split at h
      · obtain ⟨h1, h2⟩ := and2 h; exact ⟨_, _, _, _, rfl, h1, h2⟩
      · cases h
    have w : ∀ x y r p, (ok a en).v x = true → (ok b en).v (.BoolOp .Or (y :: r) p) = true → PW X (.BoolOp .Or (x :: y :: r) p) (tET X.K (toC (orF (sm G F a).v (sm G F b).v))) := fun x y r p h1 h2 =>
      pw_orF ((iha en X g).t x h1) ((ihb en X g).w _ _ _ h2)
    refine PP.of (fun e h => ?_) (fun e h => ?_) fun op es p h => ?_
    · obtain ⟨x, y, r, p, rfl, h1, h2⟩ := key e h
      exact pe_orF ((iha en X g).v x h1) ((ihb en X g).v _ h2)
    · obtain ⟨x, y, r, p, rfl, h1, h2⟩ := key e h
      exact (w x y r p h1 h2).pt
    · obtain ⟨x, y, r, p', e, h1, h2⟩ := key (.BoolOp op es p) h
      cases e
      exact w x y r _ h1 h2
  | one a iha =>
    intro en X g
    have key : ∀ e, (ok (.one a) en).v e = true → ∃ op x p, e = .BoolOp op [x] p ∧ (ok a en).v x = true := fun e h => by
      try dsimp only [ok] at h
      split at h
      · exact ⟨_, _, _, rfl, h⟩
      · cases h
    have w : ∀ op x p, (ok a en).v x = true → PW X (.BoolOp op [x] p) (tET X.K (toC (sm G F a).v)) := fun op x p h1 => by
      cases op with
      | And => exact pw_and1 ((iha en X g).t x h1)
      | Or => exact pw_or1 ((iha en X g).t x h1)
    refine PP.of (fun e h => ?_) (fun e h => ?_) fun op es p h => ?_
    · obtain ⟨op, x, p, rfl, h1⟩ := key e h
      exact pe_one ((iha en X g).v x h1)
    · obtain ⟨op, x, p, rfl, h1⟩ := key e h
      exact (w op x p h1).pt
    · obtain ⟨op', x, p', e, h1⟩ := key (.BoolOp op es p) h
      cases e
      exact w _ x _ h1
  | nt a iha =>
    intro en X g
    have key : ∀ e, (ok (.nt a) en).v e = true → ∃ x p, e = .UnaryOp .Not x p ∧ (ok a en).v x = true := fun e h => by
      try dsimp only [ok] at h
      split at h
      · exact ⟨_, _, rfl, h⟩
      · cases h
    refine PP.of (fun e h => ?_) (fun e h => ?_) fun op es p h => by obtain ⟨_, _, e, _⟩ := key (.BoolOp op es p) h; cases e
    · obtain ⟨x, p, rfl, h1⟩ := key e h
      exact pe_ntF ((iha en X g).v x h1)
    · obtain ⟨x, p, rfl, h1⟩ := key e h
      exact pt_ntF ((iha en X g).t x h1)
  | ife c a b ihc iha ihb =>
    intro en X g
    have key : ∀ e, (ok (.ife c a b) en).v e = true → ∃ z x y p, e = .IfExp z x y p ∧ (ok c en).v z = true ∧ (ok a en).v x = true ∧ (ok b en).v y = true := fun e h => by
      try dsimp only [ok] at h
      split at h
      · obtain ⟨h, h3⟩ := and2 h; obtain ⟨h1, h2⟩ := and2 h; exact ⟨_, _, _, _, rfl, h1, h2, h3⟩
      · cases h
    refine PP.of (fun e h => ?_) (fun e h => ?_) fun op es p h => by obtain ⟨_, _, _, _, e, _⟩ := key (.BoolOp op es p) h; cases e
    · obtain ⟨z, x, y, p, rfl, h1, h2, h3⟩ := key e h
      exact pe_iteF ((ihc en X g).t z h1) ((iha en X g).v x h2) ((ihb en X g).v y h3)
    · obtain ⟨z, x, y, p, rfl, h1, h2, h3⟩ := key e h
      exact pt_iteF ((ihc en X g).t z h1) ((iha en X g).t x h2) ((ihb en X g).t y h3)
  | ix a i iha ihi =>
    intro en X g
    refine PP.atom (fun e h => by cases e <;> first | rfl | cases h) fun e h => ?_
    try dsimp only [ok] at h
    split at h
    · obtain ⟨h, h3⟩ := and2 h
      obtain ⟨h1, h2⟩ := and2 h
      have hu := g.hu
      exact pe_ixF (by omega) ((iha en X g).v _ h2) ((ihi en X g).v _ h3) (plainIx1 h1)
    · cases h
  | sl a lo hi iha ihl ihh =>
    intro en X g
    refine PP.atom (fun e h => by cases e <;> first | rfl | cases h) fun e h => ?_
    try dsimp only [ok] at h
    split at h
    · obtain ⟨h, h3⟩ := and2 h
      obtain ⟨h1, h2⟩ := and2 h
      exact pe_slF ((iha en X g).v _ h1) ((ihl en X g).b _ h2) ((ihh en X g).b _ h3)
    · cases h
  | rev a iha =>
    intro en X g
    refine PP.atom (fun e h => by cases e <;> first | rfl | cases h) fun e h => ?_
    try dsimp only [ok] at h
    split at h
    · exact pe_revF ((iha en X g).v _ h)
    · cases h
  | nop =>
    intro en X g
    refine ⟨fun _ h => (by cases h), fun _ h => (by cases h), fun _ _ _ h => (by cases h), fun _ h => (by cases h), fun _ _ h => (by cases h), fun es h => ?_, fun x h => ?_⟩
    · cases es with
      | nil => exact pts_nopF
      | cons _ _ => cases h
    · cases x with
      | none => exact po_nop
      | some _ => cases h
  | tup r ih =>
    intro en X g
    refine PP.atom (fun e h => by cases e <;> first | rfl | cases h) fun e h => ?_
    try dsimp only [ok] at h
    split at h
    · exact pe_tupF ((ih en X g).a _ h).1
    · cases h
  | lst r ih =>
    intro en X g
    refine PP.atom (fun e h => by cases e <;> first | rfl | cases h) fun e h => ?_
    try dsimp only [ok] at h
    split at h
    · exact pe_lstF ((ih en X g).a _ h).1
    · cases h
  | new r ih =>
    intro en X g
    refine PP.atom (fun e h => by cases e <;> first | rfl | cases h) fun e h => ?_
    try dsimp only [ok] at h
    split at h
    · exact pe_newF ((ih en X g).a _ h).1
    · cases h
  | dnil =>
    intro en X g
    refine PP.atom (fun e h => by cases e <;> first | rfl | cases h) fun e h => ?_
    try dsimp only [ok] at h
    split at h
    · exact pe_dnilF
    · cases h
  | nil =>
    intro en X g
    refine ⟨fun _ h => (by cases h), fun _ h => (by cases h), fun _ _ _ h => (by cases h), fun es h => ?_, fun _ _ h => (by cases h), fun _ h => (by cases h), fun _ h => (by cases h)⟩
    cases es with
    | nil => exact ⟨pa_nilF, pa_nilG⟩
    | cons _ _ => cases h
  | cons a r iha ihr =>
    intro en X g
    refine ⟨fun _ h => (by cases h), fun _ h => (by cases h), fun _ _ _ h => (by cases h), fun es h => ?_, fun _ _ h => (by cases h), fun _ h => (by cases h), fun _ h => (by cases h)⟩
    cases es with
    | nil => cases h
    | cons x es =>
      obtain ⟨h, h3⟩ := and2 (show (ok1 x && (ok a en).v x && (ok r en).a es) = true from h)
      obtain ⟨h1, h2⟩ := and2 h
      exact ⟨pa_consF ((iha en X g).v x h2) ((ihr en X g).a es h3).1 (star1 h1), pa_consG ((iha en X g).v x h2) ((ihr en X g).a es h3).2 (star1 h1)⟩
  | call j keep r ih =>
    intro en X g
    refine PP.atom (fun e h => by cases e <;> first | rfl | cases h) fun e h => ?_
    try dsimp only [ok] at h
    split at h
    · rename_i x p y es pos
      obtain ⟨h, h5⟩ := and2 h
      obtain ⟨h, h4⟩ := and2 h
      obtain ⟨h, h3⟩ := and2 h
      obtain ⟨h1, h2⟩ := and2 h
      obtain ⟨n, k, hr, fx⟩ := g.call j x _ _ (of_decide_eq_true h1)
      have c : Callee X k x (y :: es).length false (F j) := ⟨g.gl h2, by simpa using h3, fx⟩
      have hy := and2 (show (ok1 y && es.all ok1) = true from h5)
      cases keep with
      | true => exact pe_lendF c n hr ((ih en X g).a _ h4).2 (star1 hy.1) (star_any hy.2)
      | false => exact pe_callF c n hr ((ih en X g).a _ h4).1 (star1 hy.1) (star_any hy.2)
    · cases h
  | bor a iha =>
    intro en X g
    refine PP.atom (fun e h => (and2 h).1) fun e h => ?_
    obtain ⟨_, h2⟩ := and2 h
    exact PE.imp ((iha en X g).v e h2) (bor_imp)
  | callr j r ih =>
    intro en X g
    refine PP.atom (fun e h => by cases e <;> first | rfl | cases h) fun e h => ?_
    try dsimp only [ok] at h
    split at h
    · rename_i x p y es pos
      obtain ⟨h, h5⟩ := and2 h
      obtain ⟨h, h4⟩ := and2 h
      obtain ⟨h, h3⟩ := and2 h
      obtain ⟨h1, h2⟩ := and2 h
      obtain ⟨n, k, hr, fx⟩ := g.call j x _ _ (of_decide_eq_true h1)
      have c : Callee X k x (y :: es).length true (F j) := ⟨g.gl h2, by simpa using h3, fx⟩
      have hy := and2 (show (ok1 y && es.all ok1) = true from h5)
      exact pe_callrF c n hr ((ih en X g).a _ h4).1 (star1 hy.1) (star_any hy.2)
    · cases h
  | min2 a b iha ihb =>
    intro en X g
    refine PP.atom (fun e h => by cases e <;> first | rfl | cases h) fun e h => ?_
    try dsimp only [ok] at h
    split at h
    · obtain ⟨h, h5⟩ := and2 h
      obtain ⟨h, h4⟩ := and2 h
      obtain ⟨h, h3⟩ := and2 h
      obtain ⟨h1, h2⟩ := and2 h
      obtain ⟨e, hg, hm⟩ := g.b1 h1 (by decide)
      subst e
      exact pe_ii2F (call_min2 g.calm) hg hm boot_min ((iha en X g).v _ h4) ((ihb en X g).v _ h5) (by decide) (by decide) (by rw [star1 h2]) (by rw [star1 h3])
    · cases h
  | max2 a b iha ihb =>
    intro en X g
    refine PP.atom (fun e h => by cases e <;> first | rfl | cases h) fun e h => ?_
    try dsimp only [ok] at h
    split at h
    · obtain ⟨h, h5⟩ := and2 h
      obtain ⟨h, h4⟩ := and2 h
      obtain ⟨h, h3⟩ := and2 h
      obtain ⟨h1, h2⟩ := and2 h
      obtain ⟨e, hg, hm⟩ := g.b1 h1 (by decide)
      subst e
      exact pe_ii2F (call_max2 g.calm) hg hm boot_max ((iha en X g).v _ h4) ((ihb en X g).v _ h5) (by decide) (by decide) (by rw [star1 h2]) (by rw [star1 h3])
    · cases h
  | isi a t iha =>
    intro en X g
    refine PP.atom (fun e h => by cases e <;> first | rfl | cases h) fun e h => ?_
    try dsimp only [ok] at h
    split at h
    · obtain ⟨h, h4⟩ := and2 h
      obtain ⟨h, h3⟩ := and2 h
      obtain ⟨h1, h2⟩ := and2 h
      obtain ⟨e, hg, hm⟩ := g.b1 h1 (by decide)
      obtain ⟨e2, hg2, hm2⟩ := g.b1 h2 (by cases t <;> decide)
      subst e e2
      exact pe_isiF hg hm hg2 hm2 ((iha en X g).v _ h4) (star1 h3)
    · cases h
  | lc own tg it cd el ihi ihc ihe =>
    intro en X g
    refine PP.atom (fun e h => by cases e <;> first | rfl | cases h) fun e h => ?_
    try dsimp only [ok] at h
    split at h
    · rename_i z t y ifs scope pos
      obtain ⟨h, h7⟩ := and2 h
      obtain ⟨h, h6⟩ := and2 h
      obtain ⟨h, h5⟩ := and2 h
      obtain ⟨h, h4⟩ := and2 h
      obtain ⟨h, h3⟩ := and2 h
      obtain ⟨h1, h2⟩ := and2 h
      exact pe_lcF g.calm (by rw [g.N]; exact g.nd) ((ihi en X g).i t y h2) (g.blkOk h3) (own_all h4) (fun s H C cl fp => pg_one (g.blk scope s H C cl fp) h5)
        (fun s H C cl fp => (ihc _ _ (g.blk scope s H C cl fp)).c ifs h6) (fun s H C cl fp => (ihe _ _ (g.blk scope s H C cl fp)).v z h7) fun x => folded1 h1
    · cases h
  | dc own tg it cd ky el ihi ihc ihk ihe =>
    intro en X g
    refine PP.atom (fun e h => by cases e <;> first | rfl | cases h) fun e h => ?_
    try dsimp only [ok] at h
    split at h
    · rename_i k z t y ifs scope pos
      obtain ⟨h, h8⟩ := and2 h
      obtain ⟨h, h7⟩ := and2 h
      obtain ⟨h, h6⟩ := and2 h
      obtain ⟨h, h5⟩ := and2 h
      obtain ⟨h, h4⟩ := and2 h
      obtain ⟨h, h3⟩ := and2 h
      obtain ⟨h1, h2⟩ := and2 h
      exact pe_dcF g.calm (by rw [g.N]; exact g.nd) ((ihi en X g).i t y h2) (g.blkOk h3) (own_all h4) (fun s H C cl fp => pg_one (g.blk scope s H C cl fp) h5)
        (fun s H C cl fp => (ihc _ _ (g.blk scope s H C cl fp)).c ifs h6) (fun s H C cl fp => (ihk _ _ (g.blk scope s H C cl fp)).v k h7) (fun s H C cl fp => (ihe _ _ (g.blk scope s H C cl fp)).v z h8) fun x => folded1 h1
    · cases h
  | dk own i j cd ky el ihc ihk ihe =>
    intro en X g
    refine PP.atom (fun e h => by cases e <;> first | rfl | cases h) fun e h => ?_
    try dsimp only [ok] at h
    split at h
    · rename_i k z t y p2 ifs scope pos
      obtain ⟨h, h8⟩ := and2 h
      obtain ⟨h, h7⟩ := and2 h
      obtain ⟨h, h6⟩ := and2 h
      obtain ⟨h, h5⟩ := and2 h
      obtain ⟨h, h4⟩ := and2 h
      obtain ⟨h2, h3⟩ := and2 h
      obtain ⟨a1, a2, a3, a4⟩ := g.slot h2
      exact pe_dkF g.calm (by rw [g.N]; exact g.nd) a1 a2 a3 a4 (g.blkOk h3) (of_decide_eq_true h4) (fun s H C cl fp => pg_one (g.blk scope s H C cl fp) h5)
        (fun s H C cl fp => (ihc _ _ (g.blk scope s H C cl fp)).c ifs h6) (fun s H C cl fp => (ihk _ _ (g.blk scope s H C cl fp)).v k h7) (fun s H C cl fp => (ihe _ _ (g.blk scope s H C cl fp)).v z h8) fun x => rfl
    · cases h
  | pop i =>
    intro en X g
    refine PP.atom (fun e h => by cases e <;> first | rfl | cases h) fun e h => ?_
    try dsimp only [ok] at h
    split at h
    · obtain ⟨h, h3⟩ := and2 h
      obtain ⟨h1, h2⟩ := and2 h
      obtain ⟨a1, a2, a3, a4⟩ := g.slot h1
      have e := of_decide_eq_true h2
      subst e
      exact pe_popF a1 a2 a3 a4 h3
    · cases h
  | rx i k ihk =>
    intro en X g
    refine PP.atom (fun e h => by cases e <;> first | rfl | cases h) fun e h => ?_
    try dsimp only [ok] at h
    split at h
    · obtain ⟨h, h3⟩ := and2 h
      obtain ⟨h1, h2⟩ := and2 h
      obtain ⟨a1, a2, a3, a4⟩ := g.slot h1
      exact pe_rxF a1 a2 a3 a4 ((ihk en X g).v _ h3) (plainIx1 h2)
    · cases h
  | rg1 a iha =>
    intro en X g
    refine ⟨fun _ h => (by cases h), fun _ h => (by cases h), fun _ _ _ h => (by cases h), fun _ h => (by cases h), fun tg e h => ?_, fun _ h => (by cases h), fun _ h => (by cases h)⟩
    try dsimp only [ok] at h
    split at h
    · obtain ⟨h, h3⟩ := and2 h
      obtain ⟨h1, h2⟩ := and2 h
      obtain ⟨e, hg, hm⟩ := g.b1 h1 (by decide)
      subst e
      exact pi_rg1F hg hm ((iha en X g).v _ h3) (star1 h2)
    · cases h
  | rg2 a b iha ihb =>
    intro en X g
    refine ⟨fun _ h => (by cases h), fun _ h => (by cases h), fun _ _ _ h => (by cases h), fun _ h => (by cases h), fun tg e h => ?_, fun _ h => (by cases h), fun _ h => (by cases h)⟩
    try dsimp only [ok] at h
    split at h
    · obtain ⟨h, h5⟩ := and2 h
      obtain ⟨h, h4⟩ := and2 h
      obtain ⟨h, h3⟩ := and2 h
      obtain ⟨h1, h2⟩ := and2 h
      obtain ⟨e, hg, hm⟩ := g.b1 h1 (by decide)
      subst e
      exact pi_rg2F hg hm ((iha en X g).v _ h4) ((ihb en X g).v _ h5) (by rw [star1 h2, star1 h3]; rfl) (star1 h3)
    · cases h
  | zp a b iha ihb =>
    intro en X g
    refine ⟨fun _ h => (by cases h), fun _ h => (by cases h), fun _ _ _ h => (by cases h), fun _ h => (by cases h), fun tg e h => ?_, fun _ h => (by cases h), fun _ h => (by cases h)⟩
    try dsimp only [ok] at h
    split at h
    · obtain ⟨h, h5⟩ := and2 h
      obtain ⟨h, h4⟩ := and2 h
      obtain ⟨h, h3⟩ := and2 h
      obtain ⟨h1, h2⟩ := and2 h
      obtain ⟨e, hg, hm⟩ := g.b1 h1 (by decide)
      subst e
      exact pi_zpF hg hm ((iha en X g).v _ h4) ((ihb en X g).v _ h5) (by rw [star1 h2, star1 h3]; rfl) (star1 h3)
    · cases h
  | b1 f a iha =>
    intro en X g
    cases f with
    | srtset =>
      refine PP.atom (fun e h => by cases e <;> first | rfl | cases h) fun e h => ?_
      try dsimp only [ok] at h
      split at h
      · obtain ⟨h, h4⟩ := and2 h
        obtain ⟨h, h3⟩ := and2 h
        obtain ⟨h1, h2⟩ := and2 h
        obtain ⟨e, hg, hm⟩ := g.b1 h1 (by decide)
        obtain ⟨e2, hg2, hm2⟩ := g.b1 h2 (by decide)
        subst e e2
        exact pe_srtF g.calm hg hm hg2 hm2 ((iha en X g).v _ h4) (star1 h3)
      · cases h
    | _ =>
      refine PP.atom (fun e h => by cases e <;> first | rfl | cases h) fun e h => ?_
      try dsimp only [ok, b1N] at h
      split at h
      · obtain ⟨h, h3⟩ := and2 h
        obtain ⟨h1, h2⟩ := and2 h
        obtain ⟨e, hg, hm⟩ := g.b1 h1 (by decide)
        subst e
        have pv := (iha en X g).v _ h3
        first
          | exact pe_b1 call_lenA hg hm boot_len pv v1_len (by decide) (by decide) (star1 h2)
          | exact pe_b1 (cr_all g.calm) hg hm boot_all pv v1_all (by decide) (by decide) (star1 h2)
          | exact pe_b1 (cr_any g.calm) hg hm boot_any pv v1_any (by decide) (by decide) (star1 h2)
          | exact pe_t1 call_tuple_ofX hg hm boot_tuple pv v1_tuple (by decide) (by decide) (star1 h2)
          | exact pe_t1 (call_list_of.or (call_list_K g.calm)) hg hm boot_list pv v1_list (by decide) (by decide) (star1 h2)
          | exact pe_t1 (call_dictA g.calm) hg hm boot_dict pv v1_dictA (by decide) (by decide) (star1 h2)
          | exact pe_t1 call_int1 hg hm boot_int pv v1_int (by decide) (by decide) (star1 h2)
          | exact pe_b1 (cr_min g.calm) hg hm boot_min pv v1_min (by decide) (by decide) (star1 h2)
          | exact pe_b1 (cr_max g.calm) hg hm boot_max pv v1_max (by decide) (by decide) (star1 h2)
      · cases h
end
end E3
set_option Elab.async false
set_option linter.all false
set_option maxRecDepth 100000
set_option maxHeartbeats 4000000
/-! Which text a command stands for; it does what the command does. -/
namespace E3
open PySem PySem.Spec PyProof.Rows L2
structure OkC where
  s : Stmt → Bool
  l : List Stmt → Bool := fun _ => false
/-- [..] or {..} whose target stands in the same line -/
def swB (sc : Scope) (val : Expr) (x : Str) (px : Pos) : Bool := match val with
  | .ListComp _ _ s p => decide (sc.names.lookup x = some .local) && (px.line == p.line) && !(s.names.any fun (n, k) => n == x && (k == .local || k == .cell))
  | .SetComp _ _ s p => decide (sc.names.lookup x = some .local) && (px.line == p.line) && !(s.names.any fun (n, k) => n == x && (k == .local || k == .cell))
  | .DictComp _ _ _ s p => decide (sc.names.lookup x = some .local) && (px.line == p.line) && !(s.names.any fun (n, k) => n == x && (k == .local || k == .cell))
  | _ => false
def noComp : Expr → Bool
  | .ListComp .. => false
  | .SetComp .. => false
  | .DictComp .. => false
  | _ => true
def noTup : Expr → Bool
  | .Tuple .. => false
  | _ => true
def isComp : E3.E → Bool
  | .lc .. => true
  | .dc .. => true
  | .dk .. => true
  | .bor (.lc ..) => true
  | _ => false
def nmB (en : En) (i : Nat) (x : Str) : Bool := decide (en.N[i]? = some x) && locB en.sc x && (en.fn x || decide (en.sc.names.lookup x = some .local))
def okc : C → En → OkC
  | .skip, _ => { s := fun st => match st with | .Pass _ => true | .Expr (.Constant (.str _) _ _) _ => true | _ => false, l := fun sts => match sts with | [] => true | _ => false }
  | .seq a b, en => { s := fun _ => false, l := fun sts => match sts with | st :: r => (okc a en).s st && (okc b en).l r | _ => false }
  | .asg (.nm i) e, en => { s := fun st => match st with
    | .Assign [.Name x px] v p => nmB en i x && (ok e en).v v && (!(swB en.sc v x px) || (isComp e && decide (en.sc.names.lookup x = some .local)))
    | _ => false }
  | .asg t e, en => { s := fun st => match st with
    | .Assign [tg] v p => !t.isL && okT t en [tg] && (ok e en).v v && noTup v && noComp v && ok1 tg && (match tg with | .Tuple .. => true | _ => false)
    | _ => false }
  | .par i j a b, en => { s := fun st => match st with
    | .Assign [.Tuple [.Name x px, .Name y py] _ _] (.Tuple [u, v] _ _) p => decide (en.N[i]? = some x) && decide (en.N[j]? = some y) && decide (i ≠ j) && decide (en.sc.names.lookup x = some .local) && decide (en.sc.names.lookup y = some .local) &&
        (py.line == px.line) && !(x == y) && ok1 u && ok1 v && !(foldedForSure 8 u && foldedForSure 8 v) && !(constantsAlone 8 u && constantsAlone 8 v) && (ok a en).v u && (ok b en).v v || nmB en i x && nmB en j y && !(decide (en.sc.names.lookup x = some .local) && decide (en.sc.names.lookup y = some .local)) && ok1 u && ok1 v && (ok a en).v u && (ok b en).v v
    | _ => false }
  | .ret e, en => { s := fun st => match st with | .Return (some v) _ => (ok e en).v v | _ => false }
  | .retf e, en => { s := fun st => match st with | .Return (some v) _ => (ok e en).v v | _ => false }
  | .retn, _ => { s := fun st => match st with | .Return none _ => true | _ => false }
  | .ite c a b, en => { s := fun st => match st with | .If t x y _ => (ok c en).v t && (okc a en).l x && (okc b en).l y | _ => false }
  | .forr t it b, en => { s := fun st => match st with | .For tg y x [] _ => !t.isL && okT t en [tg] && ok1 y && (ok it en).i tg y && (okc b en).l x | _ => false }
  | .whl c b, en => { s := fun st => match st with | .While t x [] _ => (ok c en).v t && (okc b en).l x | _ => false }
  | .app i e, en => { s := fun st => match st with | .Expr (.Call (.Attribute (.Name x _) m q) [v] [] p) _ => slotB en i x && decide (m = "append") && (q.endLine == p.line) && ok1 v && (ok e en).v v | _ => false }
  | .ext i e, en => { s := fun st => match st with | .Expr (.Call (.Attribute (.Name x _) m q) [v] [] p) _ => slotB en i x && decide (m = "extend") && (q.endLine == p.line) && ok1 v && (ok e en).v v | _ => false }
  | .ins i e, en => { s := fun st => match st with | .Expr (.Call (.Attribute (.Name x _) m q) [.Constant (.int 0) _ _, v] [] p) _ => slotB en i x && decide (m = "insert") && (q.endLine == p.line) && ok1 v && (ok e en).v v | _ => false }
  | .setd i k e, en => { s := fun st => match st with | .Assign [.Subscript (.Name x _) y p1] v p2 => slotB en i x && (ok k en).v y && (ok e en).v v | _ => false }
  | .setr i k e, en => { s := fun st => match st with | .Assign [.Subscript (.Name x _) (.Constant (.int z) n q) p1] v p2 => slotB en i x && (ok k en).v (.Constant (.int z) n q) && (ok e en).v v && noTup v && noComp v | _ => false }
  | .never, _ => { s := fun _ => true }
  | .brk, _ => { s := fun st => match st with | .Break _ => true | _ => false }
  | .cont, _ => { s := fun st => match st with | .Continue _ => true | _ => false }
section
variable {X : Cx} {en : En} {F : Fn} {G : Nat → Option D}
theorem swaps_none {v : Expr} {t : Option Expr} {l : Nat} {env : Env} (h : noComp v = true) : swapsWith v t l env = pure false := by
  cases v <;> first | rfl | cases h
theorem swaps_sub {v : Expr} {o i : Expr} {p : Pos} {l : Nat} {env : Env} : swapsWith v (some (.Subscript o i p)) l env = pure false := by
  cases v <;> rfl
theorem stores_none {tg v : Expr} {env : Env} (h : noTup v = true) : swappedStores [tg] v env = pure none := by
  cases v <;> first | (cases tg <;> rfl) | cases h
theorem stores_sub {o i v : Expr} {p : Pos} {env : Env} : swappedStores [.Subscript o i p] v env = pure none := by
  cases v <;> rfl
theorem block_fn {env : Env} (h : env.scope.kind = .function) : env.blockKind = .function := by unfold Env.blockKind; rw [h]; rfl
theorem swaps_is {v : Expr} {x : Str} {px : Pos} {l : Nat} {env : Env} (hk : env.scope.kind = .function) : swapsWith v (some (.Name x px)) l env = pure (swB env.scope v x px) := by
  have hb := block_fn hk
  have he : ∀ k, (env.kindOf x == some k) = decide (env.scope.names.lookup x = some k) := fun k => by
    show (env.scope.names.lookup x == some k) = _
    by_cases h : env.scope.names.lookup x = some k
    · rw [h]; simp
    · rw [decide_eq_false h]; exact beq_eq_false_iff_ne.mpr h
  cases v <;> first
    | rfl
    | (unfold swapsWith swB
       simp only [hb, he]
       rfl)
structure GoodC (X : Cx) (en : En) (F : Fn) : Prop extends Good X en F where
  kd : X.env.scope.kind = .function
  xe : X.xe = fun _ _ => False
theorem GoodC.own (g : GoodC X en F) : PassesOwn (model X.prog X.w) X.A X.env X.xe := by rw [g.xe]; exact PassesOwn.never
theorem nm_ok (g : Good X en F) {i : Nat} {x : Str} (h : nmB en i x = true) : X.N.Nodup ∧ X.N[i]? = some x ∧ Loc X.env.scope x ∧ (X.fn x = true ∨ X.env.scope.names.lookup x = some .local) := by
  obtain ⟨h, h3⟩ := and2 h
  obtain ⟨h1, h2⟩ := and2 h
  rw [g.N, g.sc, g.fn]
  exact ⟨g.nd, of_decide_eq_true h1, loc_of h2, (Bool.or_eq_true_iff.mp h3).imp id fun z => of_decide_eq_true z⟩
theorem stores_two {x y : Str} {px py pt pt2 : Pos} {kt k2 : Nat} {a b : Expr} {env : Env} (hk : env.scope.kind = .function) (hx : env.scope.names.lookup x = some .local) (hy : env.scope.names.lookup y = some .local) (hl : (py.line == px.line) = true) (hn : (x == y) = false)
    (ha : ok1 a = true) (hb : ok1 b = true) (hf : (foldedForSure 8 a && foldedForSure 8 b) = false) (hc : (constantsAlone 8 a && constantsAlone 8 b) = false) :
    swappedStores [.Tuple [.Name x px, .Name y py] kt pt] (.Tuple [a, b] k2 pt2) env = pure (some [x, y]) := by
  have hB := block_fn hk
  have kx : env.kindOf x = some .local := hx
  have ky : env.kindOf y = some .local := hy
  have st : ∀ e : Expr, ok1 e = true → (match e with | .Starred .. => true | _ => false) = false := fun e h => by cases e <;> first | rfl | cases h
  have sa := st a ha
  have sb := st b hb
  have hl' : py.line = px.line := eq_of_beq hl
  have ed : ([x, y] : List Str).eraseDups = [x, y] := by
    have : (y == x) = false := by
      rw [beq_eq_false_iff_ne] at hn ⊢
      exact fun e => hn e.symm
    simp [List.eraseDups_cons, this]
  have fl : ([Expr.Name x px, .Name y py].filterMap fun
    | .Name id pos => if env.kindOf id == some .local && pos.line == px.line then some id else none
    | _ => none) = [x, y] := by
    simp [kx, ky, hl']
  unfold swappedStores
  simp only [List.length_cons, List.length_nil, hB, List.any_cons, List.any_nil, List.all_cons, List.all_nil, Bool.and_true, sa, sb, hf, hc, List.head?_cons, Option.map_some, Option.getD_some]
  simp [kx, ky, hl', ed, Expr.pos, hf, hc]
  intro h
  rcases h with h | h
  · exfalso
    cases a <;> first | (cases ha; done) | (cases h; done)
  · exfalso
    cases b <;> first | (cases hb; done) | (cases h; done)
theorem stores_free {x y : Str} {px py pt pt2 : Pos} {kt k2 : Nat} {a b : Expr} {env : Env} (hx : ¬ (env.scope.names.lookup x = some .local ∧ env.scope.names.lookup y = some .local)) (ha : ok1 a = true) (hb : ok1 b = true) :
    swappedStores [.Tuple [.Name x px, .Name y py] kt pt] (.Tuple [a, b] k2 pt2) env = pure none := by
  have kx : env.kindOf x = env.scope.names.lookup x := rfl
  have ky : env.kindOf y = env.scope.names.lookup y := rfl
  have ln : ([Expr.Name x px, .Name y py].filterMap fun
    | .Name id pos => if env.kindOf id == some .local && pos.line == px.line then some id else none
    | _ => none).length ≠ 2 := by
    rw [List.filterMap_cons, List.filterMap_cons]
    by_cases h1 : env.scope.names.lookup x = some .local
    · have h2 : env.scope.names.lookup y ≠ some .local := fun h => hx ⟨h1, h⟩
      simp [kx, ky, h1, h2]
    · simp only [kx, ky]
      split
      · rename_i e
        have : (env.scope.names.lookup x == some NameKind.local) = false := beq_eq_false_iff_ne.mpr h1
        split <;> simp
      · rename_i e
        have : (env.scope.names.lookup x == some NameKind.local) = false := beq_eq_false_iff_ne.mpr h1
        rw [this] at e
        simp at e
  unfold swappedStores
  simp only [List.length_cons, List.length_nil, List.head?_cons, Option.map_some, Option.getD_some, Expr.pos]
  split
  · rfl
  · split
    · rfl
    · refine if_pos ?_
      rw [Bool.or_eq_true]
      left
      rw [bne_iff_ne]
      exact ln
/-! ### name = [..] in one line -/
theorem ps_setDc {i : Nat} {y : Str} {py : Pos} {kx vx tg iter : Expr} {ifs : List Expr} {scope : Scope} {own : List (Str × Nat)} {pos spos : Pos} {wi : TI} {g : TG} {tt : TT} {tk tv : TE} (hc : X.calm = true) (hN : X.N.Nodup) (hy : X.N[i]? = some y) (hyl : X.env.scope.names.lookup y = some .local)
    (hsw : swapsWith (.DictComp kx vx [⟨tg, iter, ifs, 0⟩] scope pos) (some (.Name y py)) spos.line X.env = pure true) (hi : PI X tg iter wi) (ok : BlkOk X.N X.env.scope scope own)
    (hg : ∀ (s : Shared) (H : Hp) (C : Addr) (cl : List (Str × Addr)) (fp : List Addr), PG (X.blk s H scope (compEnvC scope cl C X.env) fp) tg g) (ht : ∀ (s : Shared) (H : Hp) (C : Addr) (cl : List (Str × Addr)) (fp : List Addr), PTs (X.blk s H scope (compEnvC scope cl C X.env) fp) ifs tt)
    (hk : ∀ (s : Shared) (H : Hp) (C : Addr) (cl : List (Str × Addr)) (fp : List Addr), PE (X.blk s H scope (compEnvC scope cl C X.env) fp) kx tk)
    (he : ∀ (s : Shared) (H : Hp) (C : Addr) (cl : List (Str × Addr)) (fp : List Addr), PE (X.blk s H scope (compEnvC scope cl C X.env) fp) vx tv) (hs : ∀ x, foldedSetIterable iter X.env x = pure x) :
    PS X (.Assign [.Name y py] (.DictComp kx vx [⟨tg, iter, ifs, 0⟩] scope pos) spos) (tAsg (tDc wi g tt tk tv (own.map (·.2))) (gName i)) := by
  refine ⟨fun pins s σ H D I h => ?_⟩
  rw [exec_Assign_Name_used _ _ _ _ hsw]
  refine wpAny_bind (wpAny_standAt (wpAny_bind ?_))
  show wpAny _ X.A (do let _ ← comprehension (.DictComp kx vx [⟨tg, iter, ifs, 0⟩] scope pos) scope X.env (firstIterPos [⟨tg, iter, ifs, 0⟩] pos) newDict false (eval iter X.env) (some (assign (.Name y py) X.env))) _ _ s
  have h : tDc wi g tt tk tv (own.map (·.2)) σ H (fun x H1 => gName i x σ H1 D.nx) := h
  refine wpAny_bind (thn (dc_core (Qf := fun _ s' => SP X pins D .next s') hc hN I hi ok hg ht hk he hs h fun L C s' m H' I' q hn f => ?_) fun _ s' hq => wpAny_pure (wpAny_pure hq))
  show wpAny _ _ (assign (.Name y py) X.env (.ref L)) _ _ _
  refine wpAny_assign_Name (store_ok2 (v := V.ref L) I' hN hy (.inl hyl) rfl (fun s2 I2 ⟨a, sb, ha⟩ => ?_) (.inr hyl))
  obtain ⟨f0, f1, f2, f3, f4, f5⟩ := f
  have haC : C ≠ a := by
    rcases ha with z | z
    · rw [z]; exact f1
    · exact fun e => f4 y a z e.symm
  refine ⟨m, hn.sameBut sb haC, fun h3 sb3 => ?_⟩
  exact ⟨_, H', I2.turned (t' := s2.toks) (fun b o hb e => (sb3.2 b hb).trans e) f0 f1 f3 f4 f5, q⟩
end
end E3
set_option Elab.async false
set_option linter.all false
set_option maxRecDepth 100000
set_option maxHeartbeats 4000000
/-! The commands do what they stand for; a def's promise. -/
namespace E3
open PySem PySem.Spec PyProof.Rows L2
section
variable {X : Cx} {en : En} (G : Nat → Option D) (F : Fn)
theorem sole_none {v t : Expr} {l : Nat} {env : Env} (h : noComp v = true) : swapsWithSole [t] v l env = pure false := swaps_none (t := some t) (l := l) (env := env) h
theorem not_t {b : Bool} (h : (!b) = true) : b = false := by cases b <;> first | rfl | cases h
theorem asg_comp (e : E3.E) (en : En) (X : Cx) (g : GoodC X en F) {i : Nat} {x : Str} {px p : Pos} {v : Expr} (hn : nmB en i x = true) (hl : en.sc.names.lookup x = some .local) (hc : isComp e = true) (hv : (ok e en).v v = true) (hsw : swB en.sc v x px = true) :
    PS X (.Assign [.Name x px] v p) (tS X.K fun s => nxS (asgF i (sm G F e).v s)) := by
  obtain ⟨h1, h2, h3, h4⟩ := nm_ok g.toGood hn
  have hsw' : swapsWith v (some (.Name x px)) p.line X.env = pure true := by rw [swaps_is g.kd, g.sc, hsw]
  have hl' : X.env.scope.names.lookup x = some .local := by rw [g.sc]; exact hl
  cases e with
  | lc own tg it cd el =>
    try dsimp only [ok] at hv
    split at hv
    · rename_i z t y ifs scope pos
      obtain ⟨h, h7⟩ := and2 hv
      obtain ⟨h, h6⟩ := and2 h
      obtain ⟨h, h5⟩ := and2 h
      obtain ⟨h, a4⟩ := and2 h
      obtain ⟨h, a3⟩ := and2 h
      obtain ⟨a1, a2⟩ := and2 h
      have base := ps_setLc (g := tT X.K tg) (tt := tET X.K (sm G F cd).c) (te := tE X.K (sm G F el).v) g.calm h1 h2 hl' hsw' ((ppE G F it en X g.toGood).i t y a2) (g.blkOk a3) (fun s H C cl fp => pg_one (g.blk scope s H C cl fp) h5)
        (fun s H C cl fp => (ppE G F cd _ _ (g.blk scope s H C cl fp)).c ifs h6) (fun s H C cl fp => (ppE G F el _ _ (g.blk scope s H C cl fp)).v z h7) fun x => folded1 a1
      exact PS.imp base fun D σ H q => lc_imp (own_all a4) σ H _ (asg_imp D σ H q)
    · cases hv
  | dc own tg it cd ky el =>
    try dsimp only [ok] at hv
    split at hv
    · rename_i k z t y ifs scope pos
      obtain ⟨h, h8⟩ := and2 hv
      obtain ⟨h, h7⟩ := and2 h
      obtain ⟨h, h6⟩ := and2 h
      obtain ⟨h, h5⟩ := and2 h
      obtain ⟨h, a4⟩ := and2 h
      obtain ⟨h, a3⟩ := and2 h
      obtain ⟨a1, a2⟩ := and2 h
      have base := ps_setDc (g := tT X.K tg) (tt := tET X.K (sm G F cd).c) (tk := tE X.K (sm G F ky).v) (tv := tE X.K (sm G F el).v) g.calm h1 h2 hl' hsw' ((ppE G F it en X g.toGood).i t y a2) (g.blkOk a3) (fun s H C cl fp => pg_one (g.blk scope s H C cl fp) h5)
        (fun s H C cl fp => (ppE G F cd _ _ (g.blk scope s H C cl fp)).c ifs h6) (fun s H C cl fp => (ppE G F ky _ _ (g.blk scope s H C cl fp)).v k h7) (fun s H C cl fp => (ppE G F el _ _ (g.blk scope s H C cl fp)).v z h8) fun x => folded1 a1
      exact PS.imp base fun D σ H q => dc_imp (own_all a4) σ H _ (asg_imp D σ H q)
    · cases hv
  | dk own j k cd ky el =>
    try dsimp only [ok] at hv
    split at hv
    · rename_i kk z t y p2 ifs scope pos
      obtain ⟨h, h8⟩ := and2 hv
      obtain ⟨h, h7⟩ := and2 h
      obtain ⟨h, h6⟩ := and2 h
      obtain ⟨h, h5⟩ := and2 h
      obtain ⟨h, a4⟩ := and2 h
      obtain ⟨a2, a3⟩ := and2 h
      obtain ⟨b1, b2, b3, b4⟩ := g.slot a2
      have base := ps_setDc (g := tT X.K (.nm j)) (tt := tET X.K (sm G F cd).c) (tk := tE X.K (sm G F ky).v) (tv := tE X.K (sm G F el).v) g.calm h1 h2 hl' hsw' (pi_keys (tg := t) (pe_var (pos := p2) b1 b2 b3 b4)) (g.blkOk a3) (fun s H C cl fp => pg_one (g.blk scope s H C cl fp) h5)
        (fun s H C cl fp => (ppE G F cd _ _ (g.blk scope s H C cl fp)).c ifs h6) (fun s H C cl fp => (ppE G F ky _ _ (g.blk scope s H C cl fp)).v kk h7) (fun s H C cl fp => (ppE G F el _ _ (g.blk scope s H C cl fp)).v z h8) fun x => rfl
      refine ⟨fun pins s σ H D I q => ?_⟩
      rcases dk_imp (of_decide_eq_true a4) σ H _ (asg_imp D σ H q) with q1 | q1
      · exact base.run pins s σ H D I q1
      · exact (ps_lock base).run pins s σ H D I q1
    · cases hv
  | bor e =>
    cases e with
    | lc own tg it cd el =>
      replace hv := (and2 hv).2
      try dsimp only [ok] at hv
      split at hv
      · rename_i z t y ifs scope pos
        obtain ⟨h, h7⟩ := and2 hv
        obtain ⟨h, h6⟩ := and2 h
        obtain ⟨h, h5⟩ := and2 h
        obtain ⟨h, a4⟩ := and2 h
        obtain ⟨h, a3⟩ := and2 h
        obtain ⟨a1, a2⟩ := and2 h
        have base := ps_setLc (g := tT X.K tg) (tt := tET X.K (sm G F cd).c) (te := tE X.K (sm G F el).v) g.calm h1 h2 hl' hsw' ((ppE G F it en X g.toGood).i t y a2) (g.blkOk a3) (fun s H C cl fp => pg_one (g.blk scope s H C cl fp) h5)
          (fun s H C cl fp => (ppE G F cd _ _ (g.blk scope s H C cl fp)).c ifs h6) (fun s H C cl fp => (ppE G F el _ _ (g.blk scope s H C cl fp)).v z h7) fun x => folded1 a1
        exact PS.imp base fun D σ H q => lc_imp (own_all a4) σ H _ (bor_imp σ H _ (asg_imp D σ H q))
      · cases hv
    | _ => cases hc
  | _ => cases hc
theorem ppC : ∀ (c : C) (en : En) (X : Cx), GoodC X en F → (∀ st, (okc c en).s st = true → PS X st (tS X.K (cm G F c))) ∧ (∀ sts, (okc c en).l sts = true → PSs X sts (tS X.K (cm G F c))) := by
  intro c
  induction c with
  | skip =>
    intro en X g
    refine ⟨fun st h => ?_, fun sts h => ?_⟩
    · try dsimp only [okc] at h
      split at h
      · exact ps_passC
      · exact PS.imp ps_doc fun D σ H ⟨Z, ι, s, o, R, hf, hq⟩ => by
          cases hf
          exact hq σ H Z ι (Stp.refl R)
      · cases h
    · cases sts with
      | nil => exact pss_nilC
      | cons _ _ => cases h
  | seq a b iha ihb =>
    intro en X g
    refine ⟨fun st h => (by cases h), fun sts h => ?_⟩
    cases sts with
    | nil => cases h
    | cons st r =>
      obtain ⟨h1, h2⟩ := and2 (show ((okc a en).s st && (okc b en).l r) = true from h)
      exact pss_consC ((iha en X g).1 st h1) ((ihb en X g).2 r h2)
  | asg t e =>
    intro en X g
    have tup : ∀ r, t = .tp r → ∀ st, (okc (.asg t e) en).s st = true → PS X st (tS X.K (cm G F (.asg t e))) := fun r er st h => by
      subst er
      try dsimp only [okc] at h
      split at h
      · rename_i tg v p
        obtain ⟨h, h7⟩ := and2 h
        obtain ⟨h, h6⟩ := and2 h
        obtain ⟨h, h5⟩ := and2 h
        obtain ⟨h, h4⟩ := and2 h
        obtain ⟨h, h3⟩ := and2 h
        have pv := (ppE G F e en X g.toGood).v v h3
        have pg := pg_one g.toGood h
        refine PS.imp (ps_asg pv pg (swaps_none h5) (stores_none h4) ?_) fun D σ H q => tpl_imp D σ H q
        cases tg <;> first | rfl | cases h6
      · cases h
    cases t with
    | nm i =>
      refine ⟨fun st h => ?_, fun sts h => (by cases h)⟩
      try dsimp only [okc] at h
      split at h
      · rename_i x px v p
        obtain ⟨h, h3⟩ := and2 h
        obtain ⟨h1, h2⟩ := and2 h
        rcases Bool.or_eq_true_iff.mp h3 with h3 | h3
        · obtain ⟨a1, a2, a3, a4⟩ := nm_ok g.toGood h1
          have hs : swapsWith v (some (.Name x px)) p.line X.env = pure false := by
            rw [swaps_is g.kd, g.sc]
            have : swB en.sc v x px = false := by simpa using h3
            rw [this]
          exact PS.imp (ps_set a1 a2 a3 ((ppE G F e en X g.toGood).v v h2) hs a4) fun D σ H q => asg_imp D σ H q
        · obtain ⟨h3, h4⟩ := and2 h3
          cases hs : swB en.sc v x px with
          | true => exact asg_comp G F e en X g h1 (of_decide_eq_true h4) h3 h2 hs
          | false =>
            obtain ⟨a1, a2, a3, a4⟩ := nm_ok g.toGood h1
            have hs : swapsWith v (some (.Name x px)) p.line X.env = pure false := by rw [swaps_is g.kd, g.sc, hs]
            exact PS.imp (ps_set a1 a2 a3 ((ppE G F e en X g.toGood).v v h2) hs a4) fun D σ H q => asg_imp D σ H q
      · cases h
    | tp r => exact ⟨tup r rfl, fun sts h => (by cases h)⟩
    | nil =>
      refine ⟨fun st h => ?_, fun sts h => (by cases h)⟩
      try dsimp only [okc] at h
      split at h
      · simp [Tn.isL] at h
      · cases h
    | cons a r =>
      refine ⟨fun st h => ?_, fun sts h => (by cases h)⟩
      try dsimp only [okc] at h
      split at h
      · simp [Tn.isL] at h
      · cases h
  | par i j a b =>
    intro en X g
    refine ⟨fun st h => ?_, fun sts h => (by cases h)⟩
    try dsimp only [okc] at h
    split at h
    · rename_i x px y py _ _ u v _ _ p
      rcases Bool.or_eq_true_iff.mp h with h | h
      · skip
        obtain ⟨h, k13⟩ := and2 h
        obtain ⟨h, k12⟩ := and2 h
        obtain ⟨h, k11⟩ := and2 h
        obtain ⟨h, k10⟩ := and2 h
        obtain ⟨h, k9⟩ := and2 h
        obtain ⟨h, k8⟩ := and2 h
        obtain ⟨h, k7⟩ := and2 h
        obtain ⟨h, k6⟩ := and2 h
        obtain ⟨h, k5⟩ := and2 h
        obtain ⟨h, k4⟩ := and2 h
        obtain ⟨h, k3⟩ := and2 h
        obtain ⟨k1, k2⟩ := and2 h
        have hx : X.env.scope.names.lookup x = some .local := by rw [g.sc]; exact of_decide_eq_true k4
        have hy : X.env.scope.names.lookup y = some .local := by rw [g.sc]; exact of_decide_eq_true k5
        refine PS.imp (ps_par g.calm (by rw [g.N]; exact g.nd) (by rw [g.N]; exact of_decide_eq_true k1) (by rw [g.N]; exact of_decide_eq_true k2) (of_decide_eq_true k3) hx hy
          (pa_two ((ppE G F a en X g.toGood).v u k12) ((ppE G F b en X g.toGood).v v k13) (by rw [star1 k8, star1 k9]; rfl) (star1 k9))
          (stores_two g.kd hx hy k6 (by simpa using k7) k8 k9 (not_t k10) (not_t k11)) rfl) fun D σ H q => par_imp D σ H q
      · obtain ⟨h, k7⟩ := and2 h
        obtain ⟨h, k6⟩ := and2 h
        obtain ⟨h, k5⟩ := and2 h
        obtain ⟨h, k4⟩ := and2 h
        obtain ⟨h, k3⟩ := and2 h
        obtain ⟨k1, k2⟩ := and2 h
        obtain ⟨a1, a2, a3, a4⟩ := nm_ok g.toGood k1
        obtain ⟨b1, b2, b3, b4⟩ := nm_ok g.toGood k2
        have hx : ¬ (X.env.scope.names.lookup x = some .local ∧ X.env.scope.names.lookup y = some .local) := fun ⟨q1, q2⟩ => by
          rw [g.sc] at q1 q2
          have := not_t k3
          rw [decide_eq_true q1, decide_eq_true q2] at this
          cases this
        refine PS.imp (ps_asg (pe_tupX (pa_two ((ppE G F a en X g.toGood).v u k6) ((ppE G F b en X g.toGood).v v k7) (by rw [star1 k4, star1 k5]; rfl) (star1 k5)))
          (pg_tup g.calm (pgs_cons (pg_name a1 a2 a3 a4) (pgs_cons (pg_name b1 b2 b3 b4) pgs_nil))) rfl (stores_free hx k4 k5)) fun D σ H q => parT_imp D σ H q
    · cases h
  | ret e =>
    intro en X g
    refine ⟨fun st h => ?_, fun sts h => (by cases h)⟩
    try dsimp only [okc] at h
    split at h
    · exact ps_retC ((ppE G F e en X g.toGood).v _ h)
    · cases h
  | retf e =>
    intro en X g
    refine ⟨fun st h => ?_, fun sts h => (by cases h)⟩
    try dsimp only [okc] at h
    split at h
    · exact ps_retfC ((ppE G F e en X g.toGood).v _ h)
    · cases h
  | retn =>
    intro en X g
    refine ⟨fun st h => ?_, fun sts h => (by cases h)⟩
    try dsimp only [okc] at h
    split at h
    · exact ps_retnC
    · cases h
  | ite c a b iha ihb =>
    intro en X g
    refine ⟨fun st h => ?_, fun sts h => (by cases h)⟩
    try dsimp only [okc] at h
    split at h
    · obtain ⟨h, h3⟩ := and2 h
      obtain ⟨h1, h2⟩ := and2 h
      exact ps_ifC ((ppE G F c en X g.toGood).t _ h1) ((iha en X g).2 _ h2) ((ihb en X g).2 _ h3)
    · cases h
  | forr t it b ihb =>
    intro en X g
    refine ⟨fun st h => ?_, fun sts h => (by cases h)⟩
    try dsimp only [okc] at h
    split at h
    · obtain ⟨h, h4⟩ := and2 h
      obtain ⟨h, h3⟩ := and2 h
      obtain ⟨h1, h2⟩ := and2 h
      exact ps_forC g.own g.calm ((ppE G F it en X g.toGood).i _ _ h3) (pg_one g.toGood h1) ((ihb en X g).2 _ h4) fun x => folded1 h2
    · cases h
  | whl c b ihb =>
    intro en X g
    refine ⟨fun st h => ?_, fun sts h => (by cases h)⟩
    try dsimp only [okc] at h
    split at h
    · obtain ⟨h1, h2⟩ := and2 h
      exact ps_whlC g.own ((ppE G F c en X g.toGood).t _ h1) ((ihb en X g).2 _ h2)
    · cases h
  | app i e =>
    intro en X g
    refine ⟨fun st h => ?_, fun sts h => (by cases h)⟩
    try dsimp only [okc] at h
    split at h
    · obtain ⟨h, h5⟩ := and2 h
      obtain ⟨h, h4⟩ := and2 h
      obtain ⟨h, h3⟩ := and2 h
      obtain ⟨h1, h2⟩ := and2 h
      obtain ⟨a1, a2, a3, a4⟩ := g.slot h1
      have em := of_decide_eq_true h2
      subst em
      exact ps_appC a1 a2 a3 a4 ((ppE G F e en X g.toGood).v _ h5) h3 (star1 h4)
    · cases h
  | ext i e =>
    intro en X g
    refine ⟨fun st h => ?_, fun sts h => (by cases h)⟩
    try dsimp only [okc] at h
    split at h
    · obtain ⟨h, h5⟩ := and2 h
      obtain ⟨h, h4⟩ := and2 h
      obtain ⟨h, h3⟩ := and2 h
      obtain ⟨h1, h2⟩ := and2 h
      obtain ⟨a1, a2, a3, a4⟩ := g.slot h1
      have em := of_decide_eq_true h2
      subst em
      exact ps_extC a1 a2 a3 a4 ((ppE G F e en X g.toGood).v _ h5) h3 (star1 h4)
    · cases h
  | ins i e =>
    intro en X g
    refine ⟨fun st h => ?_, fun sts h => (by cases h)⟩
    try dsimp only [okc] at h
    split at h
    · obtain ⟨h, h5⟩ := and2 h
      obtain ⟨h, h4⟩ := and2 h
      obtain ⟨h, h3⟩ := and2 h
      obtain ⟨h1, h2⟩ := and2 h
      obtain ⟨a1, a2, a3, a4⟩ := g.slot h1
      have em := of_decide_eq_true h2
      subst em
      exact ps_insC a1 a2 a3 a4 ((ppE G F e en X g.toGood).v _ h5) h3 (by rw [star1 rfl, star1 h4]; rfl) (star1 h4)
    · cases h
  | setd i k e =>
    intro en X g
    refine ⟨fun st h => ?_, fun sts h => (by cases h)⟩
    try dsimp only [okc] at h
    split at h
    · obtain ⟨h, h4⟩ := and2 h
      obtain ⟨h, h3⟩ := and2 h
      obtain ⟨a1, a2, a3, a4⟩ := g.slot h
      have hu := g.hu
      exact ps_setdC (by omega) a1 a2 a3 a4 ((ppE G F k en X g.toGood).v _ h3) ((ppE G F e en X g.toGood).v _ h4) swaps_sub
    · cases h
  | setr i k e =>
    intro en X g
    refine ⟨fun st h => ?_, fun sts h => (by cases h)⟩
    try dsimp only [okc] at h
    split at h
    · obtain ⟨h, h6⟩ := and2 h
      obtain ⟨h, h5⟩ := and2 h
      obtain ⟨h, h4⟩ := and2 h
      obtain ⟨h, h3⟩ := and2 h
      obtain ⟨a1, a2, a3, a4⟩ := g.slot h
      exact ps_setrC a1 a2 a3 a4 ((ppE G F k en X g.toGood).v _ h3) ((ppE G F e en X g.toGood).v _ h4) (sole_none h6) (stores_none h5)
    · cases h
  | never => intro en X g; exact ⟨fun st h => ps_neverC, fun sts h => (by cases h)⟩
  | brk =>
    intro en X g
    refine ⟨fun st h => ?_, fun sts h => (by cases h)⟩
    try dsimp only [okc] at h
    split at h
    · exact ps_brkC
    · cases h
  | cont =>
    intro en X g
    refine ⟨fun st h => ?_, fun sts h => (by cases h)⟩
    try dsimp only [okc] at h
    split at h
    · exact ps_contC
    · cases h
end
end E3
set_option Elab.async false
set_option linter.all false
set_option maxRecDepth 100000
set_option maxHeartbeats 4000000
namespace E3
open PySem PySem.Spec PyProof.Rows L2
theorem zip_lookup : ∀ {ps : List Str} {us : List Value}, ps.Nodup → us.length = ps.length → ps.filterMap (fun n => ((ps.zip us).lookup n).map (n, ·)) = ps.zip us
  | [], [], _, _ => rfl
  | [], _ :: _, _, h => by cases h
  | _ :: _, [], _, h => by cases h
  | p :: ps, u :: us, hn, hl => by
    obtain ⟨h1, h2⟩ := List.nodup_cons.mp hn
    have e : ((p :: ps).zip (u :: us)).lookup p = some u := by simp [List.lookup_cons]
    rw [List.filterMap_cons, e]
    show (p, u) :: ps.filterMap _ = (p, u) :: ps.zip us
    congr 1
    rw [← zip_lookup (us := us) h2 (by simpa using hl)]
    have cg : ∀ (l : List Str) (f g : Str → Option (Str × Value)), (∀ m ∈ l, f m = g m) → l.filterMap f = l.filterMap g := by
      intro l f g h
      induction l with
      | nil => rfl
      | cons a l ih => rw [List.filterMap_cons, List.filterMap_cons, h a List.mem_cons_self, ih fun m hm => h m (List.mem_cons_of_mem _ hm)]
    refine cg _ _ _ fun m hm => ?_
    have : (m == p) = false := beq_eq_false_iff_ne.mpr fun e => h1 (e ▸ hm)
    have e2 : ((p :: ps).zip (u :: us)).lookup m = (ps.zip us).lookup m := by simp [List.lookup_cons, this]
    rw [e2]
theorem zip_some : ∀ {ps : List Str} {us : List Value}, us.length = ps.length → ∀ n ∈ ps, ((ps.zip us).lookup n).isNone = false
  | [], _, _, n, h => by cases h
  | _ :: _, [], h, _, _ => by cases h
  | p :: ps, u :: us, hl, n, h => by
    by_cases e : n = p
    · subst e; simp [List.lookup_cons]
    · have : (n == p) = false := beq_eq_false_iff_ne.mpr e
      have hm : n ∈ ps := by
        rcases List.mem_cons.mp h with q | q
        · exact absurd q e
        · exact q
      have := zip_some (us := us) (by simpa using hl) n hm
      simpa [List.lookup_cons, *] using this
theorem bind_plain {x qual : Str} {params : Arguments} {body : List Stmt} {scope : Scope} {kV doc pm cdv ct : Value} {an : Option Addr} {us : List Value} (hp : params.posonlyargs = []) (hv : params.vararg = none) (hk : params.kwonlyargs = []) (hw : params.kwarg = none)
    (hn : (params.args.map (·.arg)).Nodup) (hl : us.length = params.args.length) : bindArgs (PySem.W.fnOf x qual params body scope .none kV doc pm an cdv ct) ⟨us, []⟩ = pure ((params.args.map (·.arg)).zip us) := by
  have hl' : us.length = (params.args.map (·.arg)).length := by rw [List.length_map]; exact hl
  have m : ((params.args.map (·.arg)).filter fun n => (((params.args.map (·.arg)).zip us).lookup n).isNone) = [] := by
    rw [List.filter_eq_nil_iff]
    intro n hn2
    rw [zip_some hl' n hn2]
    exact Bool.false_ne_true
  have z := zip_lookup hn hl'
  have sq : seqItems? Value.none = pure (f := Sem) none := rfl
  unfold bindArgs
  simp only [PySem.W.fnOf, hp, hk, List.map_nil, List.nil_append, List.append_nil]
  rw [sq]
  generalize params.args.map (·.arg) = P at *
  have t0 : List.take (P.length - (List.drop ((#[] : Array Value).toList.length - P.length) (#[] : Array Value).toList).length) P = P := by simp
  have t1 : List.take (P.length - (List.drop ((#[] : Array Value).size - P.length) ([] : List Value)).length) P = P := by simp
  simp [hv, hw, hl', m, z, t0, t1]
/-! ### a table of defs -/
structure Fd where
  nm : Str
  N : List Str
  np : Nat
  rb : Bool
  body : C
def bodyF (G : Nat → Option D) (F : Fn) (d : Fd) : FnD := fun ds mh =>
  if ds.length = d.np then
    match cm G F d.body ⟨ds.map (fun x => some (x, false)) ++ List.replicate (d.N.length - d.np) none, mh⟩ with
    | some (.nx s) => if d.rb then none else some (.non, s.mh)
    | some (.rt r s) => if d.rb then none else some (r, s.mh)
    | some (.rf r s) => if d.rb then some (r, s.mh) else none
    | _ => none
  else none
/-- the table, k calls deep -/
def evF (G : Nat → Option D) (T : List Fd) : Nat → Fn
  | 0 => fun _ _ _ => none
  | k + 1 => fun j ds mh => (T[j]?).bind fun d => bodyF G (evF G T k) d ds mh
def prmOk (p : Arguments) (ps : List Str) : Bool := p.posonlyargs.isEmpty && p.vararg.isNone && p.kwonlyargs.isEmpty && p.kwarg.isNone && decide (p.args.map (·.arg) = ps)
def ftOf (T : List Fd) : List (Str × Nat × Bool) := T.map fun d => (d.nm, d.np, d.rb)
def fdOk (ft : List (Str × Nat × Bool)) (dd : He.DefD) (d : Fd) : Bool := decide (dd.name = d.nm) && decide (dd.at_ = (d.nm, none)) && dd.dfl.isEmpty && dd.kwd.isEmpty && prmOk dd.params (d.N.take d.np) && decide (d.np ≤ d.N.length) &&
  C8.scC d.N (d.N.take d.np) dd.scope && (okc d.body ⟨d.N, dd.scope, fun _ => true, ft⟩).l dd.body
theorem empty_of {α : Type} {l : List α} (h : l.isEmpty = true) : l = [] := List.isEmpty_iff.mp h
theorem none_of {α : Type} {l : Option α} (h : l.isNone = true) : l = none := Option.isNone_iff_eq_none.mp h
section
variable {P : Program} {w : World} {K : PySem.W.Frag} {mg : Str → Option Value} {G : Nat → Option D} {T : List Fd}
theorem start_ok {N : List Str} {np : Nat} {vs : List V} {ds : List D} {mh : List (List D)} {H : Hp} {Z : Addr → Prop} {ι : List Addr} (R : SR K H Z ι [] ⟨[], mh⟩) (r : Rels K H Z ι vs ds) (hl : ds.length = np) :
    SR K H Z ι (start N vs) ⟨ds.map (fun x => some (x, false)) ++ List.replicate (N.length - np) none, mh⟩ := by
  have hv : vs.length = np := by rw [r.length, hl]
  have get : ∀ (i : Nat) x, (ds.map (fun x => some (x, false)) ++ List.replicate (N.length - np) none)[i]? = some (some x) → ∃ d, ds[i]? = some d ∧ x = (d, false) := fun i x e => by
    by_cases hi : i < ds.length
    · rw [List.getElem?_append_left (by simpa using hi), List.getElem?_map] at e
      obtain ⟨d, h1, h2⟩ := Option.map_eq_some_iff.mp e
      cases h2
      exact ⟨d, h1, rfl⟩
    · rw [List.getElem?_append_right (by simpa using Nat.le_of_not_lt hi)] at e
      have := List.mem_of_getElem? e
      have := List.eq_of_mem_replicate this
      cases this
  refine ⟨?_, fun i d e => ?_, fun i d e => ?_, fun i j d d' x e => ?_, R.il, R.mh, R.nd, R.zd⟩
  · show (vs.map some ++ List.replicate (N.length - vs.length) none).length = _
    simp [hv, hl]
  · obtain ⟨d', h1, h2⟩ := get i _ e
    cases h2
    obtain ⟨v, h3, h4⟩ := r.get h1
    refine ⟨v, ?_, h4⟩
    show (vs.map some ++ _)[i]? = _
    rw [List.getElem?_append_left (by rw [List.length_map]; exact (List.getElem?_eq_some_iff.mp h3).1), List.getElem?_map, h3]
    rfl
  · obtain ⟨d', _, h2⟩ := get i _ e
    cases h2
  · obtain ⟨d', _, h2⟩ := get i _ e
    cases h2
theorem evF_len {k j : Nat} {d : Fd} (hd : T[j]? = some d) {ds : List D} {mh : List (List D)} {r : D × List (List D)} (h : evF G T k j ds mh = some r) : ds.length = d.np := by
  cases k with
  | zero => cases h
  | succ k =>
    have h' : (T[j]?).bind (fun d => bodyF G (evF G T k) d ds mh) = some r := h
    rw [hd] at h'
    have h2 : bodyF G (evF G T k) d ds mh = some r := h'
    unfold bodyF at h2
    split at h2
    · assumption
    · cases h2
/-- the table's promises, k calls deep -/
theorem evOk {fn : List He.DefD} (hT : fn.length = T.length) (hall : ∀ (i : Nat) dd d, fn[i]? = some dd → T[i]? = some d → fdOk (ftOf T) dd d = true)
    (hF : ∀ (i : Nat) dd, fn[i]? = some dd → ∃ fd, FunD K dd.name dd.qual dd.params dd.body dd.scope (dd.dvs K) (dd.kws K) (He.fAd K dd.at_) fd)
    (hM : ∀ (i : Nat) d, T[i]? = some d → mg d.nm = some (.ref (He.ga K d.nm))) (hB : ∀ x ∈ bnames, mg x = none) :
    ∀ (k j : Nat) (d : Fd), T[j]? = some d → ∃ fd ps, ps.length = d.np ∧ ps = d.N.take d.np ∧ (∀ base : Heap, FnOk P w K mg base CX0 k (He.ga K d.nm) fd ps (spB d.rb K ps.length (evF G T k j))) ∧ PySem.W.keepIn K (.ref (He.ga K d.nm)) = true ∧ Binds K fd ps [] ∧
      ∀ (s : Shared) (us : List Value), us.length = ps.length → BindsTo s fd ⟨us, []⟩ (ps.zip us) := by
  intro k
  induction k with
  | zero =>
    intro j d hd
    have hj : j < fn.length := by rw [hT]; exact (List.getElem?_eq_some_iff.mp hd).1
    have hdd := List.getElem?_eq_getElem hj
    have c := hall j _ d hdd hd
    obtain ⟨fd, FD⟩ := hF j _ hdd
    generalize fn[j] = dd at c FD
    obtain ⟨c, c8⟩ := and2 c
    obtain ⟨c, c7⟩ := and2 c
    obtain ⟨c, c6⟩ := and2 c
    obtain ⟨c, c5⟩ := and2 c
    obtain ⟨c, c4⟩ := and2 c
    obtain ⟨c, c3⟩ := and2 c
    obtain ⟨c1, c2⟩ := and2 c
    obtain ⟨at_, nm, qual, params, body, scope, dfl, kwd⟩ := dd
    have e1 : nm = d.nm := of_decide_eq_true c1
    have e2 : at_ = (d.nm, none) := of_decide_eq_true c2
    have e3 : dfl = [] := empty_of c3
    have e4 : kwd = [] := empty_of c4
    subst e1 e2 e3 e4
    have FD : FunD K d.nm qual params body scope [] [] (He.ga K d.nm) fd := FD
    obtain ⟨p, p5⟩ := and2 c5
    obtain ⟨p, p4⟩ := and2 p
    obtain ⟨p, p3⟩ := and2 p
    obtain ⟨p1, p2⟩ := and2 p
    have ep : params.args.map (·.arg) = d.N.take d.np := of_decide_eq_true p5
    have S := C8.fnScope_by c7
    have ln : (d.N.take d.np).length = d.np := by rw [List.length_take]; exact Nat.min_eq_left (of_decide_eq_true c6)
    have nd : (params.args.map (·.arg)).Nodup := by rw [ep]; exact S.nd.sublist (List.take_sublist _ _)
    have bd : ∀ (kV doc pm : Value) (an : Option Addr) (cdv ct : Value) (us : List Value), us.length = (d.N.take d.np).length → bindArgs (PySem.W.fnOf d.nm qual params body scope .none kV doc pm an cdv ct) ⟨us, []⟩ = pure ((d.N.take d.np).zip us) := fun kV doc pm an cdv ct us hl => by
      rw [← ep]
      exact bind_plain (empty_of p1) (none_of p2) (empty_of p3) (none_of p4) nd (by rw [hl, ← ep, List.length_map])
    refine ⟨fd, d.N.take d.np, ln, rfl, fun base => ⟨fun vs H Q E h => ?_, fun A outer s H args us vs Q E hr e0 hb hv h => ?_⟩, FD.kp, FD.bindsN bd, fun s us hl => FunD.bindsA FD bd s us hl⟩
    · obtain ⟨Z, ι, ds, mh, r, mh', h1, _, h2, _⟩ := h
      rw [h2.length, h1]
    · obtain ⟨Z, ι, ds, mh, r, mh', _, _, _, h4, _⟩ := h
      cases h4
  | succ k ih =>
    intro j d hd
    have hj : j < fn.length := by rw [hT]; exact (List.getElem?_eq_some_iff.mp hd).1
    have hdd := List.getElem?_eq_getElem hj
    have c := hall j _ d hdd hd
    obtain ⟨fd, FD⟩ := hF j _ hdd
    generalize fn[j] = dd at c FD
    obtain ⟨c, c8⟩ := and2 c
    obtain ⟨c, c7⟩ := and2 c
    obtain ⟨c, c6⟩ := and2 c
    obtain ⟨c, c5⟩ := and2 c
    obtain ⟨c, c4⟩ := and2 c
    obtain ⟨c, c3⟩ := and2 c
    obtain ⟨c1, c2⟩ := and2 c
    obtain ⟨at_, nm, qual, params, body, scope, dfl, kwd⟩ := dd
    have e1 : nm = d.nm := of_decide_eq_true c1
    have e2 : at_ = (d.nm, none) := of_decide_eq_true c2
    have e3 : dfl = [] := empty_of c3
    have e4 : kwd = [] := empty_of c4
    subst e1 e2 e3 e4
    have FD : FunD K d.nm qual params body scope [] [] (He.ga K d.nm) fd := FD
    obtain ⟨p, p5⟩ := and2 c5
    obtain ⟨p, p4⟩ := and2 p
    obtain ⟨p, p3⟩ := and2 p
    obtain ⟨p1, p2⟩ := and2 p
    have ep : params.args.map (·.arg) = d.N.take d.np := of_decide_eq_true p5
    have S := C8.fnScope_by c7
    have ln : (d.N.take d.np).length = d.np := by rw [List.length_take]; exact Nat.min_eq_left (of_decide_eq_true c6)
    have nd : (params.args.map (·.arg)).Nodup := by rw [ep]; exact S.nd.sublist (List.take_sublist _ _)
    have bd : ∀ (kV doc pm : Value) (an : Option Addr) (cdv ct : Value) (us : List Value), us.length = (d.N.take d.np).length → bindArgs (PySem.W.fnOf d.nm qual params body scope .none kV doc pm an cdv ct) ⟨us, []⟩ = pure ((d.N.take d.np).zip us) := fun kV doc pm an cdv ct us hl => by
      rw [← ep]
      exact bind_plain (empty_of p1) (none_of p2) (empty_of p3) (none_of p4) nd (by rw [hl, ← ep, List.length_map])
    refine ⟨fd, d.N.take d.np, ln, rfl, fun base => ?_, FD.kp, FD.bindsN bd, fun s us hl => FunD.bindsA FD bd s us hl⟩
    refine FD.ok S (fun vs H Q E h => ?_) fun cdv A outer s H vs Q E hr h => ⟨tS K (cm G (evF G T k) d.body), PSs.nox ?_, ?_⟩
    · obtain ⟨Z, ι, ds, mh, r, mh', h1, _, h2, _⟩ := h
      rw [h2.length, h1]
    · have g : GoodC (cxOf CX0 P w K mg base d.N qual scope (He.ga K d.nm) cdv A outer s H E).nox ⟨d.N, scope, fun _ => true, ftOf T⟩ (evF G T k) := by
        refine ⟨⟨rfl, rfl, rfl, rfl, S.nd, ?_, hB, fun i x n rb hi => ?_⟩, S.kind, rfl⟩
        · have := hr.un
          show (A.deeper _).units + 64 < cLine
          omega
        · obtain ⟨d', hd', e⟩ := Option.map_eq_some_iff.mp (show (T[i]?).map (fun d => (d.nm, d.np, d.rb)) = some (x, n, rb) by rw [← List.getElem?_map]; exact hi)
          cases e
          obtain ⟨fd', ps', l', _, F', k', b', _⟩ := ih i d' hd'
          exact ⟨fun ds mh r h => evF_len hd' h, k, hr, He.ga K d'.nm, fd', ps', l', F' base, hM i d' hd', k', b'⟩
      exact (ppC G (evF G T k) d.body _ _ g).2 body c8
    · obtain ⟨Z, ι, ds, mh, r, mh', h1, R, h2, h3, hq⟩ := h
      have hl : ds.length = d.np := by rw [h1, ln]
      have h3' : (T[j]?).bind (fun d => bodyF G (evF G T k) d ds mh) = some (r, mh') := h3
      rw [hd] at h3'
      have h4 : bodyF G (evF G T k) d ds mh = some (r, mh') := h3'
      unfold bodyF at h4
      rw [if_pos hl] at h4
      have R0 : SR K H Z ι (start d.N vs) ⟨ds.map (fun x => some (x, false)) ++ List.replicate (d.N.length - d.np) none, mh⟩ := start_ok R h2 hl
      have wr : ∀ a, Wr (start d.N vs) ⟨ds.map (fun x => some (x, false)) ++ List.replicate (d.N.length - d.np) none, mh⟩ ι a → Wr [] ⟨[], mh⟩ ι a := fun a q => by
        rcases q with q | ⟨i, x, q1, _⟩
        · exact .inl q
        · have q2 := List.mem_of_getElem? q1
          rcases List.mem_append.mp q2 with q2 | q2
          · obtain ⟨y, _, q3⟩ := List.mem_map.mp q2
            cases q3
          · have := List.eq_of_mem_replicate q2
            cases this
      have conv : ∀ {s' : E3.S} {H' : Hp} {Z' : Addr → Prop} {ι' : List Addr}, Stp K (start d.N vs) H Z ι ⟨ds.map (fun x => some (x, false)) ++ List.replicate (d.N.length - d.np) none, mh⟩ [] H' Z' ι' ⟨[], s'.mh⟩ → Nxt K [] H Z ι ⟨[], mh⟩ H' Z' ι' ⟨[], s'.mh⟩ := fun N =>
        ⟨N.sr, fun a o e q => N.fr a o e fun q' => q (wr a q'), N.zs, fun a z => (N.zn a z).imp id fun z => z.imp id (wr a), fun a q => (N.wn a q).imp (wr a) id, N.dm, N.ip⟩
      split at h4
      · rename_i s' ho
        split at h4
        · cases h4
        · rename_i hb
          cases h4
          have hb' : d.rb = false := by simpa using hb
          rw [hb'] at hq
          exact ⟨Z, ι, _, _, R0, ho, fun σ' H' Z' ι' N => hq .non H' Z' ι' (conv N.drop) .non⟩
      · rename_i r' s' ho
        split at h4
        · cases h4
        · rename_i hb
          cases h4
          have hb' : d.rb = false := by simpa using hb
          rw [hb'] at hq
          exact ⟨Z, ι, _, _, R0, ho, fun v H' Z' ι' N rr => hq v H' Z' ι' (conv N) rr⟩
      · rename_i r' s' ho
        split at h4
        · rename_i hb
          cases h4
          rw [hb] at hq
          refine ⟨Z, ι, _, _, R0, ho, fun v H' Z' ι' N ⟨a, e, q1, q2, q3, q4⟩ => hq v H' Z' ι' (conv N) ⟨a, e, ?_, q2, q3, q4⟩⟩
          rcases q1 with q1 | q1
          · exact q1
          · obtain ⟨n, hn, en⟩ := List.getElem_of_mem (wr_nil (wr a q1))
            exact absurd (List.mem_of_getElem? (N.ip n a (by rw [List.getElem?_eq_getElem hn, en]))) q3
        · cases h4
      · cases h4
theorem law_sp {H : Hp} {a : Addr} {ns : List Int} {h : FnD} {mh' : List (List D)} (hO : Only H) (hS : SqL K H a (ns.map V.int)) (hl : h [.fzl ns] [] = some (.bl true, mh')) : spB false K 1 h [.ref a] H (fun v _ => v = .bl true) fun _ _ _ => False := by
  refine ⟨fun _ => False, [], [.fzl ns], [], .bl true, mh', rfl, ⟨rfl, fun i d e => by simp at e, fun i d e => by simp at e, fun i j d d' a e => by simp at e, rfl, fun n a ds e => by simp at e, List.nodup_nil, fun a z => z.elim⟩, .cons (.fzl ?_) .nil, hl, fun v H' Z' ι' _ r => RelW.bl (.inl r)⟩
  rcases hS with (q | ⟨o, q⟩) | q
  · rcases hO a with e | ⟨o, xs, e⟩
    · rw [e] at q; cases q
    · rw [e] at q; cases q
  · exact .inl ⟨o, q⟩
  · exact .inr (.inr q)
end
section
variable {G : Nat → Option D}
theorem ev_at {T : List Fd} {j k : Nat} {d : Fd} {ds : List D} {mh : List (List D)} (h : T[j]? = some d) : evF G T (k + 1) j ds mh = bodyF G (evF G T k) d ds mh := by
  show (T[j]?).bind _ = _
  rw [h]
  rfl
/-- what a body hands back -/
def outR : Option Out → Option (D × List (List D))
  | some (.nx s) => some (.non, s.mh)
  | some (.rt d s) => some (d, s.mh)
  | _ => none
def outF : Option Out → Option (D × List (List D))
  | some (.rf d s) => some (d, s.mh)
  | _ => none
/-- a def's call, by its body -/
theorem w_rt {T : List Fd} {j k : Nat} {d : Fd} {ds : List D} {sl : List (Option (D × Bool))} {mh : List (List D)} {b : C} (h : T[j]? = some d) (hl : ds.length = d.np) (hs : ds.map (fun x => some (x, false)) ++ List.replicate (d.N.length - d.np) none = sl) (hb : d.body = b) (hr : d.rb = false) :
    evF G T (k + 1) j ds mh = outR (cm G (evF G T k) b ⟨sl, mh⟩) := by
  rw [ev_at h]
  unfold bodyF outR
  rw [if_pos hl, hs, hb, hr]
  generalize cm G (evF G T k) b ⟨sl, mh⟩ = o
  cases o with
  | none => rfl
  | some o => cases o <;> rfl
theorem w_rf {T : List Fd} {j k : Nat} {d : Fd} {ds : List D} {sl : List (Option (D × Bool))} {mh : List (List D)} {b : C} (h : T[j]? = some d) (hl : ds.length = d.np) (hs : ds.map (fun x => some (x, false)) ++ List.replicate (d.N.length - d.np) none = sl) (hb : d.body = b) (hr : d.rb = true) :
    evF G T (k + 1) j ds mh = outF (cm G (evF G T k) b ⟨sl, mh⟩) := by
  rw [ev_at h]
  unfold bodyF outF
  rw [if_pos hl, hs, hb, hr]
  generalize cm G (evF G T k) b ⟨sl, mh⟩ = o
  cases o with
  | none => rfl
  | some o => cases o <;> rfl
end
end E3
set_option Elab.async false
set_option linter.all false
set_option maxRecDepth 100000
namespace E3
open PySem L2
@[reducible] def i_is_integer : Nat := 0
@[reducible] def i_place_of : Nat := 1
@[reducible] def i_names_in : Nat := 2
@[reducible] def i_amount_in : Nat := 3
@[reducible] def i_truth_in : Nat := 4
@[reducible] def i_term_names : Nat := 5
@[reducible] def i_clauses_of : Nat := 6
@[reducible] def i_exceptions_of : Nat := 7
@[reducible] def i_used_by : Nat := 8
@[reducible] def i_heard : Nat := 9
@[reducible] def i_spoken : Nat := 10
@[reducible] def i_decided : Nat := 11
@[reducible] def i_term_outcome : Nat := 12
@[reducible] def i_outcomes : Nat := 13
@[reducible] def i_over_all : Nat := 14
@[reducible] def i_way_to : Nat := 15
@[reducible] def i_silent_for : Nat := 16
@[reducible] def i_row_for : Nat := 17
@[reducible] def i_reading : Nat := 18
@[reducible] def i_is_reading : Nat := 19
@[reducible] def i_are_labels : Nat := 20
@[reducible] def i_is_row : Nat := 21
@[reducible] def i_law_pool : Nat := 22
@[reducible] def i_law_spread : Nat := 23
@[reducible] def i_law_draw : Nat := 24
@[reducible] def i_law_facts : Nat := 25
@[reducible] def i_law_amount : Nat := 26
@[reducible] def i_law_condition : Nat := 27
@[reducible] def i_law_chains : Nat := 28
@[reducible] def i_law_terms : Nat := 29
@[reducible] def i_law_some_code : Nat := 30
@[reducible] def i_law_pick : Nat := 31
@[reducible] def i_law_cases : Nat := 32
@[reducible] def i_law_names : Nat := 33
@[reducible] def i_law_place : Nat := 34
@[reducible] def i_law_worked : Nat := 35
@[reducible] def i_law_truth : Nat := 36
@[reducible] def i_law_heard : Nat := 37
@[reducible] def i_law_term_in : Nat := 38
@[reducible] def i_law_all_in : Nat := 39
@[reducible] def i_law_in : Nat := 40
@[reducible] def i_law_same : Nat := 41
@[reducible] def i_law : Nat := 42
/-- 0: is_integer(value) -/
def c_is_integer : C := (.seq (.ret (.and (.isi (.v 0) .int) (.one (.nt (.isi (.v 0) .bool)))))
    .skip)
def p_is_integer : Fd := ⟨⟨#[105, 115, 95, 105, 110, 116, 101, 103, 101, 114]⟩, [⟨#[118, 97, 108, 117, 101]⟩], 1, false, c_is_integer⟩
/-- 1: place_of(facts, name, k) -/
def c_place_of_1 : C := (.seq (.ite (.cmp .eq (.ix (.ix (.v 0) (.v 2)) (.cint 0)) (.v 1)) (.seq (.ret (.v 2))
    .skip) .skip)
    .skip)
def c_place_of : C := (.seq (.forr (.nm 2) (.rg1 (.b1 .len (.v 0))) c_place_of_1)
    (.seq (.ret .cnon)
    .skip))
def p_place_of : Fd := ⟨⟨#[112, 108, 97, 99, 101, 95, 111, 102]⟩, [⟨#[102, 97, 99, 116, 115]⟩, ⟨#[110, 97, 109, 101]⟩, ⟨#[107]⟩], 2, false, c_place_of⟩
/-- 2: names_in(value, word, found, left, part, one) -/
def e_names_in_1 : E := .lc [(⟨#[111, 110, 101]⟩, 5)] (.nm 5) (.sl (.v 4) (.cint 1) .nop) (.isi (.v 5) .tuple) (.v 5)
def c_names_in_1 : C := (.seq (.asg (.nm 4) (.pop 3))
    (.seq (.ite (.cmp .eq (.ix (.v 4) (.cint 0)) (.v 1)) (.seq (.app 2 (.ix (.v 4) (.cint 1)))
    .skip) (.seq (.ite (.cmp .nin (.ix (.v 4) (.cint 0)) (.tup (.cons (.cstr ⟨#[110, 117, 109]⟩) (.cons (.cstr ⟨#[102, 97, 99, 116]⟩) (.cons (.cstr ⟨#[116, 101, 114, 109]⟩) (.cons (.cstr ⟨#[116, 114, 117, 101]⟩) .nil)))))) (.seq (.ext 3 e_names_in_1)
    .skip) .skip)
    .skip))
    .skip))
def c_names_in : C := (.seq (.par 2 3 (.lst .nil) (.lst (.cons (.v 0) .nil)))
    (.seq (.whl (.cmp .gt (.b1 .len (.v 3)) (.cint 0)) c_names_in_1)
    (.seq (.ret (.b1 .srtset (.v 2)))
    .skip)))
def p_names_in : Fd := ⟨⟨#[110, 97, 109, 101, 115, 95, 105, 110]⟩, [⟨#[118, 97, 108, 117, 101]⟩, ⟨#[119, 111, 114, 100]⟩, ⟨#[102, 111, 117, 110, 100]⟩, ⟨#[108, 101, 102, 116]⟩, ⟨#[112, 97, 114, 116]⟩, ⟨#[111, 110, 101]⟩], 2, false, c_names_in⟩
/-- 3: amount_in(value, facts, case, known, word, one, two) -/
def c_amount_in : C := (.seq (.asg (.nm 4) (.ix (.v 0) (.cint 0)))
    (.seq (.ite (.cmp .eq (.v 4) (.cstr ⟨#[110, 117, 109]⟩)) (.seq (.ret (.ix (.v 0) (.cint 1)))
    .skip) .skip)
    (.seq (.ite (.cmp .eq (.v 4) (.cstr ⟨#[102, 97, 99, 116]⟩)) (.seq (.ret (.ix (.v 2) (.call i_place_of false (.cons (.v 1) (.cons (.ix (.v 0) (.cint 1)) .nil)))))
    .skip) .skip)
    (.seq (.ite (.cmp .eq (.v 4) (.cstr ⟨#[116, 101, 114, 109]⟩)) (.seq (.ret (.ix (.v 3) (.ix (.v 0) (.cint 1))))
    .skip) .skip)
    (.seq (.ite (.cmp .eq (.v 4) (.cstr ⟨#[116, 105, 109, 101, 115]⟩)) (.seq (.ret (.bin .mul (.ix (.v 0) (.cint 1)) (.call i_amount_in false (.cons (.ix (.v 0) (.cint 2)) (.cons (.v 1) (.cons (.v 2) (.cons (.v 3) .nil)))))))
    .skip) .skip)
    (.seq (.ite (.cmp .eq (.v 4) (.cstr ⟨#[112, 97, 114, 116]⟩)) (.seq (.ret (.bin .fdv (.call i_amount_in false (.cons (.ix (.v 0) (.cint 1)) (.cons (.v 1) (.cons (.v 2) (.cons (.v 3) .nil))))) (.ix (.v 0) (.cint 2))))
    .skip) .skip)
    (.seq (.par 5 6 (.call i_amount_in false (.cons (.ix (.v 0) (.cint 1)) (.cons (.v 1) (.cons (.v 2) (.cons (.v 3) .nil))))) (.call i_amount_in false (.cons (.ix (.v 0) (.cint 2)) (.cons (.v 1) (.cons (.v 2) (.cons (.v 3) .nil))))))
    (.seq (.ite (.cmp .eq (.v 4) (.cstr ⟨#[112, 108, 117, 115]⟩)) (.seq (.ret (.bin .add (.v 5) (.v 6)))
    .skip) .skip)
    (.seq (.ite (.cmp .eq (.v 4) (.cstr ⟨#[108, 101, 115, 115]⟩)) (.seq (.ret (.bin .sub (.v 5) (.v 6)))
    .skip) .skip)
    (.seq (.ret (.ife (.cmp .eq (.v 4) (.cstr ⟨#[108, 101, 97, 115, 116]⟩)) (.min2 (.v 5) (.v 6)) (.max2 (.v 5) (.v 6))))
    .skip))))))))))
def p_amount_in : Fd := ⟨⟨#[97, 109, 111, 117, 110, 116, 95, 105, 110]⟩, [⟨#[118, 97, 108, 117, 101]⟩, ⟨#[102, 97, 99, 116, 115]⟩, ⟨#[99, 97, 115, 101]⟩, ⟨#[107, 110, 111, 119, 110]⟩, ⟨#[119, 111, 114, 100]⟩, ⟨#[111, 110, 101]⟩, ⟨#[116, 119, 111]⟩], 4, false, c_amount_in⟩
/-- 4: truth_in(value, facts, case, known, word, one, two) -/
def c_truth_in : C := (.seq (.asg (.nm 4) (.ix (.v 0) (.cint 0)))
    (.seq (.ite (.cmp .eq (.v 4) (.cstr ⟨#[116, 114, 117, 101]⟩)) (.seq (.ret (.cbl true))
    .skip) .skip)
    (.seq (.ite (.cmp .eq (.v 4) (.cstr ⟨#[110, 111, 116]⟩)) (.seq (.ret (.nt (.call i_truth_in false (.cons (.ix (.v 0) (.cint 1)) (.cons (.v 1) (.cons (.v 2) (.cons (.v 3) .nil)))))))
    .skip) .skip)
    (.seq (.ite (.cmp .eq (.v 4) (.cstr ⟨#[98, 111, 116, 104]⟩)) (.seq (.ret (.and (.call i_truth_in false (.cons (.ix (.v 0) (.cint 1)) (.cons (.v 1) (.cons (.v 2) (.cons (.v 3) .nil))))) (.one (.call i_truth_in false (.cons (.ix (.v 0) (.cint 2)) (.cons (.v 1) (.cons (.v 2) (.cons (.v 3) .nil))))))))
    .skip) .skip)
    (.seq (.ite (.cmp .eq (.v 4) (.cstr ⟨#[101, 105, 116, 104, 101, 114]⟩)) (.seq (.ret (.or (.call i_truth_in false (.cons (.ix (.v 0) (.cint 1)) (.cons (.v 1) (.cons (.v 2) (.cons (.v 3) .nil))))) (.one (.call i_truth_in false (.cons (.ix (.v 0) (.cint 2)) (.cons (.v 1) (.cons (.v 2) (.cons (.v 3) .nil))))))))
    .skip) .skip)
    (.seq (.par 5 6 (.call i_amount_in false (.cons (.ix (.v 0) (.cint 1)) (.cons (.v 1) (.cons (.v 2) (.cons (.v 3) .nil))))) (.call i_amount_in false (.cons (.ix (.v 0) (.cint 2)) (.cons (.v 1) (.cons (.v 2) (.cons (.v 3) .nil))))))
    (.seq (.ret (.ife (.cmp .eq (.v 4) (.cstr ⟨#[105, 115]⟩)) (.cmp .eq (.v 5) (.v 6)) (.cmp .lt (.v 5) (.v 6))))
    .skip)))))))
def p_truth_in : Fd := ⟨⟨#[116, 114, 117, 116, 104, 95, 105, 110]⟩, [⟨#[118, 97, 108, 117, 101]⟩, ⟨#[102, 97, 99, 116, 115]⟩, ⟨#[99, 97, 115, 101]⟩, ⟨#[107, 110, 111, 119, 110]⟩, ⟨#[119, 111, 114, 100]⟩, ⟨#[111, 110, 101]⟩, ⟨#[116, 119, 111]⟩], 4, false, c_truth_in⟩
/-- 5: term_names(code, term) -/
def e_term_names_1 : E := .lc [(⟨#[116, 101, 114, 109]⟩, 1)] (.nm 1) (.ix (.v 0) (.cint 1)) .nop (.ix (.v 1) (.cint 0))
def c_term_names : C := (.seq (.ret e_term_names_1)
    .skip)
def p_term_names : Fd := ⟨⟨#[116, 101, 114, 109, 95, 110, 97, 109, 101, 115]⟩, [⟨#[99, 111, 100, 101]⟩, ⟨#[116, 101, 114, 109]⟩], 1, false, c_term_names⟩
/-- 6: clauses_of(code, name, term) -/
def c_clauses_of_1 : C := (.seq (.ite (.cmp .eq (.ix (.v 2) (.cint 0)) (.v 1)) (.seq (.ret (.ix (.v 2) (.cint 1)))
    .skip) .skip)
    .skip)
def c_clauses_of : C := (.seq (.forr (.nm 2) (.ix (.v 0) (.cint 1)) c_clauses_of_1)
    (.seq .never
    .skip))
def p_clauses_of : Fd := ⟨⟨#[99, 108, 97, 117, 115, 101, 115, 95, 111, 102]⟩, [⟨#[99, 111, 100, 101]⟩, ⟨#[110, 97, 109, 101]⟩, ⟨#[116, 101, 114, 109]⟩], 2, false, c_clauses_of⟩
/-- 7: exceptions_of(clauses, label, clause) -/
def e_exceptions_of_1 : E := .lc [(⟨#[99, 108, 97, 117, 115, 101]⟩, 2)] (.nm 2) (.v 0) (.cmp .eq (.ix (.v 2) (.cint 3)) (.v 1)) (.v 2)
def c_exceptions_of : C := (.seq (.ret e_exceptions_of_1)
    .skip)
def p_exceptions_of : Fd := ⟨⟨#[101, 120, 99, 101, 112, 116, 105, 111, 110, 115, 95, 111, 102]⟩, [⟨#[99, 108, 97, 117, 115, 101, 115]⟩, ⟨#[108, 97, 98, 101, 108]⟩, ⟨#[99, 108, 97, 117, 115, 101]⟩], 2, false, c_exceptions_of⟩
/-- 8: used_by(code, name, order, found, left, here, clause, one) -/
def c_used_by_2 : C := (.seq (.ext 4 (.bin .add (.call i_names_in false (.cons (.ix (.v 6) (.cint 1)) (.cons (.cstr ⟨#[116, 101, 114, 109]⟩) .nil))) (.call i_names_in false (.cons (.ix (.v 6) (.cint 2)) (.cons (.cstr ⟨#[116, 101, 114, 109]⟩) .nil)))))
    .skip)
def c_used_by_1 : C := (.seq (.asg (.nm 5) (.pop 4))
    (.seq (.ite (.cmp .nin (.v 5) (.v 3)) (.seq (.app 3 (.v 5))
    (.seq (.forr (.nm 6) (.call i_clauses_of false (.cons (.v 0) (.cons (.v 5) .nil))) c_used_by_2)
    .skip)) .skip)
    .skip))
def e_used_by_1 : E := .lc [(⟨#[111, 110, 101]⟩, 7)] (.nm 7) (.v 2) (.cmp .inn (.v 7) (.v 3)) (.v 7)
def c_used_by : C := (.seq (.asg (.nm 2) (.call i_term_names false (.cons (.v 0) .nil)))
    (.seq (.par 3 4 (.lst .nil) (.lst (.cons (.v 1) .nil)))
    (.seq (.whl (.cmp .gt (.b1 .len (.v 4)) (.cint 0)) c_used_by_1)
    (.seq (.ret e_used_by_1)
    .skip))))
def p_used_by : Fd := ⟨⟨#[117, 115, 101, 100, 95, 98, 121]⟩, [⟨#[99, 111, 100, 101]⟩, ⟨#[110, 97, 109, 101]⟩, ⟨#[111, 114, 100, 101, 114]⟩, ⟨#[102, 111, 117, 110, 100]⟩, ⟨#[108, 101, 102, 116]⟩, ⟨#[104, 101, 114, 101]⟩, ⟨#[99, 108, 97, 117, 115, 101]⟩, ⟨#[111, 110, 101]⟩], 2, false, c_used_by⟩
/-- 9: heard(clauses, label, speaks, told, clause, one) -/
def c_heard_1 : C := (.seq (.asg (.nm 5) (.call i_spoken false (.cons (.v 0) (.cons (.v 4) (.cons (.v 2) .nil)))))
    (.seq (.ite (.isi (.v 5) .tuple) (.seq (.ret (.v 5))
    .skip) .skip)
    (.seq (.ite (.ntn (.v 5)) (.seq (.app 3 (.v 5))
    .skip) .skip)
    .skip)))
def c_heard : C := (.seq (.asg (.nm 3) (.lst .nil))
    (.seq (.forr (.nm 4) (.call i_exceptions_of false (.cons (.v 0) (.cons (.v 1) .nil))) c_heard_1)
    (.seq (.ret (.ife (.cmp .eq (.b1 .len (.v 3)) (.cint 0)) .cnon (.ife (.cmp .eq (.b1 .len (.v 3)) (.cint 1)) (.ix (.v 3) (.cint 0)) (.tup (.cons (.ix (.v 3) (.cint 0)) (.cons (.ix (.v 3) (.cint 1)) .nil))))))
    .skip)))
def p_heard : Fd := ⟨⟨#[104, 101, 97, 114, 100]⟩, [⟨#[99, 108, 97, 117, 115, 101, 115]⟩, ⟨#[108, 97, 98, 101, 108]⟩, ⟨#[115, 112, 101, 97, 107, 115]⟩, ⟨#[116, 111, 108, 100]⟩, ⟨#[99, 108, 97, 117, 115, 101]⟩, ⟨#[111, 110, 101]⟩], 3, false, c_heard⟩
/-- 10: spoken(clauses, clause, speaks, above) -/
def c_spoken : C := (.seq (.asg (.nm 3) (.call i_heard false (.cons (.v 0) (.cons (.ix (.v 1) (.cint 0)) (.cons (.v 2) .nil)))))
    (.seq (.ite (.ntn (.v 3)) (.seq (.ret (.v 3))
    .skip) .skip)
    (.seq (.ret (.ife (.ix (.v 2) (.ix (.v 1) (.cint 0))) (.ix (.v 1) (.cint 0)) .cnon))
    .skip)))
def p_spoken : Fd := ⟨⟨#[115, 112, 111, 107, 101, 110]⟩, [⟨#[99, 108, 97, 117, 115, 101, 115]⟩, ⟨#[99, 108, 97, 117, 115, 101]⟩, ⟨#[115, 112, 101, 97, 107, 115]⟩, ⟨#[97, 98, 111, 118, 101]⟩], 3, false, c_spoken⟩
/-- 11: decided(clauses, speaks) -/
def c_decided : C := (.seq (.ret (.call i_heard false (.cons (.v 0) (.cons .cnon (.cons (.v 1) .nil)))))
    .skip)
def p_decided : Fd := ⟨⟨#[100, 101, 99, 105, 100, 101, 100]⟩, [⟨#[99, 108, 97, 117, 115, 101, 115]⟩, ⟨#[115, 112, 101, 97, 107, 115]⟩], 2, false, c_decided⟩
/-- 12: term_outcome(code, name, case, known, clauses, other, clause, values, speaks, found, amount) -/
def e_term_outcome_1 : E := .lc [(⟨#[99, 108, 97, 117, 115, 101]⟩, 6)] (.nm 6) (.v 4) .nop (.cmp .inn (.v 5) (.bin .add (.call i_names_in false (.cons (.ix (.v 6) (.cint 1)) (.cons (.cstr ⟨#[116, 101, 114, 109]⟩) .nil))) (.call i_names_in false (.cons (.ix (.v 6) (.cint 2)) (.cons (.cstr ⟨#[116, 101, 114, 109]⟩) .nil)))))
def c_term_outcome_1 : C := (.seq (.ite (.b1 .any e_term_outcome_1) (.seq (.ite (.cmp .ne (.ix (.ix (.v 3) (.v 5)) (.cint 0)) (.cstr ⟨#[116, 111, 108, 100]⟩)) (.seq (.ret (.tup (.cons (.cstr ⟨#[119, 97, 105, 116, 115]⟩) (.cons (.v 5) .nil))))
    .skip) .skip)
    .skip) .skip)
    .skip)
def e_term_outcome_2 : E := .dk [(⟨#[111, 116, 104, 101, 114]⟩, 5)] 5 3 (.cmp .eq (.ix (.ix (.v 3) (.v 5)) (.cint 0)) (.cstr ⟨#[116, 111, 108, 100]⟩)) (.v 5) (.ix (.ix (.v 3) (.v 5)) (.cint 1))
def e_term_outcome_3 : E := .dc [(⟨#[99, 108, 97, 117, 115, 101]⟩, 6)] (.nm 6) (.v 4) .nop (.ix (.v 6) (.cint 0)) (.call i_truth_in false (.cons (.ix (.v 6) (.cint 1)) (.cons (.ix (.v 0) (.cint 0)) (.cons (.v 2) (.cons (.v 7) .nil)))))
def e_term_outcome_4 : E := .lc [(⟨#[99, 108, 97, 117, 115, 101]⟩, 6)] (.nm 6) (.v 4) (.cmp .eq (.ix (.v 6) (.cint 0)) (.v 9)) (.ix (.v 6) (.cint 2))
def c_term_outcome : C := (.seq (.asg (.nm 4) (.call i_clauses_of false (.cons (.v 0) (.cons (.v 1) .nil))))
    (.seq (.forr (.nm 5) (.call i_term_names false (.cons (.v 0) .nil)) c_term_outcome_1)
    (.seq (.asg (.nm 7) e_term_outcome_2)
    (.seq (.asg (.nm 8) e_term_outcome_3)
    (.seq (.asg (.nm 9) (.call i_decided false (.cons (.v 4) (.cons (.v 8) .nil))))
    (.seq (.ite (.isn (.v 9)) (.seq (.ret (.tup (.cons (.cstr ⟨#[103, 97, 112]⟩) .nil)))
    .skip) .skip)
    (.seq (.ite (.isi (.v 9) .tuple) (.seq (.ret (.tup (.cons (.cstr ⟨#[99, 108, 97, 115, 104]⟩) (.cons (.ix (.v 9) (.cint 0)) (.cons (.ix (.v 9) (.cint 1)) .nil)))))
    .skip) .skip)
    (.seq (.asg (.nm 10) (.ix e_term_outcome_4 (.cint 0)))
    (.seq (.ret (.tup (.cons (.cstr ⟨#[116, 111, 108, 100]⟩) (.cons (.call i_amount_in false (.cons (.v 10) (.cons (.ix (.v 0) (.cint 0)) (.cons (.v 2) (.cons (.v 7) .nil))))) (.cons (.v 9) .nil)))))
    .skip)))))))))
def p_term_outcome : Fd := ⟨⟨#[116, 101, 114, 109, 95, 111, 117, 116, 99, 111, 109, 101]⟩, [⟨#[99, 111, 100, 101]⟩, ⟨#[110, 97, 109, 101]⟩, ⟨#[99, 97, 115, 101]⟩, ⟨#[107, 110, 111, 119, 110]⟩, ⟨#[99, 108, 97, 117, 115, 101, 115]⟩, ⟨#[111, 116, 104, 101, 114]⟩, ⟨#[99, 108, 97, 117, 115, 101]⟩, ⟨#[118, 97, 108, 117, 101, 115]⟩, ⟨#[115, 112, 101, 97, 107, 115]⟩, ⟨#[102, 111, 117, 110, 100]⟩, ⟨#[97, 109, 111, 117, 110, 116]⟩], 4, false, c_term_outcome⟩
/-- 13: outcomes(code, case, found, name) -/
def c_outcomes_1 : C := (.seq (.setd 2 (.v 3) (.call i_term_outcome true (.cons (.v 0) (.cons (.v 3) (.cons (.v 1) (.cons (.v 2) .nil))))))
    .skip)
def c_outcomes : C := (.seq (.asg (.nm 2) .dnil)
    (.seq (.forr (.nm 3) (.call i_term_names false (.cons (.v 0) .nil)) c_outcomes_1)
    (.seq (.ret (.v 2))
    .skip)))
def p_outcomes : Fd := ⟨⟨#[111, 117, 116, 99, 111, 109, 101, 115]⟩, [⟨#[99, 111, 100, 101]⟩, ⟨#[99, 97, 115, 101]⟩, ⟨#[102, 111, 117, 110, 100]⟩, ⟨#[110, 97, 109, 101]⟩], 2, false, c_outcomes⟩
/-- 14: over_all(clauses, label, found, clause) -/
def c_over_all_1 : C := (.seq (.ite (.cmp .inn (.ix (.v 3) (.cint 3)) (.v 2)) (.seq (.app 2 (.ix (.v 3) (.cint 0)))
    .skip) .skip)
    .skip)
def c_over_all : C := (.seq (.asg (.nm 2) (.lst (.cons (.v 1) .nil)))
    (.seq (.forr (.nm 3) (.v 0) c_over_all_1)
    (.seq (.retf (.sl (.v 2) (.cint 1) .nop))
    .skip)))
def p_over_all : Fd := ⟨⟨#[111, 118, 101, 114, 95, 97, 108, 108]⟩, [⟨#[99, 108, 97, 117, 115, 101, 115]⟩, ⟨#[108, 97, 98, 101, 108]⟩, ⟨#[102, 111, 117, 110, 100]⟩, ⟨#[99, 108, 97, 117, 115, 101]⟩], 2, true, c_over_all⟩
/-- 15: way_to(clauses, label, homes, clause, found) -/
def e_way_to_1 : E := .dc [(⟨#[99, 108, 97, 117, 115, 101]⟩, 3)] (.nm 3) (.v 0) .nop (.ix (.v 3) (.cint 0)) (.ix (.v 3) (.cint 3))
def c_way_to_1 : C := (.seq (.ins 4 (.ix (.v 2) (.ix (.v 4) (.cint 0))))
    .skip)
def c_way_to : C := (.seq (.asg (.nm 2) e_way_to_1)
    (.seq (.asg (.nm 4) (.lst (.cons (.v 1) .nil)))
    (.seq (.whl (.ntn (.ix (.v 2) (.ix (.v 4) (.cint 0)))) c_way_to_1)
    (.seq (.ret (.b1 .tuple (.v 4)))
    .skip))))
def p_way_to : Fd := ⟨⟨#[119, 97, 121, 95, 116, 111]⟩, [⟨#[99, 108, 97, 117, 115, 101, 115]⟩, ⟨#[108, 97, 98, 101, 108]⟩, ⟨#[104, 111, 109, 101, 115]⟩, ⟨#[99, 108, 97, 117, 115, 101]⟩, ⟨#[102, 111, 117, 110, 100]⟩], 2, false, c_way_to⟩
/-- 16: silent_for(clauses, way, found, label, over, clause) -/
def e_silent_for_1 : E := .lc [(⟨#[99, 108, 97, 117, 115, 101]⟩, 5)] (.nm 5) (.v 0) (.cmp .eq (.ix (.v 5) (.cint 0)) (.v 3)) (.ix (.v 5) (.cint 3))
def c_silent_for_2 : C := (.seq (.ite (.cmp .ne (.ix (.v 5) (.cint 0)) (.v 3)) (.seq (.ext 2 (.bin .add (.lst (.cons (.ix (.v 5) (.cint 0)) .nil)) (.callr i_over_all (.cons (.v 0) (.cons (.ix (.v 5) (.cint 0)) .nil)))))
    .skip) .skip)
    .skip)
def c_silent_for_1 : C := (.seq (.asg (.nm 4) (.ix e_silent_for_1 (.cint 0)))
    (.seq (.forr (.nm 5) (.call i_exceptions_of false (.cons (.v 0) (.cons (.v 4) .nil))) c_silent_for_2)
    .skip))
def e_silent_for_2 : E := .lc [(⟨#[99, 108, 97, 117, 115, 101]⟩, 5)] (.nm 5) (.v 0) (.cmp .inn (.ix (.v 5) (.cint 0)) (.v 2)) (.ix (.v 5) (.cint 0))
def c_silent_for : C := (.seq (.asg (.nm 2) (.callr i_over_all (.cons (.v 0) (.cons (.ix (.v 1) (.neg (.cint 1))) .nil))))
    (.seq (.forr (.nm 3) (.v 1) c_silent_for_1)
    (.seq (.ret (.b1 .tuple e_silent_for_2))
    .skip)))
def p_silent_for : Fd := ⟨⟨#[115, 105, 108, 101, 110, 116, 95, 102, 111, 114]⟩, [⟨#[99, 108, 97, 117, 115, 101, 115]⟩, ⟨#[119, 97, 121]⟩, ⟨#[102, 111, 117, 110, 100]⟩, ⟨#[108, 97, 98, 101, 108]⟩, ⟨#[111, 118, 101, 114]⟩, ⟨#[99, 108, 97, 117, 115, 101]⟩], 2, false, c_silent_for⟩
/-- 17: row_for(code, name, told, clauses, way) -/
def c_row_for : C := (.seq (.asg (.nm 3) (.call i_clauses_of false (.cons (.v 0) (.cons (.v 1) .nil))))
    (.seq (.asg (.nm 4) (.call i_way_to false (.cons (.v 3) (.cons (.ix (.v 2) (.cint 2)) .nil))))
    (.seq (.ret (.tup (.cons (.v 1) (.cons (.ix (.v 2) (.cint 1)) (.cons (.v 4) (.cons (.call i_silent_for false (.cons (.v 3) (.cons (.v 4) .nil))) .nil))))))
    .skip)))
def p_row_for : Fd := ⟨⟨#[114, 111, 119, 95, 102, 111, 114]⟩, [⟨#[99, 111, 100, 101]⟩, ⟨#[110, 97, 109, 101]⟩, ⟨#[116, 111, 108, 100]⟩, ⟨#[99, 108, 97, 117, 115, 101, 115]⟩, ⟨#[119, 97, 121]⟩], 3, false, c_row_for⟩
/-- 18: reading(code, name, case, found, other) -/
def e_reading_1 : E := .lc [(⟨#[111, 116, 104, 101, 114]⟩, 4)] (.nm 4) (.call i_used_by false (.cons (.v 0) (.cons (.v 1) .nil))) .nop (.call i_row_for false (.cons (.v 0) (.cons (.v 4) (.cons (.ix (.v 3) (.v 4)) .nil))))
def c_reading : C := (.seq (.asg (.nm 3) (.call i_outcomes false (.cons (.v 0) (.cons (.v 2) .nil))))
    (.seq (.ret (.b1 .tuple e_reading_1))
    .skip))
def p_reading : Fd := ⟨⟨#[114, 101, 97, 100, 105, 110, 103]⟩, [⟨#[99, 111, 100, 101]⟩, ⟨#[110, 97, 109, 101]⟩, ⟨#[99, 97, 115, 101]⟩, ⟨#[102, 111, 117, 110, 100]⟩, ⟨#[111, 116, 104, 101, 114]⟩], 3, false, c_reading⟩
/-- 19: is_reading(code, name, case, value, names, known, other, row) -/
def c_is_reading_1 : C := (.seq (.ite (.nt (.call i_is_row true (.cons (.v 0) (.cons (.v 6) (.cons (.v 2) (.cons (.v 7) (.cons (.v 5) .nil))))))) (.seq (.ret (.cbl false))
    .skip) .skip)
    (.seq (.setd 5 (.v 6) (.ix (.v 7) (.cint 1)))
    .skip))
def c_is_reading : C := (.seq (.asg (.nm 4) (.call i_used_by false (.cons (.v 0) (.cons (.v 1) .nil))))
    (.seq (.ite (.or (.nt (.isi (.v 3) .tuple)) (.one (.cmp .ne (.b1 .len (.v 3)) (.b1 .len (.v 4))))) (.seq (.ret (.cbl false))
    .skip) .skip)
    (.seq (.asg (.nm 5) .dnil)
    (.seq (.forr (.tp (.cons (.nm 6) (.cons (.nm 7) .nil))) (.zp (.v 4) (.v 3)) c_is_reading_1)
    (.seq (.ret (.cbl true))
    .skip)))))
def p_is_reading : Fd := ⟨⟨#[105, 115, 95, 114, 101, 97, 100, 105, 110, 103]⟩, [⟨#[99, 111, 100, 101]⟩, ⟨#[110, 97, 109, 101]⟩, ⟨#[99, 97, 115, 101]⟩, ⟨#[118, 97, 108, 117, 101]⟩, ⟨#[110, 97, 109, 101, 115]⟩, ⟨#[107, 110, 111, 119, 110]⟩, ⟨#[111, 116, 104, 101, 114]⟩, ⟨#[114, 111, 119]⟩], 4, false, c_is_reading⟩
/-- 20: are_labels(value, label) -/
def e_are_labels_1 : E := .lc [(⟨#[108, 97, 98, 101, 108]⟩, 1)] (.nm 1) (.v 0) .nop (.isi (.v 1) .str)
def c_are_labels : C := (.seq (.ret (.and (.isi (.v 0) .tuple) (.one (.b1 .all e_are_labels_1))))
    .skip)
def p_are_labels : Fd := ⟨⟨#[97, 114, 101, 95, 108, 97, 98, 101, 108, 115]⟩, [⟨#[118, 97, 108, 117, 101]⟩, ⟨#[108, 97, 98, 101, 108]⟩], 1, false, c_are_labels⟩
/-- 21: is_row(code, name, case, row, known, part, clauses, labels, clause, rows, last, label) -/
def e_is_row_1 : E := .lc [(⟨#[112, 97, 114, 116]⟩, 5)] (.nm 5) (.sl (.v 3) (.cint 2) .nop) .nop (.call i_are_labels false (.cons (.v 5) .nil))
def e_is_row_2 : E := .lc [(⟨#[99, 108, 97, 117, 115, 101]⟩, 8)] (.nm 8) (.v 6) .nop (.ix (.v 8) (.cint 0))
def e_is_row_3 : E := .dc [(⟨#[99, 108, 97, 117, 115, 101]⟩, 8)] (.nm 8) (.v 6) .nop (.ix (.v 8) (.cint 0)) (.v 8)
def e_is_row_4 : E := .lc [(⟨#[108, 97, 98, 101, 108]⟩, 11)] (.nm 11) (.ix (.v 3) (.cint 3)) .nop (.call i_truth_in false (.cons (.ix (.ix (.v 9) (.v 11)) (.cint 1)) (.cons (.ix (.v 0) (.cint 0)) (.cons (.v 2) (.cons (.v 4) .nil)))))
def c_is_row : C := (.seq (.ite (.or (.nt (.isi (.v 3) .tuple)) (.or (.cmp .ne (.b1 .len (.v 3)) (.cint 4)) (.or (.nt (.isi (.ix (.v 3) (.cint 0)) .str)) (.one (.cmp .ne (.ix (.v 3) (.cint 0)) (.v 1)))))) (.seq (.ret (.cbl false))
    .skip) .skip)
    (.seq (.ite (.or (.nt (.call i_is_integer false (.cons (.ix (.v 3) (.cint 1)) .nil))) (.or (.nt (.b1 .all e_is_row_1)) (.one (.cmp .eq (.b1 .len (.ix (.v 3) (.cint 2))) (.cint 0))))) (.seq (.ret (.cbl false))
    .skip) .skip)
    (.seq (.asg (.nm 6) (.call i_clauses_of false (.cons (.v 0) (.cons (.v 1) .nil))))
    (.seq (.asg (.nm 7) e_is_row_2)
    (.seq (.ite (.or (.cmp .nin (.ix (.ix (.v 3) (.cint 2)) (.neg (.cint 1))) (.v 7)) (.or (.cmp .ne (.ix (.v 3) (.cint 2)) (.call i_way_to false (.cons (.v 6) (.cons (.ix (.ix (.v 3) (.cint 2)) (.neg (.cint 1))) .nil)))) (.one (.cmp .ne (.ix (.v 3) (.cint 3)) (.call i_silent_for false (.cons (.v 6) (.cons (.ix (.v 3) (.cint 2)) .nil))))))) (.seq (.ret (.cbl false))
    .skip) .skip)
    (.seq (.asg (.nm 9) e_is_row_3)
    (.seq (.asg (.nm 10) (.ix (.v 9) (.ix (.ix (.v 3) (.cint 2)) (.neg (.cint 1)))))
    (.seq (.ite (.or (.nt (.call i_truth_in false (.cons (.ix (.v 10) (.cint 1)) (.cons (.ix (.v 0) (.cint 0)) (.cons (.v 2) (.cons (.v 4) .nil)))))) (.one (.cmp .ne (.call i_amount_in false (.cons (.ix (.v 10) (.cint 2)) (.cons (.ix (.v 0) (.cint 0)) (.cons (.v 2) (.cons (.v 4) .nil))))) (.ix (.v 3) (.cint 1))))) (.seq (.ret (.cbl false))
    .skip) .skip)
    (.seq (.ret (.nt (.b1 .any e_is_row_4)))
    .skip)))))))))
def p_is_row : Fd := ⟨⟨#[105, 115, 95, 114, 111, 119]⟩, [⟨#[99, 111, 100, 101]⟩, ⟨#[110, 97, 109, 101]⟩, ⟨#[99, 97, 115, 101]⟩, ⟨#[114, 111, 119]⟩, ⟨#[107, 110, 111, 119, 110]⟩, ⟨#[112, 97, 114, 116]⟩, ⟨#[99, 108, 97, 117, 115, 101, 115]⟩, ⟨#[108, 97, 98, 101, 108, 115]⟩, ⟨#[99, 108, 97, 117, 115, 101]⟩, ⟨#[114, 111, 119, 115]⟩, ⟨#[108, 97, 115, 116]⟩, ⟨#[108, 97, 98, 101, 108]⟩], 5, false, c_is_row⟩
/-- 22: _law_pool(script, salt, cell) -/
def c_law_pool_1 : C := (.seq (.asg (.nm 1) (.bin .mod (.b1 .int (.bin .add (.bin .mul (.v 1) (.cint 31)) (.v 2))) (.cint 1000003)))
    .skip)
def c_law_pool : C := (.seq (.asg (.nm 1) (.cint 7))
    (.seq (.forr (.nm 2) (.sl (.v 0) .nop (.cint 63)) c_law_pool_1)
    (.seq (.ret (.new (.cons (.b1 .list (.v 0)) (.cons (.cint 0) (.cons (.cint 0) (.cons (.cint 0) (.cons (.v 1) .nil)))))))
    .skip)))
def p_law_pool : Fd := ⟨⟨#[95, 108, 97, 119, 95, 112, 111, 111, 108]⟩, [⟨#[115, 99, 114, 105, 112, 116]⟩, ⟨#[115, 97, 108, 116]⟩, ⟨#[99, 101, 108, 108]⟩], 1, false, c_law_pool⟩
/-- 23: _law_spread(cell, blended, whole_sum, k) -/
def c_law_spread_1 : C := (.seq (.asg (.nm 1) (.bin .mod (.b1 .int (.bin .add (.bin .add (.bin .mul (.v 1) (.cint 48271)) (.cint 12345)) (.v 3))) (.cint 2147483647)))
    (.seq (.asg (.nm 2) (.bin .add (.bin .mul (.v 2) (.cint 2147483647)) (.v 1)))
    .skip))
def c_law_spread : C := (.seq (.asg (.nm 1) (.bin .mod (.b1 .int (.v 0)) (.cint 2147483647)))
    (.seq (.asg (.nm 2) (.cint 1))
    (.seq (.forr (.nm 3) (.rg1 (.cint 4)) c_law_spread_1)
    (.seq (.ret (.v 2))
    .skip))))
def p_law_spread : Fd := ⟨⟨#[95, 108, 97, 119, 95, 115, 112, 114, 101, 97, 100]⟩, [⟨#[99, 101, 108, 108]⟩, ⟨#[98, 108, 101, 110, 100, 101, 100]⟩, ⟨#[119, 104, 111, 108, 101, 95, 115, 117, 109]⟩, ⟨#[107]⟩], 1, false, c_law_spread⟩
/-- 24: _law_draw(pool, many, cell, blended, value) -/
def c_law_draw : C := (.seq (.ite (.and (.cmp .le (.rx 0 (.cint 2)) (.cint 0)) (.one (.cmp .lt (.rx 0 (.cint 1)) (.b1 .len (.rx 0 (.cint 0)))))) (.seq (.asg (.nm 2) (.ix (.rx 0 (.cint 0)) (.rx 0 (.cint 1))))
    (.seq (.setr 0 (.cint 1) (.bin .add (.rx 0 (.cint 1)) (.cint 1)))
    (.seq (.setr 0 (.cint 2) (.v 2))
    (.seq (.ite (.cmp .lt (.v 2) (.cint 1000000000000000000)) (.seq (.setr 0 (.cint 2) (.call i_law_spread false (.cons (.v 2) .nil)))
    .skip) .skip)
    .skip)))) .skip)
    (.seq (.setr 0 (.cint 3) (.bin .add (.rx 0 (.cint 3)) (.cint 1)))
    (.seq (.ite (.cmp .le (.rx 0 (.cint 2)) (.cint 0)) (.seq (.asg (.nm 3) (.bin .mod (.b1 .int (.bin .add (.bin .add (.bin .mul (.rx 0 (.cint 4)) (.cint 48271)) (.bin .mul (.rx 0 (.cint 3)) (.cint 69621))) (.cint 1))) (.cint 2147483647)))
    (.seq (.asg (.nm 3) (.bin .mod (.b1 .int (.bin .add (.bin .mul (.v 3) (.cint 16807)) (.rx 0 (.cint 3)))) (.cint 2147483629)))
    (.seq (.ret (.bin .mod (.bin .fdv (.v 3) (.cint 5)) (.v 1)))
    .skip))) .skip)
    (.seq (.asg (.nm 4) (.bin .mod (.b1 .int (.rx 0 (.cint 2))) (.v 1)))
    (.seq (.setr 0 (.cint 2) (.bin .fdv (.rx 0 (.cint 2)) (.v 1)))
    (.seq (.ret (.v 4))
    .skip))))))
def p_law_draw : Fd := ⟨⟨#[95, 108, 97, 119, 95, 100, 114, 97, 119]⟩, [⟨#[112, 111, 111, 108]⟩, ⟨#[109, 97, 110, 121]⟩, ⟨#[99, 101, 108, 108]⟩, ⟨#[98, 108, 101, 110, 100, 101, 100]⟩, ⟨#[118, 97, 108, 117, 101]⟩], 2, false, c_law_draw⟩
/-- 25: _law_facts(pool, most, names, found, k, words, low) -/
def c_law_facts_1 : C := (.seq (.ite (.cmp .eq (.call i_law_draw false (.cons (.v 0) (.cons (.cint 3) .nil))) (.cint 0)) (.seq (.asg (.nm 5) (.sl (.tup (.cons (.cstr ⟨#[110, 111]⟩) (.cons (.cstr ⟨#[115, 111]⟩) (.cons (.cstr ⟨#[121, 101, 115]⟩) .nil)))) .nop (.bin .add (.cint 2) (.call i_law_draw false (.cons (.v 0) (.cons (.cint 2) .nil))))))
    (.seq (.app 3 (.tup (.cons (.ix (.v 2) (.v 4)) (.cons (.cint 0) (.cons (.bin .sub (.b1 .len (.v 5)) (.cint 1)) (.cons (.v 5) .nil))))))
    .skip)) (.seq (.asg (.nm 6) (.bin .sub (.call i_law_draw false (.cons (.v 0) (.cons (.cint 6) .nil))) (.cint 3)))
    (.seq (.app 3 (.tup (.cons (.ix (.v 2) (.v 4)) (.cons (.v 6) (.cons (.bin .add (.v 6) (.call i_law_draw false (.cons (.v 0) (.cons (.cint 5) .nil)))) (.cons (.tup .nil) .nil))))))
    .skip)))
    .skip)
def c_law_facts : C := (.seq (.asg (.nm 2) (.tup (.cons (.cstr ⟨#[97, 97]⟩) (.cons (.cstr ⟨#[98, 98]⟩) (.cons (.cstr ⟨#[99, 99]⟩) (.cons (.cstr ⟨#[100, 100]⟩) .nil))))))
    (.seq (.asg (.nm 3) (.lst .nil))
    (.seq (.forr (.nm 4) (.rg1 (.call i_law_draw false (.cons (.v 0) (.cons (.bin .add (.v 1) (.cint 1)) .nil)))) c_law_facts_1)
    (.seq (.ret (.b1 .tuple (.v 3)))
    .skip))))
def p_law_facts : Fd := ⟨⟨#[95, 108, 97, 119, 95, 102, 97, 99, 116, 115]⟩, [⟨#[112, 111, 111, 108]⟩, ⟨#[109, 111, 115, 116]⟩, ⟨#[110, 97, 109, 101, 115]⟩, ⟨#[102, 111, 117, 110, 100]⟩, ⟨#[107]⟩, ⟨#[119, 111, 114, 100, 115]⟩, ⟨#[108, 111, 119]⟩], 2, false, c_law_facts⟩
/-- 26: _law_amount(pool, facts, terms, deep, turn, one) -/
def c_law_amount : C := (.seq (.asg (.nm 4) (.call i_law_draw false (.cons (.v 0) (.cons (.ife (.cmp .gt (.v 3) (.cint 0)) (.cint 12) (.cint 6)) .nil))))
    (.seq (.ite (.or (.cmp .lt (.v 4) (.cint 2)) (.or (.and (.cmp .lt (.v 4) (.cint 5)) (.one (.cmp .eq (.b1 .len (.v 1)) (.cint 0)))) (.one (.and (.cmp .eq (.v 4) (.cint 5)) (.one (.cmp .eq (.b1 .len (.v 2)) (.cint 0))))))) (.seq (.ret (.tup (.cons (.cstr ⟨#[110, 117, 109]⟩) (.cons (.bin .sub (.call i_law_draw false (.cons (.v 0) (.cons (.cint 13) .nil))) (.cint 4)) .nil))))
    .skip) .skip)
    (.seq (.ite (.cmp .lt (.v 4) (.cint 5)) (.seq (.ret (.tup (.cons (.cstr ⟨#[102, 97, 99, 116]⟩) (.cons (.ix (.ix (.v 1) (.call i_law_draw false (.cons (.v 0) (.cons (.b1 .len (.v 1)) .nil)))) (.cint 0)) .nil))))
    .skip) .skip)
    (.seq (.ite (.cmp .eq (.v 4) (.cint 5)) (.seq (.ret (.tup (.cons (.cstr ⟨#[116, 101, 114, 109]⟩) (.cons (.ix (.v 2) (.call i_law_draw false (.cons (.v 0) (.cons (.b1 .len (.v 2)) .nil)))) .nil))))
    .skip) .skip)
    (.seq (.asg (.nm 5) (.call i_law_amount false (.cons (.v 0) (.cons (.v 1) (.cons (.v 2) (.cons (.bin .sub (.v 3) (.cint 1)) .nil))))))
    (.seq (.ite (.cmp .eq (.v 4) (.cint 6)) (.seq (.ret (.tup (.cons (.cstr ⟨#[116, 105, 109, 101, 115]⟩) (.cons (.bin .sub (.call i_law_draw false (.cons (.v 0) (.cons (.cint 6) .nil))) (.cint 2)) (.cons (.v 5) .nil)))))
    .skip) .skip)
    (.seq (.ite (.cmp .eq (.v 4) (.cint 7)) (.seq (.ret (.tup (.cons (.cstr ⟨#[112, 97, 114, 116]⟩) (.cons (.v 5) (.cons (.bin .add (.cint 1) (.call i_law_draw false (.cons (.v 0) (.cons (.cint 4) .nil)))) .nil)))))
    .skip) .skip)
    (.seq (.ret (.tup (.cons (.ix (.tup (.cons (.cstr ⟨#[112, 108, 117, 115]⟩) (.cons (.cstr ⟨#[108, 101, 115, 115]⟩) (.cons (.cstr ⟨#[108, 101, 97, 115, 116]⟩) (.cons (.cstr ⟨#[109, 111, 115, 116]⟩) .nil))))) (.bin .sub (.v 4) (.cint 8))) (.cons (.v 5) (.cons (.call i_law_amount false (.cons (.v 0) (.cons (.v 1) (.cons (.v 2) (.cons (.bin .sub (.v 3) (.cint 1)) .nil))))) .nil)))))
    .skip))))))))
def p_law_amount : Fd := ⟨⟨#[95, 108, 97, 119, 95, 97, 109, 111, 117, 110, 116]⟩, [⟨#[112, 111, 111, 108]⟩, ⟨#[102, 97, 99, 116, 115]⟩, ⟨#[116, 101, 114, 109, 115]⟩, ⟨#[100, 101, 101, 112]⟩, ⟨#[116, 117, 114, 110]⟩, ⟨#[111, 110, 101]⟩], 4, false, c_law_amount⟩
/-- 27: _law_condition(pool, facts, terms, deep, turn, one) -/
def c_law_condition : C := (.seq (.asg (.nm 4) (.call i_law_draw false (.cons (.v 0) (.cons (.ife (.cmp .gt (.v 3) (.cint 0)) (.cint 9) (.cint 5)) .nil))))
    (.seq (.ite (.cmp .eq (.v 4) (.cint 0)) (.seq (.ret (.tup (.cons (.cstr ⟨#[116, 114, 117, 101]⟩) .nil)))
    .skip) .skip)
    (.seq (.ite (.cmp .lt (.v 4) (.cint 5)) (.seq (.ret (.tup (.cons (.ix (.tup (.cons (.cstr ⟨#[105, 115]⟩) (.cons (.cstr ⟨#[98, 101, 108, 111, 119]⟩) .nil))) (.call i_law_draw false (.cons (.v 0) (.cons (.cint 2) .nil)))) (.cons (.call i_law_amount false (.cons (.v 0) (.cons (.v 1) (.cons (.v 2) (.cons (.cint 1) .nil))))) (.cons (.call i_law_amount false (.cons (.v 0) (.cons (.v 1) (.cons (.v 2) (.cons (.cint 1) .nil))))) .nil)))))
    .skip) .skip)
    (.seq (.asg (.nm 5) (.call i_law_condition false (.cons (.v 0) (.cons (.v 1) (.cons (.v 2) (.cons (.bin .sub (.v 3) (.cint 1)) .nil))))))
    (.seq (.ret (.ife (.cmp .lt (.v 4) (.cint 7)) (.tup (.cons (.cstr ⟨#[110, 111, 116]⟩) (.cons (.v 5) .nil))) (.tup (.cons (.ix (.tup (.cons (.cstr ⟨#[98, 111, 116, 104]⟩) (.cons (.cstr ⟨#[101, 105, 116, 104, 101, 114]⟩) .nil))) (.bin .sub (.v 4) (.cint 7))) (.cons (.v 5) (.cons (.call i_law_condition false (.cons (.v 0) (.cons (.v 1) (.cons (.v 2) (.cons (.bin .sub (.v 3) (.cint 1)) .nil))))) .nil))))))
    .skip)))))
def p_law_condition : Fd := ⟨⟨#[95, 108, 97, 119, 95, 99, 111, 110, 100, 105, 116, 105, 111, 110]⟩, [⟨#[112, 111, 111, 108]⟩, ⟨#[102, 97, 99, 116, 115]⟩, ⟨#[116, 101, 114, 109, 115]⟩, ⟨#[100, 101, 101, 112]⟩, ⟨#[116, 117, 114, 110]⟩, ⟨#[111, 110, 101]⟩], 4, false, c_law_condition⟩
/-- 28: _law_chains(pool, facts, many, mark, terms, labels, k, before, term, clauses, j, condition, over) -/
def e_law_chains_1 : E := .lc [(⟨#[116, 101, 114, 109]⟩, 8)] (.nm 8) (.v 4) .nop (.ix (.v 8) (.cint 0))
def c_law_chains_2 : C := (.seq (.asg (.nm 11) (.ife (.cmp .eq (.v 10) (.cint 0)) (.tup (.cons (.cstr ⟨#[116, 114, 117, 101]⟩) .nil)) (.call i_law_condition false (.cons (.v 0) (.cons (.v 1) (.cons (.v 7) (.cons (.cint 2) .nil)))))))
    (.seq (.asg (.nm 12) (.ife (.cmp .eq (.v 10) (.cint 0)) .cnon (.ix (.ix (.v 9) (.bin .sub (.v 10) (.cint 1))) (.cint 0))))
    (.seq (.app 9 (.tup (.cons (.bin .add (.v 3) (.ix (.cstr ⟨#[97, 98, 99, 100, 101, 102, 103, 104, 105, 106, 107, 108, 109, 110, 111, 112, 113, 114]⟩) (.v 5))) (.cons (.v 11) (.cons (.call i_law_amount false (.cons (.v 0) (.cons (.v 1) (.cons (.v 7) (.cons (.cint 2) .nil))))) (.cons (.v 12) .nil))))))
    (.seq (.asg (.nm 5) (.bin .add (.v 5) (.cint 1)))
    .skip))))
def c_law_chains_1 : C := (.seq (.asg (.nm 7) (.bor e_law_chains_1))
    (.seq (.asg (.nm 9) (.lst .nil))
    (.seq (.forr (.nm 10) (.rg1 (.bin .add (.cint 1) (.call i_law_draw false (.cons (.v 0) (.cons (.cint 4) .nil))))) c_law_chains_2)
    (.seq (.app 4 (.tup (.cons (.ix (.tup (.cons (.cstr ⟨#[112, 112]⟩) (.cons (.cstr ⟨#[113, 113]⟩) (.cons (.cstr ⟨#[114, 114]⟩) .nil)))) (.v 6)) (.cons (.b1 .tuple (.v 9)) .nil))))
    .skip))))
def c_law_chains : C := (.seq (.par 4 5 (.lst .nil) (.cint 0))
    (.seq (.forr (.nm 6) (.rg1 (.bin .add (.cint 1) (.call i_law_draw false (.cons (.v 0) (.cons (.v 2) .nil))))) c_law_chains_1)
    (.seq (.ret (.b1 .tuple (.v 4)))
    .skip)))
def p_law_chains : Fd := ⟨⟨#[95, 108, 97, 119, 95, 99, 104, 97, 105, 110, 115]⟩, [⟨#[112, 111, 111, 108]⟩, ⟨#[102, 97, 99, 116, 115]⟩, ⟨#[109, 97, 110, 121]⟩, ⟨#[109, 97, 114, 107]⟩, ⟨#[116, 101, 114, 109, 115]⟩, ⟨#[108, 97, 98, 101, 108, 115]⟩, ⟨#[107]⟩, ⟨#[98, 101, 102, 111, 114, 101]⟩, ⟨#[116, 101, 114, 109]⟩, ⟨#[99, 108, 97, 117, 115, 101, 115]⟩, ⟨#[106]⟩, ⟨#[99, 111, 110, 100, 105, 116, 105, 111, 110]⟩, ⟨#[111, 118, 101, 114]⟩], 4, false, c_law_chains⟩
/-- 29: _law_terms(pool, facts, many, mark, terms, labels, k, before, term, clauses, j, over, condition) -/
def e_law_terms_1 : E := .lc [(⟨#[116, 101, 114, 109]⟩, 8)] (.nm 8) (.v 4) .nop (.ix (.v 8) (.cint 0))
def c_law_terms_2 : C := (.seq (.asg (.nm 11) (.ife (.or (.cmp .eq (.v 10) (.cint 0)) (.one (.cmp .eq (.call i_law_draw false (.cons (.v 0) (.cons (.cint 4) .nil))) (.cint 0)))) .cnon (.ix (.ix (.v 9) (.call i_law_draw false (.cons (.v 0) (.cons (.v 10) .nil)))) (.cint 0))))
    (.seq (.asg (.nm 12) (.ife (.and (.cmp .eq (.v 10) (.cint 0)) (.one (.cmp .gt (.call i_law_draw false (.cons (.v 0) (.cons (.cint 3) .nil))) (.cint 0)))) (.tup (.cons (.cstr ⟨#[116, 114, 117, 101]⟩) .nil)) (.call i_law_condition false (.cons (.v 0) (.cons (.v 1) (.cons (.v 7) (.cons (.cint 2) .nil)))))))
    (.seq (.app 9 (.tup (.cons (.bin .add (.v 3) (.ix (.cstr ⟨#[97, 98, 99, 100, 101, 102, 103, 104, 105, 106, 107, 108, 109, 110, 111, 112, 113, 114]⟩) (.v 5))) (.cons (.v 12) (.cons (.call i_law_amount false (.cons (.v 0) (.cons (.v 1) (.cons (.v 7) (.cons (.cint 2) .nil))))) (.cons (.v 11) .nil))))))
    (.seq (.asg (.nm 5) (.bin .add (.v 5) (.cint 1)))
    .skip))))
def c_law_terms_1 : C := (.seq (.asg (.nm 7) (.bor e_law_terms_1))
    (.seq (.asg (.nm 9) (.lst .nil))
    (.seq (.forr (.nm 10) (.rg1 (.bin .add (.cint 1) (.call i_law_draw false (.cons (.v 0) (.cons (.cint 4) .nil))))) c_law_terms_2)
    (.seq (.app 4 (.tup (.cons (.ix (.tup (.cons (.cstr ⟨#[112, 112]⟩) (.cons (.cstr ⟨#[113, 113]⟩) (.cons (.cstr ⟨#[114, 114]⟩) .nil)))) (.v 6)) (.cons (.b1 .tuple (.v 9)) .nil))))
    .skip))))
def c_law_terms : C := (.seq (.par 4 5 (.lst .nil) (.cint 0))
    (.seq (.forr (.nm 6) (.rg1 (.bin .add (.cint 1) (.call i_law_draw false (.cons (.v 0) (.cons (.v 2) .nil))))) c_law_terms_1)
    (.seq (.ret (.b1 .tuple (.v 4)))
    .skip)))
def p_law_terms : Fd := ⟨⟨#[95, 108, 97, 119, 95, 116, 101, 114, 109, 115]⟩, [⟨#[112, 111, 111, 108]⟩, ⟨#[102, 97, 99, 116, 115]⟩, ⟨#[109, 97, 110, 121]⟩, ⟨#[109, 97, 114, 107]⟩, ⟨#[116, 101, 114, 109, 115]⟩, ⟨#[108, 97, 98, 101, 108, 115]⟩, ⟨#[107]⟩, ⟨#[98, 101, 102, 111, 114, 101]⟩, ⟨#[116, 101, 114, 109]⟩, ⟨#[99, 108, 97, 117, 115, 101, 115]⟩, ⟨#[106]⟩, ⟨#[111, 118, 101, 114]⟩, ⟨#[99, 111, 110, 100, 105, 116, 105, 111, 110]⟩], 4, false, c_law_terms⟩
/-- 30: _law_some_code(pool, most, many, facts) -/
def c_law_some_code : C := (.seq (.asg (.nm 3) (.call i_law_facts false (.cons (.v 0) (.cons (.v 1) .nil))))
    (.seq (.ite (.cmp .eq (.b1 .len (.v 3)) (.cint 0)) (.seq (.asg (.nm 3) (.tup (.cons (.tup (.cons (.cstr ⟨#[97, 97]⟩) (.cons (.neg (.cint 1)) (.cons (.bin .add (.cint 1) (.call i_law_draw false (.cons (.v 0) (.cons (.cint 5) .nil)))) (.cons (.tup .nil) .nil))))) .nil)))
    .skip) .skip)
    (.seq (.ite (.cmp .eq (.call i_law_draw false (.cons (.v 0) (.cons (.cint 2) .nil))) (.cint 0)) (.seq (.ret (.tup (.cons (.v 3) (.cons (.call i_law_chains false (.cons (.v 0) (.cons (.v 3) (.cons (.v 2) (.cons (.cstr ⟨#[108]⟩) .nil))))) .nil))))
    .skip) .skip)
    (.seq (.ret (.tup (.cons (.v 3) (.cons (.call i_law_terms false (.cons (.v 0) (.cons (.v 3) (.cons (.v 2) (.cons (.cstr ⟨#[108]⟩) .nil))))) .nil))))
    .skip))))
def p_law_some_code : Fd := ⟨⟨#[95, 108, 97, 119, 95, 115, 111, 109, 101, 95, 99, 111, 100, 101]⟩, [⟨#[112, 111, 111, 108]⟩, ⟨#[109, 111, 115, 116]⟩, ⟨#[109, 97, 110, 121]⟩, ⟨#[102, 97, 99, 116, 115]⟩], 3, false, c_law_some_code⟩
/-- 31: _law_pick(pool, items) -/
def c_law_pick : C := (.seq (.ret (.ix (.v 1) (.call i_law_draw false (.cons (.v 0) (.cons (.b1 .len (.v 1)) .nil)))))
    .skip)
def p_law_pick : Fd := ⟨⟨#[95, 108, 97, 119, 95, 112, 105, 99, 107]⟩, [⟨#[112, 111, 111, 108]⟩, ⟨#[105, 116, 101, 109, 115]⟩], 2, false, c_law_pick⟩
/-- 32: _law_cases(facts, found, fact, longer, row, x) -/
def e_law_cases_1 : E := .lc [(⟨#[120]⟩, 5)] (.nm 5) (.rg2 (.ix (.v 2) (.cint 1)) (.bin .add (.ix (.v 2) (.cint 2)) (.cint 1))) .nop (.bin .add (.v 4) (.tup (.cons (.v 5) .nil)))
def c_law_cases_2 : C := (.seq (.asg (.nm 3) (.bin .add (.v 3) e_law_cases_1))
    .skip)
def c_law_cases_1 : C := (.seq (.asg (.nm 3) (.lst .nil))
    (.seq (.forr (.nm 4) (.v 1) c_law_cases_2)
    (.seq (.asg (.nm 1) (.v 3))
    .skip)))
def c_law_cases : C := (.seq (.asg (.nm 1) (.lst (.cons (.tup .nil) .nil)))
    (.seq (.forr (.nm 2) (.v 0) c_law_cases_1)
    (.seq (.ret (.v 1))
    .skip)))
def p_law_cases : Fd := ⟨⟨#[95, 108, 97, 119, 95, 99, 97, 115, 101, 115]⟩, [⟨#[102, 97, 99, 116, 115]⟩, ⟨#[102, 111, 117, 110, 100]⟩, ⟨#[102, 97, 99, 116]⟩, ⟨#[108, 111, 110, 103, 101, 114]⟩, ⟨#[114, 111, 119]⟩, ⟨#[120]⟩], 1, false, c_law_cases⟩
/-- 33: _law_names(part, word, found, one) -/
def c_law_names_1 : C := (.seq (.asg (.nm 2) (.bin .add (.v 2) (.ife (.and (.isi (.v 3) .tuple) (.one (.cmp .nin (.ix (.v 0) (.cint 0)) (.tup (.cons (.cstr ⟨#[110, 117, 109]⟩) (.cons (.cstr ⟨#[102, 97, 99, 116]⟩) (.cons (.cstr ⟨#[116, 101, 114, 109]⟩) .nil))))))) (.call i_law_names false (.cons (.v 3) (.cons (.v 1) .nil))) (.lst .nil))))
    .skip)
def c_law_names : C := (.seq (.ite (.cmp .eq (.ix (.v 0) (.cint 0)) (.v 1)) (.seq (.ret (.lst (.cons (.ix (.v 0) (.cint 1)) .nil)))
    .skip) .skip)
    (.seq (.asg (.nm 2) (.lst .nil))
    (.seq (.forr (.nm 3) (.sl (.v 0) (.cint 1) .nop) c_law_names_1)
    (.seq (.ret (.v 2))
    .skip))))
def p_law_names : Fd := ⟨⟨#[95, 108, 97, 119, 95, 110, 97, 109, 101, 115]⟩, [⟨#[112, 97, 114, 116]⟩, ⟨#[119, 111, 114, 100]⟩, ⟨#[102, 111, 117, 110, 100]⟩, ⟨#[111, 110, 101]⟩], 2, false, c_law_names⟩
/-- 34: _law_place(facts, name, k) -/
def e_law_place_1 : E := .lc [(⟨#[107]⟩, 2)] (.nm 2) (.rg1 (.b1 .len (.v 0))) (.cmp .eq (.ix (.ix (.v 0) (.v 2)) (.cint 0)) (.v 1)) (.v 2)
def c_law_place : C := (.seq (.ret (.ix e_law_place_1 (.cint 0)))
    .skip)
def p_law_place : Fd := ⟨⟨#[95, 108, 97, 119, 95, 112, 108, 97, 99, 101]⟩, [⟨#[102, 97, 99, 116, 115]⟩, ⟨#[110, 97, 109, 101]⟩, ⟨#[107]⟩], 2, false, c_law_place⟩
/-- 35: _law_worked(a, facts, case, known, word, one, two) -/
def c_law_worked : C := (.seq (.asg (.nm 4) (.ix (.v 0) (.cint 0)))
    (.seq (.ite (.cmp .eq (.v 4) (.cstr ⟨#[110, 117, 109]⟩)) (.seq (.ret (.ix (.v 0) (.cint 1)))
    .skip) .skip)
    (.seq (.ite (.cmp .eq (.v 4) (.cstr ⟨#[102, 97, 99, 116]⟩)) (.seq (.ret (.ix (.v 2) (.call i_law_place false (.cons (.v 1) (.cons (.ix (.v 0) (.cint 1)) .nil)))))
    .skip) .skip)
    (.seq (.ite (.cmp .eq (.v 4) (.cstr ⟨#[116, 101, 114, 109]⟩)) (.seq (.ret (.ix (.v 3) (.ix (.v 0) (.cint 1))))
    .skip) .skip)
    (.seq (.ite (.cmp .eq (.v 4) (.cstr ⟨#[116, 105, 109, 101, 115]⟩)) (.seq (.ret (.bin .mul (.ix (.v 0) (.cint 1)) (.call i_law_worked false (.cons (.ix (.v 0) (.cint 2)) (.cons (.v 1) (.cons (.v 2) (.cons (.v 3) .nil)))))))
    .skip) .skip)
    (.seq (.asg (.nm 5) (.call i_law_worked false (.cons (.ix (.v 0) (.cint 1)) (.cons (.v 1) (.cons (.v 2) (.cons (.v 3) .nil))))))
    (.seq (.ite (.cmp .eq (.v 4) (.cstr ⟨#[112, 97, 114, 116]⟩)) (.seq (.ret (.bin .fdv (.v 5) (.ix (.v 0) (.cint 2))))
    .skip) .skip)
    (.seq (.asg (.nm 6) (.call i_law_worked false (.cons (.ix (.v 0) (.cint 2)) (.cons (.v 1) (.cons (.v 2) (.cons (.v 3) .nil))))))
    (.seq (.ite (.cmp .inn (.v 4) (.tup (.cons (.cstr ⟨#[112, 108, 117, 115]⟩) (.cons (.cstr ⟨#[108, 101, 115, 115]⟩) .nil)))) (.seq (.ret (.ife (.cmp .eq (.v 4) (.cstr ⟨#[112, 108, 117, 115]⟩)) (.bin .add (.v 5) (.v 6)) (.bin .sub (.v 5) (.v 6))))
    .skip) .skip)
    (.seq (.ret (.ife (.cmp .eq (.v 4) (.cstr ⟨#[108, 101, 97, 115, 116]⟩)) (.b1 .min1 (.lst (.cons (.v 5) (.cons (.v 6) .nil)))) (.b1 .max1 (.lst (.cons (.v 5) (.cons (.v 6) .nil))))))
    .skip))))))))))
def p_law_worked : Fd := ⟨⟨#[95, 108, 97, 119, 95, 119, 111, 114, 107, 101, 100]⟩, [⟨#[97]⟩, ⟨#[102, 97, 99, 116, 115]⟩, ⟨#[99, 97, 115, 101]⟩, ⟨#[107, 110, 111, 119, 110]⟩, ⟨#[119, 111, 114, 100]⟩, ⟨#[111, 110, 101]⟩, ⟨#[116, 119, 111]⟩], 4, false, c_law_worked⟩
/-- 36: _law_truth(c, facts, case, known, word, one, two) -/
def c_law_truth : C := (.seq (.asg (.nm 4) (.ix (.v 0) (.cint 0)))
    (.seq (.ite (.cmp .eq (.v 4) (.cstr ⟨#[116, 114, 117, 101]⟩)) (.seq (.ret (.cbl true))
    .skip) .skip)
    (.seq (.ite (.cmp .eq (.v 4) (.cstr ⟨#[110, 111, 116]⟩)) (.seq (.ret (.nt (.call i_law_truth false (.cons (.ix (.v 0) (.cint 1)) (.cons (.v 1) (.cons (.v 2) (.cons (.v 3) .nil)))))))
    .skip) .skip)
    (.seq (.ite (.cmp .inn (.v 4) (.tup (.cons (.cstr ⟨#[98, 111, 116, 104]⟩) (.cons (.cstr ⟨#[101, 105, 116, 104, 101, 114]⟩) .nil)))) (.seq (.par 5 6 (.call i_law_truth false (.cons (.ix (.v 0) (.cint 1)) (.cons (.v 1) (.cons (.v 2) (.cons (.v 3) .nil))))) (.call i_law_truth false (.cons (.ix (.v 0) (.cint 2)) (.cons (.v 1) (.cons (.v 2) (.cons (.v 3) .nil))))))
    (.seq (.ret (.ife (.cmp .eq (.v 4) (.cstr ⟨#[98, 111, 116, 104]⟩)) (.and (.v 5) (.one (.v 6))) (.or (.v 5) (.one (.v 6)))))
    .skip)) .skip)
    (.seq (.par 5 6 (.call i_law_worked false (.cons (.ix (.v 0) (.cint 1)) (.cons (.v 1) (.cons (.v 2) (.cons (.v 3) .nil))))) (.call i_law_worked false (.cons (.ix (.v 0) (.cint 2)) (.cons (.v 1) (.cons (.v 2) (.cons (.v 3) .nil))))))
    (.seq (.ret (.ife (.cmp .eq (.v 4) (.cstr ⟨#[105, 115]⟩)) (.cmp .eq (.v 5) (.v 6)) (.cmp .lt (.v 5) (.v 6))))
    .skip))))))
def p_law_truth : Fd := ⟨⟨#[95, 108, 97, 119, 95, 116, 114, 117, 116, 104]⟩, [⟨#[99]⟩, ⟨#[102, 97, 99, 116, 115]⟩, ⟨#[99, 97, 115, 101]⟩, ⟨#[107, 110, 111, 119, 110]⟩, ⟨#[119, 111, 114, 100]⟩, ⟨#[111, 110, 101]⟩, ⟨#[116, 119, 111]⟩], 4, false, c_law_truth⟩
/-- 37: _law_heard(clauses, over, speaks, told, clause, one) -/
def c_law_heard_1 : C := (.seq (.ite (.cmp .eq (.ix (.v 4) (.cint 3)) (.v 1)) (.seq (.asg (.nm 5) (.call i_law_heard false (.cons (.v 0) (.cons (.ix (.v 4) (.cint 0)) (.cons (.v 2) .nil)))))
    (.seq (.ite (.cmp .eq (.b1 .len (.v 5)) (.cint 2)) (.seq (.ret (.v 5))
    .skip) .skip)
    (.seq (.asg (.nm 5) (.ife (.cmp .eq (.b1 .len (.v 5)) (.cint 1)) (.v 5) (.ife (.ix (.v 2) (.ix (.v 4) (.cint 0))) (.tup (.cons (.ix (.v 4) (.cint 0)) .nil)) (.tup .nil))))
    (.seq (.asg (.nm 3) (.bin .add (.v 3) (.b1 .list (.v 5))))
    .skip)))) .skip)
    .skip)
def c_law_heard : C := (.seq (.asg (.nm 3) (.lst .nil))
    (.seq (.forr (.nm 4) (.v 0) c_law_heard_1)
    (.seq (.ret (.b1 .tuple (.sl (.v 3) .nop (.cint 2))))
    .skip)))
def p_law_heard : Fd := ⟨⟨#[95, 108, 97, 119, 95, 104, 101, 97, 114, 100]⟩, [⟨#[99, 108, 97, 117, 115, 101, 115]⟩, ⟨#[111, 118, 101, 114]⟩, ⟨#[115, 112, 101, 97, 107, 115]⟩, ⟨#[116, 111, 108, 100]⟩, ⟨#[99, 108, 97, 117, 115, 101]⟩, ⟨#[111, 110, 101]⟩], 3, false, c_law_heard⟩
/-- 38: _law_term_in(code, name, case, known, clauses, used, clause, other, rows, values, speaks, found, amount) -/
def c_law_term_in_1 : C := (.seq (.asg (.nm 5) (.bin .add (.bin .add (.v 5) (.call i_law_names false (.cons (.ix (.v 6) (.cint 1)) (.cons (.cstr ⟨#[116, 101, 114, 109]⟩) .nil)))) (.call i_law_names false (.cons (.ix (.v 6) (.cint 2)) (.cons (.cstr ⟨#[116, 101, 114, 109]⟩) .nil)))))
    .skip)
def c_law_term_in_2 : C := (.seq (.ite (.and (.cmp .inn (.v 7) (.v 5)) (.one (.cmp .ne (.ix (.ix (.v 3) (.v 7)) (.cint 0)) (.cstr ⟨#[116, 111, 108, 100]⟩)))) (.seq (.ret (.tup (.cons (.cstr ⟨#[119, 97, 105, 116, 115]⟩) (.cons (.v 7) .nil))))
    .skip) .skip)
    .skip)
def e_law_term_in_1 : E := .lc [(⟨#[111, 116, 104, 101, 114]⟩, 7)] (.nm 7) (.b1 .list (.v 3)) (.cmp .eq (.ix (.ix (.v 3) (.v 7)) (.cint 0)) (.cstr ⟨#[116, 111, 108, 100]⟩)) (.tup (.cons (.v 7) (.cons (.ix (.ix (.v 3) (.v 7)) (.cint 1)) .nil)))
def e_law_term_in_2 : E := .lc [(⟨#[99, 108, 97, 117, 115, 101]⟩, 6)] (.nm 6) (.v 4) .nop (.tup (.cons (.ix (.v 6) (.cint 0)) (.cons (.call i_law_truth false (.cons (.ix (.v 6) (.cint 1)) (.cons (.ix (.v 0) (.cint 0)) (.cons (.v 2) (.cons (.v 9) .nil))))) .nil)))
def e_law_term_in_3 : E := .lc [(⟨#[99, 108, 97, 117, 115, 101]⟩, 6)] (.nm 6) (.v 4) (.cmp .eq (.ix (.v 6) (.cint 0)) (.ix (.v 11) (.cint 0))) (.ix (.v 6) (.cint 2))
def c_law_term_in : C := (.seq (.asg (.nm 4) (.ix (.b1 .dict (.ix (.v 0) (.cint 1))) (.v 1)))
    (.seq (.asg (.nm 5) (.lst .nil))
    (.seq (.forr (.nm 6) (.v 4) c_law_term_in_1)
    (.seq (.forr (.tp (.cons (.nm 7) (.cons (.nm 8) .nil))) (.ix (.v 0) (.cint 1)) c_law_term_in_2)
    (.seq (.asg (.nm 9) (.b1 .dict e_law_term_in_1))
    (.seq (.asg (.nm 10) (.b1 .dict e_law_term_in_2))
    (.seq (.asg (.nm 11) (.call i_law_heard false (.cons (.v 4) (.cons .cnon (.cons (.v 10) .nil)))))
    (.seq (.ite (.cmp .eq (.b1 .len (.v 11)) (.cint 0)) (.seq (.ret (.tup (.cons (.cstr ⟨#[103, 97, 112]⟩) .nil)))
    .skip) .skip)
    (.seq (.ite (.cmp .eq (.b1 .len (.v 11)) (.cint 2)) (.seq (.ret (.bin .add (.tup (.cons (.cstr ⟨#[99, 108, 97, 115, 104]⟩) .nil)) (.v 11)))
    .skip) .skip)
    (.seq (.asg (.nm 12) (.ix e_law_term_in_3 (.cint 0)))
    (.seq (.ret (.tup (.cons (.cstr ⟨#[116, 111, 108, 100]⟩) (.cons (.call i_law_worked false (.cons (.v 12) (.cons (.ix (.v 0) (.cint 0)) (.cons (.v 2) (.cons (.v 9) .nil))))) (.cons (.ix (.v 11) (.cint 0)) .nil)))))
    .skip)))))))))))
def p_law_term_in : Fd := ⟨⟨#[95, 108, 97, 119, 95, 116, 101, 114, 109, 95, 105, 110]⟩, [⟨#[99, 111, 100, 101]⟩, ⟨#[110, 97, 109, 101]⟩, ⟨#[99, 97, 115, 101]⟩, ⟨#[107, 110, 111, 119, 110]⟩, ⟨#[99, 108, 97, 117, 115, 101, 115]⟩, ⟨#[117, 115, 101, 100]⟩, ⟨#[99, 108, 97, 117, 115, 101]⟩, ⟨#[111, 116, 104, 101, 114]⟩, ⟨#[114, 111, 119, 115]⟩, ⟨#[118, 97, 108, 117, 101, 115]⟩, ⟨#[115, 112, 101, 97, 107, 115]⟩, ⟨#[102, 111, 117, 110, 100]⟩, ⟨#[97, 109, 111, 117, 110, 116]⟩], 4, false, c_law_term_in⟩
/-- 39: _law_all_in(code, case, known, name, clauses) -/
def c_law_all_in_1 : C := (.seq (.setd 2 (.v 3) (.call i_law_term_in true (.cons (.v 0) (.cons (.v 3) (.cons (.v 1) (.cons (.v 2) .nil))))))
    .skip)
def c_law_all_in : C := (.seq (.asg (.nm 2) .dnil)
    (.seq (.forr (.tp (.cons (.nm 3) (.cons (.nm 4) .nil))) (.ix (.v 0) (.cint 1)) c_law_all_in_1)
    (.seq (.ret (.v 2))
    .skip)))
def p_law_all_in : Fd := ⟨⟨#[95, 108, 97, 119, 95, 97, 108, 108, 95, 105, 110]⟩, [⟨#[99, 111, 100, 101]⟩, ⟨#[99, 97, 115, 101]⟩, ⟨#[107, 110, 111, 119, 110]⟩, ⟨#[110, 97, 109, 101]⟩, ⟨#[99, 108, 97, 117, 115, 101, 115]⟩], 2, false, c_law_all_in⟩
/-- 40: _law_in(code, name, case) -/
def c_law_in : C := (.seq (.ret (.ix (.call i_law_all_in false (.cons (.v 0) (.cons (.v 2) .nil))) (.v 1)))
    .skip)
def p_law_in : Fd := ⟨⟨#[95, 108, 97, 119, 95, 105, 110]⟩, [⟨#[99, 111, 100, 101]⟩, ⟨#[110, 97, 109, 101]⟩, ⟨#[99, 97, 115, 101]⟩], 3, false, c_law_in⟩
/-- 41: _law_same(actual, due, k) -/
def e_law_same_1 : E := .lc [(⟨#[107]⟩, 2)] (.nm 2) (.rg1 (.b1 .len (.v 1))) (.nt (.call i_law_same false (.cons (.ix (.v 0) (.v 2)) (.cons (.ix (.v 1) (.v 2)) .nil)))) (.v 2)
def c_law_same : C := (.seq (.ite (.or (.isi (.v 1) .tuple) (.one (.isi (.v 1) .list))) (.seq (.ite (.or (.cmp .ne (.isi (.v 1) .tuple) (.isi (.v 0) .tuple)) (.one (.cmp .ne (.isi (.v 1) .list) (.isi (.v 0) .list)))) (.seq (.ret (.cbl false))
    .skip) .skip)
    (.seq (.ite (.cmp .ne (.b1 .len (.v 0)) (.b1 .len (.v 1))) (.seq (.ret (.cbl false))
    .skip) .skip)
    (.seq (.ret (.cmp .eq (.b1 .len e_law_same_1) (.cint 0)))
    .skip))) .skip)
    (.seq (.ite (.isn (.v 1)) (.seq (.ret (.isn (.v 0)))
    .skip) .skip)
    (.seq (.ite (.or (.isi (.v 1) .bool) (.one (.isi (.v 0) .bool))) (.seq (.ret (.and (.isi (.v 1) .bool) (.and (.isi (.v 0) .bool) (.one (.cmp .eq (.v 0) (.v 1))))))
    .skip) .skip)
    (.seq (.ite (.isi (.v 1) .int) (.seq (.ret (.and (.isi (.v 0) .int) (.one (.cmp .eq (.v 0) (.v 1)))))
    .skip) .skip)
    (.seq (.ret (.and (.isi (.v 0) .str) (.one (.cmp .eq (.v 0) (.v 1)))))
    .skip)))))
def p_law_same : Fd := ⟨⟨#[95, 108, 97, 119, 95, 115, 97, 109, 101]⟩, [⟨#[97, 99, 116, 117, 97, 108]⟩, ⟨#[100, 117, 101]⟩, ⟨#[107]⟩], 2, false, c_law_same⟩
/-- 42: law(script, pool, code, facts, terms, names, term, top, cases, told, case, other, rows, others, row, need, part, one, here, k, mixed) -/
def e_law_1 : E := .lc [(⟨#[116, 101, 114, 109]⟩, 6)] (.nm 6) (.v 4) .nop (.ix (.v 6) (.cint 0))
def e_law_2 : E := .lc [(⟨#[99, 97, 115, 101]⟩, 10)] (.nm 10) (.v 8) (.cmp .eq (.ix (.call i_law_in false (.cons (.v 2) (.cons (.cstr ⟨#[122, 122]⟩) (.cons (.v 10) .nil)))) (.cint 0)) (.cstr ⟨#[116, 111, 108, 100]⟩)) (.v 10)
def e_law_3 : E := .lc [(⟨#[114, 111, 119]⟩, 14)] (.nm 14) (.v 12) .nop (.ix (.v 14) (.cint 0))
def e_law_4 : E := .lc [(⟨#[111, 110, 101]⟩, 17)] (.nm 17) (.v 12) (.cmp .inn (.ix (.v 17) (.cint 0)) (.v 15)) (.v 17)
def c_law_1 : C := (.seq (.asg (.nm 15) (.call i_used_by false (.cons (.v 2) (.cons (.ix (.v 14) (.cint 0)) .nil))))
    (.seq (.asg (.nm 16) (.b1 .tuple e_law_4))
    (.seq (.ite (.or (.nt (.call i_law_same false (.cons (.call i_reading false (.cons (.v 2) (.cons (.ix (.v 14) (.cint 0)) (.cons (.v 10) .nil)))) (.cons (.v 16) .nil)))) (.one (.nt (.call i_is_reading false (.cons (.v 2) (.cons (.ix (.v 14) (.cint 0)) (.cons (.v 10) (.cons (.v 16) .nil)))))))) (.seq (.ret (.cbl false))
    .skip) .skip)
    (.seq (.asg (.nm 18) (.call i_law_in false (.cons (.v 2) (.cons (.ix (.v 14) (.cint 0)) (.cons (.v 10) .nil)))))
    (.seq (.ite (.or (.cmp .ne (.ix (.v 18) (.cint 0)) (.cstr ⟨#[116, 111, 108, 100]⟩)) (.or (.cmp .ne (.ix (.v 14) (.cint 1)) (.ix (.v 18) (.cint 1))) (.one (.cmp .ne (.ix (.ix (.v 14) (.cint 2)) (.bin .sub (.b1 .len (.ix (.v 14) (.cint 2))) (.cint 1))) (.ix (.v 18) (.cint 2)))))) (.seq (.ret (.cbl false))
    .skip) .skip)
    (.seq (.ite (.and (.cmp .gt (.b1 .len (.v 16)) (.cint 1)) (.one (.or (.call i_is_reading false (.cons (.v 2) (.cons (.ix (.v 14) (.cint 0)) (.cons (.v 10) (.cons (.sl (.v 16) (.cint 1) .nop) .nil))))) (.one (.call i_is_reading false (.cons (.v 2) (.cons (.ix (.v 14) (.cint 0)) (.cons (.v 10) (.cons (.rev (.v 16)) .nil))))))))) (.seq (.ret (.cbl false))
    .skip) .skip)
    .skip))))))
def c_law_2 : C := (.seq (.asg (.nm 20) (.bin .add (.bin .add (.sl (.v 12) .nop (.v 19)) (.tup (.cons (.ix (.v 13) (.v 19)) .nil))) (.sl (.v 12) (.bin .add (.v 19) (.cint 1)) .nop)))
    (.seq (.ite (.cmp .ne (.call i_is_reading false (.cons (.v 2) (.cons (.cstr ⟨#[122, 122]⟩) (.cons (.v 10) (.cons (.v 20) .nil))))) (.call i_law_same false (.cons (.v 20) (.cons (.v 12) .nil)))) (.seq (.ret (.cbl false))
    .skip) .skip)
    .skip))
def c_law : C := (.seq (.asg (.nm 1) (.call i_law_pool false (.cons (.v 0) .nil)))
    (.seq (.asg (.nm 2) (.call i_law_some_code false (.cons (.v 1) (.cons (.cint 2) (.cons (.cint 2) .nil)))))
    (.seq (.asg (.tp (.cons (.nm 3) (.cons (.nm 4) .nil))) (.v 2))
    (.seq (.asg (.nm 5) e_law_1)
    (.seq (.asg (.nm 7) (.tup (.cons (.cstr ⟨#[122, 122]⟩) (.cons (.tup (.cons (.tup (.cons (.cstr ⟨#[122, 122, 97]⟩) (.cons (.tup (.cons (.cstr ⟨#[116, 114, 117, 101]⟩) .nil)) (.cons (.tup (.cons (.cstr ⟨#[112, 108, 117, 115]⟩) (.cons (.tup (.cons (.cstr ⟨#[116, 101, 114, 109]⟩) (.cons (.call i_law_pick false (.cons (.v 1) (.cons (.v 5) .nil))) .nil))) (.cons (.tup (.cons (.cstr ⟨#[116, 101, 114, 109]⟩) (.cons (.call i_law_pick false (.cons (.v 1) (.cons (.v 5) .nil))) .nil))) .nil)))) (.cons .cnon .nil))))) .nil)) .nil))))
    (.seq (.asg (.nm 2) (.tup (.cons (.v 3) (.cons (.bin .add (.v 4) (.tup (.cons (.v 7) .nil))) .nil))))
    (.seq (.asg (.nm 8) (.call i_law_cases false (.cons (.v 3) .nil)))
    (.seq (.asg (.nm 9) e_law_2)
    (.seq (.ite (.cmp .eq (.b1 .len (.v 9)) (.cint 0)) (.seq (.ret (.nt (.call i_is_reading false (.cons (.v 2) (.cons (.cstr ⟨#[122, 122]⟩) (.cons (.ix (.v 8) (.cint 0)) (.cons (.tup .nil) .nil)))))))
    .skip) .skip)
    (.seq (.par 10 11 (.call i_law_pick false (.cons (.v 1) (.cons (.v 9) .nil))) (.call i_law_pick false (.cons (.v 1) (.cons (.v 9) .nil))))
    (.seq (.par 12 13 (.call i_reading false (.cons (.v 2) (.cons (.cstr ⟨#[122, 122]⟩) (.cons (.v 10) .nil)))) (.call i_reading false (.cons (.v 2) (.cons (.cstr ⟨#[122, 122]⟩) (.cons (.v 11) .nil)))))
    (.seq (.ite (.or (.nt (.call i_law_same false (.cons e_law_3 (.cons (.call i_used_by false (.cons (.v 2) (.cons (.cstr ⟨#[122, 122]⟩) .nil))) .nil)))) (.one (.nt (.call i_is_reading false (.cons (.v 2) (.cons (.cstr ⟨#[122, 122]⟩) (.cons (.v 10) (.cons (.v 12) .nil)))))))) (.seq (.ret (.cbl false))
    .skip) .skip)
    (.seq (.forr (.nm 14) (.v 12) c_law_1)
    (.seq (.forr (.nm 19) (.rg1 (.b1 .len (.v 12))) c_law_2)
    (.seq (.ret (.cmp .eq (.call i_is_reading false (.cons (.v 2) (.cons (.cstr ⟨#[122, 122]⟩) (.cons (.v 10) (.cons (.v 13) .nil))))) (.call i_law_same false (.cons (.v 13) (.cons (.v 12) .nil)))))
    .skip)))))))))))))))
def p_law : Fd := ⟨⟨#[108, 97, 119]⟩, [⟨#[115, 99, 114, 105, 112, 116]⟩, ⟨#[112, 111, 111, 108]⟩, ⟨#[99, 111, 100, 101]⟩, ⟨#[102, 97, 99, 116, 115]⟩, ⟨#[116, 101, 114, 109, 115]⟩, ⟨#[110, 97, 109, 101, 115]⟩, ⟨#[116, 101, 114, 109]⟩, ⟨#[116, 111, 112]⟩, ⟨#[99, 97, 115, 101, 115]⟩, ⟨#[116, 111, 108, 100]⟩, ⟨#[99, 97, 115, 101]⟩, ⟨#[111, 116, 104, 101, 114]⟩, ⟨#[114, 111, 119, 115]⟩, ⟨#[111, 116, 104, 101, 114, 115]⟩, ⟨#[114, 111, 119]⟩, ⟨#[110, 101, 101, 100]⟩, ⟨#[112, 97, 114, 116]⟩, ⟨#[111, 110, 101]⟩, ⟨#[104, 101, 114, 101]⟩, ⟨#[107]⟩, ⟨#[109, 105, 120, 101, 100]⟩], 1, false, c_law⟩
def pT : List Fd := [p_is_integer, p_place_of, p_names_in, p_amount_in, p_truth_in, p_term_names, p_clauses_of, p_exceptions_of, p_used_by, p_heard, p_spoken, p_decided, p_term_outcome, p_outcomes, p_over_all, p_way_to, p_silent_for, p_row_for, p_reading, p_is_reading, p_are_labels, p_is_row, p_law_pool, p_law_spread, p_law_draw, p_law_facts, p_law_amount, p_law_condition, p_law_chains, p_law_terms, p_law_some_code, p_law_pick, p_law_cases, p_law_names, p_law_place, p_law_worked, p_law_truth, p_law_heard, p_law_term_in, p_law_all_in, p_law_in, p_law_same, p_law]
theorem r_is_integer {G : Nat → Option D} {k : Nat} {a0 : D} {mh : List (List D)} : evF G pT (k + 1) i_is_integer [a0] mh = outR (cm G (evF G pT k) c_is_integer ⟨[some (a0, false)], mh⟩) := w_rt (d := p_is_integer) rfl rfl rfl rfl rfl
theorem r_place_of {G : Nat → Option D} {k : Nat} {a0 a1 : D} {mh : List (List D)} : evF G pT (k + 1) i_place_of [a0, a1] mh = outR (cm G (evF G pT k) c_place_of ⟨[some (a0, false), some (a1, false), none], mh⟩) := w_rt (d := p_place_of) rfl rfl rfl rfl rfl
theorem r_names_in {G : Nat → Option D} {k : Nat} {a0 a1 : D} {mh : List (List D)} : evF G pT (k + 1) i_names_in [a0, a1] mh = outR (cm G (evF G pT k) c_names_in ⟨[some (a0, false), some (a1, false), none, none, none, none], mh⟩) := w_rt (d := p_names_in) rfl rfl rfl rfl rfl
theorem r_amount_in {G : Nat → Option D} {k : Nat} {a0 a1 a2 a3 : D} {mh : List (List D)} : evF G pT (k + 1) i_amount_in [a0, a1, a2, a3] mh = outR (cm G (evF G pT k) c_amount_in ⟨[some (a0, false), some (a1, false), some (a2, false), some (a3, false), none, none, none], mh⟩) := w_rt (d := p_amount_in) rfl rfl rfl rfl rfl
theorem r_truth_in {G : Nat → Option D} {k : Nat} {a0 a1 a2 a3 : D} {mh : List (List D)} : evF G pT (k + 1) i_truth_in [a0, a1, a2, a3] mh = outR (cm G (evF G pT k) c_truth_in ⟨[some (a0, false), some (a1, false), some (a2, false), some (a3, false), none, none, none], mh⟩) := w_rt (d := p_truth_in) rfl rfl rfl rfl rfl
theorem r_term_names {G : Nat → Option D} {k : Nat} {a0 : D} {mh : List (List D)} : evF G pT (k + 1) i_term_names [a0] mh = outR (cm G (evF G pT k) c_term_names ⟨[some (a0, false), none], mh⟩) := w_rt (d := p_term_names) rfl rfl rfl rfl rfl
theorem r_clauses_of {G : Nat → Option D} {k : Nat} {a0 a1 : D} {mh : List (List D)} : evF G pT (k + 1) i_clauses_of [a0, a1] mh = outR (cm G (evF G pT k) c_clauses_of ⟨[some (a0, false), some (a1, false), none], mh⟩) := w_rt (d := p_clauses_of) rfl rfl rfl rfl rfl
theorem r_exceptions_of {G : Nat → Option D} {k : Nat} {a0 a1 : D} {mh : List (List D)} : evF G pT (k + 1) i_exceptions_of [a0, a1] mh = outR (cm G (evF G pT k) c_exceptions_of ⟨[some (a0, false), some (a1, false), none], mh⟩) := w_rt (d := p_exceptions_of) rfl rfl rfl rfl rfl
theorem r_used_by {G : Nat → Option D} {k : Nat} {a0 a1 : D} {mh : List (List D)} : evF G pT (k + 1) i_used_by [a0, a1] mh = outR (cm G (evF G pT k) c_used_by ⟨[some (a0, false), some (a1, false), none, none, none, none, none, none], mh⟩) := w_rt (d := p_used_by) rfl rfl rfl rfl rfl
theorem r_heard {G : Nat → Option D} {k : Nat} {a0 a1 a2 : D} {mh : List (List D)} : evF G pT (k + 1) i_heard [a0, a1, a2] mh = outR (cm G (evF G pT k) c_heard ⟨[some (a0, false), some (a1, false), some (a2, false), none, none, none], mh⟩) := w_rt (d := p_heard) rfl rfl rfl rfl rfl
theorem r_spoken {G : Nat → Option D} {k : Nat} {a0 a1 a2 : D} {mh : List (List D)} : evF G pT (k + 1) i_spoken [a0, a1, a2] mh = outR (cm G (evF G pT k) c_spoken ⟨[some (a0, false), some (a1, false), some (a2, false), none], mh⟩) := w_rt (d := p_spoken) rfl rfl rfl rfl rfl
theorem r_decided {G : Nat → Option D} {k : Nat} {a0 a1 : D} {mh : List (List D)} : evF G pT (k + 1) i_decided [a0, a1] mh = outR (cm G (evF G pT k) c_decided ⟨[some (a0, false), some (a1, false)], mh⟩) := w_rt (d := p_decided) rfl rfl rfl rfl rfl
theorem r_term_outcome {G : Nat → Option D} {k : Nat} {a0 a1 a2 a3 : D} {mh : List (List D)} : evF G pT (k + 1) i_term_outcome [a0, a1, a2, a3] mh = outR (cm G (evF G pT k) c_term_outcome ⟨[some (a0, false), some (a1, false), some (a2, false), some (a3, false), none, none, none, none, none, none, none], mh⟩) := w_rt (d := p_term_outcome) rfl rfl rfl rfl rfl
theorem r_outcomes {G : Nat → Option D} {k : Nat} {a0 a1 : D} {mh : List (List D)} : evF G pT (k + 1) i_outcomes [a0, a1] mh = outR (cm G (evF G pT k) c_outcomes ⟨[some (a0, false), some (a1, false), none, none], mh⟩) := w_rt (d := p_outcomes) rfl rfl rfl rfl rfl
theorem r_over_all {G : Nat → Option D} {k : Nat} {a0 a1 : D} {mh : List (List D)} : evF G pT (k + 1) i_over_all [a0, a1] mh = outF (cm G (evF G pT k) c_over_all ⟨[some (a0, false), some (a1, false), none, none], mh⟩) := w_rf (d := p_over_all) rfl rfl rfl rfl rfl
theorem r_way_to {G : Nat → Option D} {k : Nat} {a0 a1 : D} {mh : List (List D)} : evF G pT (k + 1) i_way_to [a0, a1] mh = outR (cm G (evF G pT k) c_way_to ⟨[some (a0, false), some (a1, false), none, none, none], mh⟩) := w_rt (d := p_way_to) rfl rfl rfl rfl rfl
theorem r_silent_for {G : Nat → Option D} {k : Nat} {a0 a1 : D} {mh : List (List D)} : evF G pT (k + 1) i_silent_for [a0, a1] mh = outR (cm G (evF G pT k) c_silent_for ⟨[some (a0, false), some (a1, false), none, none, none, none], mh⟩) := w_rt (d := p_silent_for) rfl rfl rfl rfl rfl
theorem r_row_for {G : Nat → Option D} {k : Nat} {a0 a1 a2 : D} {mh : List (List D)} : evF G pT (k + 1) i_row_for [a0, a1, a2] mh = outR (cm G (evF G pT k) c_row_for ⟨[some (a0, false), some (a1, false), some (a2, false), none, none], mh⟩) := w_rt (d := p_row_for) rfl rfl rfl rfl rfl
theorem r_reading {G : Nat → Option D} {k : Nat} {a0 a1 a2 : D} {mh : List (List D)} : evF G pT (k + 1) i_reading [a0, a1, a2] mh = outR (cm G (evF G pT k) c_reading ⟨[some (a0, false), some (a1, false), some (a2, false), none, none], mh⟩) := w_rt (d := p_reading) rfl rfl rfl rfl rfl
theorem r_is_reading {G : Nat → Option D} {k : Nat} {a0 a1 a2 a3 : D} {mh : List (List D)} : evF G pT (k + 1) i_is_reading [a0, a1, a2, a3] mh = outR (cm G (evF G pT k) c_is_reading ⟨[some (a0, false), some (a1, false), some (a2, false), some (a3, false), none, none, none, none], mh⟩) := w_rt (d := p_is_reading) rfl rfl rfl rfl rfl
theorem r_are_labels {G : Nat → Option D} {k : Nat} {a0 : D} {mh : List (List D)} : evF G pT (k + 1) i_are_labels [a0] mh = outR (cm G (evF G pT k) c_are_labels ⟨[some (a0, false), none], mh⟩) := w_rt (d := p_are_labels) rfl rfl rfl rfl rfl
theorem r_is_row {G : Nat → Option D} {k : Nat} {a0 a1 a2 a3 a4 : D} {mh : List (List D)} : evF G pT (k + 1) i_is_row [a0, a1, a2, a3, a4] mh = outR (cm G (evF G pT k) c_is_row ⟨[some (a0, false), some (a1, false), some (a2, false), some (a3, false), some (a4, false), none, none, none, none, none, none, none], mh⟩) := w_rt (d := p_is_row) rfl rfl rfl rfl rfl
theorem r_law_pool {G : Nat → Option D} {k : Nat} {a0 : D} {mh : List (List D)} : evF G pT (k + 1) i_law_pool [a0] mh = outR (cm G (evF G pT k) c_law_pool ⟨[some (a0, false), none, none], mh⟩) := w_rt (d := p_law_pool) rfl rfl rfl rfl rfl
theorem r_law_spread {G : Nat → Option D} {k : Nat} {a0 : D} {mh : List (List D)} : evF G pT (k + 1) i_law_spread [a0] mh = outR (cm G (evF G pT k) c_law_spread ⟨[some (a0, false), none, none, none], mh⟩) := w_rt (d := p_law_spread) rfl rfl rfl rfl rfl
theorem r_law_draw {G : Nat → Option D} {k : Nat} {a0 a1 : D} {mh : List (List D)} : evF G pT (k + 1) i_law_draw [a0, a1] mh = outR (cm G (evF G pT k) c_law_draw ⟨[some (a0, false), some (a1, false), none, none, none], mh⟩) := w_rt (d := p_law_draw) rfl rfl rfl rfl rfl
theorem r_law_facts {G : Nat → Option D} {k : Nat} {a0 a1 : D} {mh : List (List D)} : evF G pT (k + 1) i_law_facts [a0, a1] mh = outR (cm G (evF G pT k) c_law_facts ⟨[some (a0, false), some (a1, false), none, none, none, none, none], mh⟩) := w_rt (d := p_law_facts) rfl rfl rfl rfl rfl
theorem r_law_amount {G : Nat → Option D} {k : Nat} {a0 a1 a2 a3 : D} {mh : List (List D)} : evF G pT (k + 1) i_law_amount [a0, a1, a2, a3] mh = outR (cm G (evF G pT k) c_law_amount ⟨[some (a0, false), some (a1, false), some (a2, false), some (a3, false), none, none], mh⟩) := w_rt (d := p_law_amount) rfl rfl rfl rfl rfl
theorem r_law_condition {G : Nat → Option D} {k : Nat} {a0 a1 a2 a3 : D} {mh : List (List D)} : evF G pT (k + 1) i_law_condition [a0, a1, a2, a3] mh = outR (cm G (evF G pT k) c_law_condition ⟨[some (a0, false), some (a1, false), some (a2, false), some (a3, false), none, none], mh⟩) := w_rt (d := p_law_condition) rfl rfl rfl rfl rfl
theorem r_law_chains {G : Nat → Option D} {k : Nat} {a0 a1 a2 a3 : D} {mh : List (List D)} : evF G pT (k + 1) i_law_chains [a0, a1, a2, a3] mh = outR (cm G (evF G pT k) c_law_chains ⟨[some (a0, false), some (a1, false), some (a2, false), some (a3, false), none, none, none, none, none, none, none, none, none], mh⟩) := w_rt (d := p_law_chains) rfl rfl rfl rfl rfl
theorem r_law_terms {G : Nat → Option D} {k : Nat} {a0 a1 a2 a3 : D} {mh : List (List D)} : evF G pT (k + 1) i_law_terms [a0, a1, a2, a3] mh = outR (cm G (evF G pT k) c_law_terms ⟨[some (a0, false), some (a1, false), some (a2, false), some (a3, false), none, none, none, none, none, none, none, none, none], mh⟩) := w_rt (d := p_law_terms) rfl rfl rfl rfl rfl
theorem r_law_some_code {G : Nat → Option D} {k : Nat} {a0 a1 a2 : D} {mh : List (List D)} : evF G pT (k + 1) i_law_some_code [a0, a1, a2] mh = outR (cm G (evF G pT k) c_law_some_code ⟨[some (a0, false), some (a1, false), some (a2, false), none], mh⟩) := w_rt (d := p_law_some_code) rfl rfl rfl rfl rfl
theorem r_law_pick {G : Nat → Option D} {k : Nat} {a0 a1 : D} {mh : List (List D)} : evF G pT (k + 1) i_law_pick [a0, a1] mh = outR (cm G (evF G pT k) c_law_pick ⟨[some (a0, false), some (a1, false)], mh⟩) := w_rt (d := p_law_pick) rfl rfl rfl rfl rfl
theorem r_law_cases {G : Nat → Option D} {k : Nat} {a0 : D} {mh : List (List D)} : evF G pT (k + 1) i_law_cases [a0] mh = outR (cm G (evF G pT k) c_law_cases ⟨[some (a0, false), none, none, none, none, none], mh⟩) := w_rt (d := p_law_cases) rfl rfl rfl rfl rfl
theorem r_law_names {G : Nat → Option D} {k : Nat} {a0 a1 : D} {mh : List (List D)} : evF G pT (k + 1) i_law_names [a0, a1] mh = outR (cm G (evF G pT k) c_law_names ⟨[some (a0, false), some (a1, false), none, none], mh⟩) := w_rt (d := p_law_names) rfl rfl rfl rfl rfl
theorem r_law_place {G : Nat → Option D} {k : Nat} {a0 a1 : D} {mh : List (List D)} : evF G pT (k + 1) i_law_place [a0, a1] mh = outR (cm G (evF G pT k) c_law_place ⟨[some (a0, false), some (a1, false), none], mh⟩) := w_rt (d := p_law_place) rfl rfl rfl rfl rfl
theorem r_law_worked {G : Nat → Option D} {k : Nat} {a0 a1 a2 a3 : D} {mh : List (List D)} : evF G pT (k + 1) i_law_worked [a0, a1, a2, a3] mh = outR (cm G (evF G pT k) c_law_worked ⟨[some (a0, false), some (a1, false), some (a2, false), some (a3, false), none, none, none], mh⟩) := w_rt (d := p_law_worked) rfl rfl rfl rfl rfl
theorem r_law_truth {G : Nat → Option D} {k : Nat} {a0 a1 a2 a3 : D} {mh : List (List D)} : evF G pT (k + 1) i_law_truth [a0, a1, a2, a3] mh = outR (cm G (evF G pT k) c_law_truth ⟨[some (a0, false), some (a1, false), some (a2, false), some (a3, false), none, none, none], mh⟩) := w_rt (d := p_law_truth) rfl rfl rfl rfl rfl
theorem r_law_heard {G : Nat → Option D} {k : Nat} {a0 a1 a2 : D} {mh : List (List D)} : evF G pT (k + 1) i_law_heard [a0, a1, a2] mh = outR (cm G (evF G pT k) c_law_heard ⟨[some (a0, false), some (a1, false), some (a2, false), none, none, none], mh⟩) := w_rt (d := p_law_heard) rfl rfl rfl rfl rfl
theorem r_law_term_in {G : Nat → Option D} {k : Nat} {a0 a1 a2 a3 : D} {mh : List (List D)} : evF G pT (k + 1) i_law_term_in [a0, a1, a2, a3] mh = outR (cm G (evF G pT k) c_law_term_in ⟨[some (a0, false), some (a1, false), some (a2, false), some (a3, false), none, none, none, none, none, none, none, none, none], mh⟩) := w_rt (d := p_law_term_in) rfl rfl rfl rfl rfl
theorem r_law_all_in {G : Nat → Option D} {k : Nat} {a0 a1 : D} {mh : List (List D)} : evF G pT (k + 1) i_law_all_in [a0, a1] mh = outR (cm G (evF G pT k) c_law_all_in ⟨[some (a0, false), some (a1, false), none, none, none], mh⟩) := w_rt (d := p_law_all_in) rfl rfl rfl rfl rfl
theorem r_law_in {G : Nat → Option D} {k : Nat} {a0 a1 a2 : D} {mh : List (List D)} : evF G pT (k + 1) i_law_in [a0, a1, a2] mh = outR (cm G (evF G pT k) c_law_in ⟨[some (a0, false), some (a1, false), some (a2, false)], mh⟩) := w_rt (d := p_law_in) rfl rfl rfl rfl rfl
theorem r_law_same {G : Nat → Option D} {k : Nat} {a0 a1 : D} {mh : List (List D)} : evF G pT (k + 1) i_law_same [a0, a1] mh = outR (cm G (evF G pT k) c_law_same ⟨[some (a0, false), some (a1, false), none], mh⟩) := w_rt (d := p_law_same) rfl rfl rfl rfl rfl
theorem r_law {G : Nat → Option D} {k : Nat} {a0 : D} {mh : List (List D)} : evF G pT (k + 1) i_law [a0] mh = outR (cm G (evF G pT k) c_law ⟨[some (a0, false), none, none, none, none, none, none, none, none, none, none, none, none, none, none, none, none, none, none, none, none], mh⟩) := w_rt (d := p_law) rfl rfl rfl rfl rfl
end E3
set_option linter.all false
set_option maxRecDepth 100000
set_option maxHeartbeats 1000000
namespace E3
open PySem L2
set_option smartUnfolding false
/-- what goes on behind a value (simp leaves it alone until the value is there) -/
class Kont (α β : Type) where
  f : α → Option β
def bnd {α β : Type} (x : Option α) [k : Kont α β] : Option β := x.bind k.f
@[simp] theorem bnd_some {α β : Type} {a : α} {f : α → Option β} : bnd (some a) (k := ⟨f⟩) = f a := id rfl
@[simp] theorem bnd_none {α β : Type} {f : α → Option β} : bnd (none : Option α) (k := ⟨f⟩) = none := id rfl
/-! ### how the language steps (for simp) -/
section
variable {G : Nat → Option D} {F : Fn} {s : S} {a b c d e : E}
@[simp] theorem y_v {i : Nat} : (sm G F (.v i)).v = vF i := id rfl
@[simp] theorem y_cint {i : Int} : (sm G F (.cint i)).v = cF (.int i) := id rfl
@[simp] theorem y_cbl {i : Bool} : (sm G F (.cbl i)).v = cF (.bl i) := id rfl
@[simp] theorem y_cnon : (sm G F .cnon).v = cF .non := id rfl
@[simp] theorem y_cstr {x : Str} : (sm G F (.cstr x)).v = cF (.str x) := id rfl
@[simp] theorem y_glob {j : Nat} : (sm G F (.glob j)).v = oF (G j) := id rfl
@[simp] theorem y_bin {o : Bop} : (sm G F (.bin o a b)).v = op2F (bopD o) (sm G F a).v (sm G F b).v := id rfl
@[simp] theorem y_neg : (sm G F (.neg a)).v = op1F negD (sm G F a).v := id rfl
@[simp] theorem y_cmp {o : Cop} : (sm G F (.cmp o a b)).v = op2F (fun d e => (copD o d e).map blT) (sm G F a).v (sm G F b).v := id rfl
@[simp] theorem y_chn {o p : Cop} : (sm G F (.chn o p a b c)).v = chnF o p (sm G F a).v (sm G F b).v (sm G F c).v := id rfl
@[simp] theorem y_isn : (sm G F (.isn a)).v = op1F (fun d => some (blT (isN d))) (sm G F a).v := id rfl
@[simp] theorem y_ntn : (sm G F (.ntn a)).v = op1F (fun d => some (blT (!isN d))) (sm G F a).v := id rfl
@[simp] theorem y_and : (sm G F (.and a b)).v = andF (sm G F a).v (sm G F b).v := id rfl
@[simp] theorem y_or : (sm G F (.or a b)).v = orF (sm G F a).v (sm G F b).v := id rfl
@[simp] theorem y_one : (sm G F (.one a)).v = (sm G F a).v := id rfl
@[simp] theorem y_nt : (sm G F (.nt a)).v = ntF (sm G F a).v := id rfl
@[simp] theorem y_ife : (sm G F (.ife c a b)).v = iteF (sm G F c).v (sm G F a).v (sm G F b).v := id rfl
@[simp] theorem y_ix : (sm G F (.ix a b)).v = op2F (fun d e => (itemD d e).map fun r => (r, Tg.st)) (sm G F a).v (sm G F b).v := id rfl
@[simp] theorem y_sl : (sm G F (.sl a b c)).v = slF (sm G F a).v (sm G F b).b (sm G F c).b := id rfl
@[simp] theorem y_rev : (sm G F (.rev a)).v = op1F revD (sm G F a).v := id rfl
@[simp] theorem y_tup : (sm G F (.tup a)).v = tupF (sm G F a).a := id rfl
@[simp] theorem y_lst : (sm G F (.lst a)).v = lstF (sm G F a).a := id rfl
@[simp] theorem y_new : (sm G F (.new a)).v = newF (sm G F a).a := id rfl
@[simp] theorem y_dnil : (sm G F .dnil).v = dnilF := id rfl
@[simp] theorem y_nila : (sm G F .nil).a = fun s => some ([], s) := id rfl
@[simp] theorem y_nilt : (sm G F .nil).t = fun s => some ([], s) := id rfl
@[simp] theorem y_consa : (sm G F (.cons a b)).a = fun s => bnd ((hF (sm G F a).v s)) (k := ⟨fun h => bnd (((sm G F b).a h.2)) (k := ⟨fun r => some ((h.1 :: r.1, r.2))⟩)⟩) := id rfl
@[simp] theorem y_const : (sm G F (.cons a b)).t = fun s => bnd (((sm G F a).v s)) (k := ⟨fun x => bnd (((sm G F b).t x.2.2)) (k := ⟨fun r => some (((x.1, x.2.1) :: r.1, r.2))⟩)⟩) := id rfl
@[simp] theorem y_callT {j : Nat} : (sm G F (.call j true a)).v = lendF (F j) (sm G F a).t := id rfl
@[simp] theorem y_callF {j : Nat} : (sm G F (.call j false a)).v = callF (F j) (sm G F a).a := id rfl
@[simp] theorem y_callr {j : Nat} : (sm G F (.callr j a)).v = callrF (F j) (sm G F a).a := id rfl
@[simp] theorem y_bor : (sm G F (.bor a)).v = borF (sm G F a).v := id rfl
@[simp] theorem y_b1 {o : B1} : (sm G F (.b1 o a)).v = op1F (b1D o) (sm G F a).v := id rfl
@[simp] theorem y_min2 : (sm G F (.min2 a b)).v = op2F (fun d e => (intD d).bind fun i => (intD e).bind fun j => some (.int (if j < i then j else i), .st)) (sm G F a).v (sm G F b).v := id rfl
@[simp] theorem y_max2 : (sm G F (.max2 a b)).v = op2F (fun d e => (intD d).bind fun i => (intD e).bind fun j => some (.int (if j > i then j else i), .st)) (sm G F a).v (sm G F b).v := id rfl
@[simp] theorem y_isi {t : Ty} : (sm G F (.isi a t)).v = op1F (fun d => (tyD t d).map blT) (sm G F a).v := id rfl
theorem y_lc {own : List (Str × Nat)} {tg : Tn} : (sm G F (.lc own tg a c b)).v = lcF (own.map (·.2)) tg (sm G F a).i (sm G F c).c (sm G F b).v := id rfl
theorem y_dc {own : List (Str × Nat)} {tg : Tn} : (sm G F (.dc own tg a c d b)).v = dcF (own.map (·.2)) tg (sm G F a).i (sm G F c).c (sm G F d).v (sm G F b).v := id rfl
theorem y_dk {own : List (Str × Nat)} {i j : Nat} : (sm G F (.dk own i j c d b)).v = dkF (own.map (·.2)) i j (sm G F c).c (sm G F d).v (sm G F b).v := id rfl
@[simp] theorem y_pop {i : Nat} : (sm G F (.pop i)).v = popF i := id rfl
@[simp] theorem y_rx {i : Nat} : (sm G F (.rx i a)).v = rxF i (sm G F a).v := id rfl
@[simp] theorem y_c (h : a ≠ .nop) : (sm G F a).c = toC (sm G F a).v := by cases a <;> first | rfl | exact absurd rfl h
@[simp] theorem y_cn : (sm G F .nop).c = fun s => some (true, s) := id rfl
@[simp] theorem y_b (h : a ≠ .nop) : (sm G F a).b = toB (sm G F a).v := by cases a <;> first | rfl | exact absurd rfl h
@[simp] theorem y_bn : (sm G F .nop).b = fun s => some (none, s) := id rfl
@[simp] theorem y_rg1 : (sm G F (.rg1 a)).i = rg1F (sm G F a).v := id rfl
@[simp] theorem y_rg2 : (sm G F (.rg2 a b)).i = rg2F (sm G F a).v (sm G F b).v := id rfl
@[simp] theorem y_zp : (sm G F (.zp a b)).i = zpF (sm G F a).v (sm G F b).v := id rfl
@[simp] theorem y_i1 {i : Nat} : (sm G F (.v i)).i = toI (vF i) := id rfl
@[simp] theorem y_i2 : (sm G F (.ix a b)).i = toI (sm G F (.ix a b)).v := id rfl
@[simp] theorem y_i3 : (sm G F (.sl a b c)).i = toI (sm G F (.sl a b c)).v := id rfl
@[simp] theorem y_i4 {j : Nat} {k : Bool} : (sm G F (.call j k a)).i = toI (sm G F (.call j k a)).v := id rfl
@[simp] theorem y_i4r {j : Nat} : (sm G F (.callr j a)).i = toI (sm G F (.callr j a)).v := id rfl
@[simp] theorem y_i5 {o : B1} : (sm G F (.b1 o a)).i = toI (sm G F (.b1 o a)).v := id rfl
@[simp] theorem y_i6 : (sm G F (.rev a)).i = toI (sm G F (.rev a)).v := id rfl
@[simp] theorem y_i7 {o : Bop} : (sm G F (.bin o a b)).i = toI (sm G F (.bin o a b)).v := id rfl
@[simp] theorem y_i8 : (sm G F (.tup a)).i = toI (sm G F (.tup a)).v := id rfl
@[simp] theorem y_i9 : (sm G F (.lst a)).i = toI (sm G F (.lst a)).v := id rfl
@[simp] theorem y_i10 : (sm G F (.ife a b c)).i = toI (sm G F (.ife a b c)).v := id rfl
end
section
variable {s : S} {f g h : Fv}
@[simp] theorem z_vF {i : Nat} {sl : List (Option (D × Bool))} {mh : List (List D)} : vF i ⟨sl, mh⟩ = match sl[i]? with | some (some (d, true)) => some (d, .bw i, ⟨sl, mh⟩) | some (some (d, false)) => some (d, .st, ⟨sl, mh⟩) | _ => none := id rfl
@[simp] theorem z_cF {d : D} : cF d s = some (d, .st, s) := id rfl
@[simp] theorem z_oF {d : D} : oF (some d) s = some (d, .st, s) := id rfl
@[simp] theorem z_op2 {k : D → D → Option (D × Tg)} : op2F k f g s = bnd ((f s)) (k := ⟨fun x => bnd ((g x.2.2)) (k := ⟨fun y => bnd ((wk y.2.2 (x.1, x.2.1))) (k := ⟨fun d => bnd ((wk y.2.2 (y.1, y.2.1))) (k := ⟨fun e => bnd ((k d e)) (k := ⟨fun r => some ((r.1, r.2, y.2.2))⟩)⟩)⟩)⟩)⟩) := id rfl
@[simp] theorem z_op1 {k : D → Option (D × Tg)} : op1F k f s = bnd ((f s)) (k := ⟨fun x => bnd ((wk x.2.2 (x.1, x.2.1))) (k := ⟨fun d => bnd ((k d)) (k := ⟨fun r => some ((r.1, r.2, x.2.2))⟩)⟩)⟩) := id rfl
@[simp] theorem z_chn {o p : Cop} : chnF o p f g h s = bnd ((f s)) (k := ⟨fun x => bnd ((g x.2.2)) (k := ⟨fun y => bnd ((wk y.2.2 (x.1, x.2.1))) (k := ⟨fun d => bnd ((wk y.2.2 (y.1, y.2.1))) (k := ⟨fun e => bnd ((copD o d e)) (k := ⟨fun r => if r then (bnd ((h y.2.2)) (k := ⟨fun z => bnd ((wk z.2.2 (y.1, y.2.1))) (k := ⟨fun e => bnd ((wk z.2.2 (z.1, z.2.1))) (k := ⟨fun k => bnd ((copD p e k)) (k := ⟨fun r => some (.bl r, .st, z.2.2)⟩)⟩)⟩)⟩)) else (some (.bl false, .st, y.2.2))⟩)⟩)⟩)⟩)⟩) := id rfl
@[simp] theorem z_negD {i : Int} : negD (.int i) = some (.int (-i), .st) := id rfl
@[simp] theorem z_blT {b : Bool} : blT b = (.bl b, .st) := id rfl
@[simp] theorem z_isN0 : isN .non = true := id rfl
@[simp] theorem z_isN1 {x : Str} : isN (.str x) = false := id rfl
@[simp] theorem z_isN2 {x : List D} : isN (.tup x) = false := id rfl
@[simp] theorem z_isN3 {x : List D} : isN (.lst x) = false := id rfl
@[simp] theorem z_isN4 {x : Int} : isN (.int x) = false := id rfl
@[simp] theorem z_isN5 {x : Bool} : isN (.bl x) = false := id rfl
@[simp] theorem z_and : andF f g s = bnd ((f s)) (k := ⟨fun x => bnd ((boolD x.1)) (k := ⟨fun b => if b then (g x.2.2) else (some (.bl false, .st, x.2.2))⟩)⟩) := id rfl
@[simp] theorem z_or : orF f g s = bnd ((f s)) (k := ⟨fun x => bnd ((boolD x.1)) (k := ⟨fun b => if b then (some (.bl true, .st, x.2.2)) else (g x.2.2)⟩)⟩) := id rfl
@[simp] theorem z_nt : ntF f s = bnd ((f s)) (k := ⟨fun x => bnd ((boolD x.1)) (k := ⟨fun b => some (.bl (!b), .st, x.2.2)⟩)⟩) := id rfl
@[simp] theorem z_ite {c : Fv} : iteF c f g s = bnd ((c s)) (k := ⟨fun x => bnd ((boolD x.1)) (k := ⟨fun b => if b then (f x.2.2) else (g x.2.2)⟩)⟩) := id rfl
@[simp] theorem z_sl {lo hi : Fb} : slF f lo hi s = bnd ((f s)) (k := ⟨fun x => bnd ((lo x.2.2)) (k := ⟨fun l => bnd ((hi l.2)) (k := ⟨fun h => bnd ((wk h.2 (x.1, x.2.1))) (k := ⟨fun d => bnd ((sliceD d l.1 h.1)) (k := ⟨fun r => some ((r.1, r.2, h.2))⟩)⟩)⟩)⟩)⟩) := id rfl
@[simp] theorem z_revD {xs : List D} : revD (.tup xs) = some (.tup xs.reverse, .st) := id rfl
/-- not too long for a list or tuple (no test in sight: the kernel is not to look into the number) -/
def szO {α : Type} (xs : List α) : Option Unit := if decide (xs.length ≤ sizeLine) then some () else none
theorem szO_of {α : Type} {xs : List α} (h : xs.length ≤ 16000000) : szO xs = some () := by
  unfold szO
  rw [if_pos (decide_eq_true (Nat.le_trans h (by decide)))]
@[simp] theorem szO_0 {α : Type} : szO ([] : List α) = some () := szO_of (by simp)
@[simp] theorem szO_1 {α : Type} {a : α} : szO [a] = some () := szO_of (by simp)
@[simp] theorem szO_2 {α : Type} {a b : α} : szO [a, b] = some () := szO_of (by simp)
@[simp] theorem szO_3 {α : Type} {a b c : α} : szO [a, b, c] = some () := szO_of (by simp)
@[simp] theorem szO_4 {α : Type} {a b c d : α} : szO [a, b, c, d] = some () := szO_of (by simp)
@[simp] theorem szO_5 {α : Type} {a b c d e : α} : szO [a, b, c, d, e] = some () := szO_of (by simp)
theorem sz_if {β : Type} {xs : List D} {r : β} : (if sized xs then some r else none) = (szO xs).map fun _ => r := by
  unfold szO sized
  split <;> rfl
theorem z_tup_o {k : Fa} : tupF k s = (k s).bind fun x => (szO x.1).map fun _ => (.tup x.1, .st, x.2) := by
  show (k s).bind (fun x => if sized x.1 then some (D.tup x.1, Tg.st, x.2) else none) = _
  congr 1
  funext x
  exact sz_if
@[simp] theorem z_tup {k : Fa} : tupF k s = bnd ((k s)) (k := ⟨fun x => bnd ((szO x.1)) (k := ⟨fun _ => some ((.tup x.1, .st, x.2))⟩)⟩) := by
  rw [z_tup_o]
  rfl
theorem z_lst_o {k : Fa} : lstF k s = (k s).bind fun x => (szO x.1).map fun _ => (.lst x.1, .fr, x.2) := by
  show (k s).bind (fun x => if sized x.1 then some (D.lst x.1, Tg.fr, x.2) else none) = _
  congr 1
  funext x
  exact sz_if
@[simp] theorem z_lst {k : Fa} : lstF k s = bnd ((k s)) (k := ⟨fun x => bnd ((szO x.1)) (k := ⟨fun _ => some ((.lst x.1, .fr, x.2))⟩)⟩) := by
  rw [z_lst_o]
  rfl
theorem z_new_o {k : Fa} : newF k s = (k s).bind fun x => (szO x.1).map fun _ => (.ref x.2.mh.length, .st, { x.2 with mh := x.2.mh ++ [x.1] }) := by
  show (k s).bind (fun x => if sized x.1 then some (D.ref x.2.mh.length, Tg.st, ({ x.2 with mh := x.2.mh ++ [x.1] } : S)) else none) = _
  congr 1
  funext x
  exact sz_if
@[simp] theorem z_new {k : Fa} : newF k s = bnd ((k s)) (k := ⟨fun x => bnd ((szO x.1)) (k := ⟨fun _ => some ((.ref x.2.mh.length, .st, { x.2 with mh := x.2.mh ++ [x.1] }))⟩)⟩) := by
  rw [z_new_o]
  rfl
/-- the numbers of a range -/
def rgO (lo hi : Int) : Option (List D) := if rgOk lo && rgOk hi then some (rgD lo hi) else none
@[simp] theorem z_dnil : dnilF s = some (.dct [], .fr, s) := id rfl
@[simp] theorem z_lend {k : FnD} {a : Ft} : lendF k a s = bnd ((a s)) (k := ⟨fun x => bnd ((x.1.mapM (wk x.2))) (k := ⟨fun ds => if ds.all noRef then (bnd ((k ds [])) (k := ⟨fun r => if flat r.1 then (some (r.1, .st, x.2)) else (none)⟩)) else (none)⟩)⟩) := id rfl
@[simp] theorem z_call {k : FnD} {a : Fa} : callF k a s = bnd ((a s)) (k := ⟨fun x => bnd ((k x.1 x.2.mh)) (k := ⟨fun r => some ((r.1, .st, { x.2 with mh := r.2 }))⟩)⟩) := id rfl
@[simp] theorem z_callr {k : FnD} {a : Fa} : callrF k a s = bnd ((a s)) (k := ⟨fun x => bnd ((k x.1 x.2.mh)) (k := ⟨fun r => some ((r.1, .fr, { x.2 with mh := r.2 }))⟩)⟩) := id rfl
@[simp] theorem z_fresh1 {d : D} : fresh s (d, .fr) = some d := id rfl
@[simp] theorem z_fresh2 {d : D} {i : Nat} : fresh s (d, .bw i) = match s.sl[i]? with | some (some (d, true)) => some d | _ => none := id rfl
def frz1 : Option (D × Bool) → Option (D × Bool)
  | some (d, _) => if noRef d then some (d, false) else none
  | none => none
@[simp] theorem z_frz {sl : List (Option (D × Bool))} {mh : List (List D)} : frzS ⟨sl, mh⟩ = ⟨sl.map frz1, []⟩ := id rfl
@[simp] theorem z_frz0 : frz1 none = none := id rfl
@[simp] theorem z_frz1 {d : D} {b : Bool} : frz1 (some (d, b)) = if noRef d then some (d, false) else none := id rfl
@[simp] theorem z_bor : borF f s = bnd ((f (frzS s))) (k := ⟨fun x => if flatT (x.1, x.2.1) then (some (x.1, x.2.1, s)) else (none)⟩) := id rfl
@[simp] theorem z_nref {n : Nat} : noRef (.ref n) = false := id rfl
@[simp] theorem z_hF : hF f s = bnd ((f s)) (k := ⟨fun x => hold x.2.2 (x.1, x.2.1)⟩) := id rfl
@[simp] theorem z_toC : toC f s = bnd ((f s)) (k := ⟨fun x => bnd ((boolD x.1)) (k := ⟨fun b => some (b, x.2.2)⟩)⟩) := id rfl
@[simp] theorem z_toB : toB f s = bnd ((f s)) (k := ⟨fun x => bnd ((intD x.1)) (k := ⟨fun i => some (some i, x.2.2)⟩)⟩) := id rfl
@[simp] theorem z_toI : toI f s = bnd ((f s)) (k := ⟨fun x => bnd ((hold x.2.2 (x.1, x.2.1))) (k := ⟨fun h => bnd ((itemsD h.1)) (k := ⟨fun r => some ((r, h.2))⟩)⟩)⟩) := id rfl
@[simp] theorem z_rx {i : Nat} : rxF i g s = bnd ((refD s i)) (k := ⟨fun n => bnd ((g s)) (k := ⟨fun y => bnd ((intD y.1)) (k := ⟨fun z => bnd ((y.2.2.mh[n]?)) (k := ⟨fun xs => bnd ((ixD xs z)) (k := ⟨fun d => some ((d, .st, y.2.2))⟩)⟩)⟩)⟩)⟩) := id rfl
@[simp] theorem z_zp : zpF f g s = bnd ((hF f s)) (k := ⟨fun x => bnd ((hF g x.2)) (k := ⟨fun y => bnd ((itemsD x.1)) (k := ⟨fun xs => bnd ((itemsD y.1)) (k := ⟨fun ys => some (zipD xs ys, y.2)⟩)⟩)⟩)⟩) := id rfl
theorem rgOk0 : rgOk 0 = true := by decide
theorem z_rg1_o : rg1F f s = (f s).bind fun x => (intD x.1).bind fun i => (rgO 0 i).map fun r => (r, x.2.2) := by
  show (f s).bind (fun x => (intD x.1).bind fun i => if rgOk i then some (rgD 0 i, x.2.2) else none) = _
  congr 1
  funext x
  congr 1
  funext i
  unfold rgO
  rw [rgOk0, Bool.true_and]
  split <;> rfl
@[simp] theorem z_rg1 : rg1F f s = bnd ((f s)) (k := ⟨fun x => bnd ((intD x.1)) (k := ⟨fun i => bnd ((rgO 0 i)) (k := ⟨fun r => some ((r, x.2.2))⟩)⟩)⟩) := by
  rw [z_rg1_o]
  rfl
theorem z_rg2_o : rg2F f g s = (f s).bind fun x => (g x.2.2).bind fun y => (intD x.1).bind fun i => (intD y.1).bind fun j => (rgO i j).map fun r => (r, y.2.2) := by
  show (f s).bind (fun x => (g x.2.2).bind fun y => (intD x.1).bind fun i => (intD y.1).bind fun j => if rgOk i && rgOk j then some (rgD i j, y.2.2) else none) = _
  congr 1
  funext x
  congr 1
  funext y
  congr 1
  funext i
  congr 1
  funext j
  unfold rgO
  split <;> rfl
@[simp] theorem z_rg2 : rg2F f g s = bnd ((f s)) (k := ⟨fun x => bnd ((g x.2.2)) (k := ⟨fun y => bnd ((intD x.1)) (k := ⟨fun i => bnd ((intD y.1)) (k := ⟨fun j => bnd ((rgO i j)) (k := ⟨fun r => some ((r, y.2.2))⟩)⟩)⟩)⟩)⟩) := by
  rw [z_rg2_o]
  rfl
@[simp] theorem z_wk1 {d : D} : wk s (d, .st) = some d := id rfl
@[simp] theorem z_wk2 {d : D} : wk s (d, .fr) = some d := id rfl
@[simp] theorem z_wk3 {d : D} {i : Nat} : wk s (d, .bw i) = match s.sl[i]? with | some (some (d, _)) => some d | _ => none := id rfl
@[simp] theorem z_hold1 {d : D} : hold s (d, .st) = some (d, s) := id rfl
@[simp] theorem z_hold2 {d : D} : hold s (d, .fr) = some (d, s) := id rfl
@[simp] theorem z_hold3 {d : D} {i : Nat} : hold s (d, .bw i) = match s.sl[i]? with | some (some (d, _)) => some (d, s.set i d false) | _ => none := id rfl
@[simp] theorem z_keep1 {d : D} : keepT s (d, .st) = some (d, false, s) := id rfl
@[simp] theorem z_keep2 {d : D} : keepT s (d, .fr) = some (d, true, s) := id rfl
@[simp] theorem z_keep3 {d : D} {i : Nat} : keepT s (d, .bw i) = match s.sl[i]? with | some (some (d, _)) => some (d, false, s.set i d false) | _ => none := by
  show (hold s (d, .bw i)).map (fun h : D × S => (h.1, false, h.2)) = _
  rw [z_hold3]
  split <;> rfl
@[simp] theorem z_set {i : Nat} {d : D} {o : Bool} : s.set i d o = ⟨s.sl.set i (some (d, o)), s.mh⟩ := id rfl
@[simp] theorem z_bool {b : Bool} : boolD (.bl b) = some b := id rfl
@[simp] theorem z_int {i : Int} : intD (.int i) = some i := id rfl
@[simp] theorem z_asg {i : Nat} : asgF i f s = bnd ((f s)) (k := ⟨fun x => bnd ((keepT x.2.2 (x.1, x.2.1))) (k := ⟨fun k => if i < k.2.2.sl.length then (some (k.2.2.set i k.1 k.2.1)) else (none)⟩)⟩) := id rfl
@[simp] theorem z_parF {i j : Nat} : parF i j f g s = bnd ((f s)) (k := ⟨fun x => bnd ((g x.2.2)) (k := ⟨fun y => bnd ((keepT y.2.2 (x.1, x.2.1))) (k := ⟨fun k => bnd ((keepT k.2.2 (y.1, y.2.1))) (k := ⟨fun l => if i < l.2.2.sl.length ∧ j < l.2.2.sl.length ∧ i ≠ j then (some ((l.2.2.set i k.1 k.2.1).set j l.1 l.2.1)) else (none)⟩)⟩)⟩)⟩) := id rfl
@[simp] theorem z_nxS {o : Option S} : nxS o = o.map Out.nx := id rfl
@[simp] theorem z_pop {i : Nat} : popF i s = match s.sl[i]? with
  | some (some (.lst xs, true)) => match xs.getLast? with
    | some d => some (d, .st, s.set i (.lst xs.dropLast) true)
    | none => none
  | _ => none := id rfl
@[simp] theorem z_refD {sl : List (Option (D × Bool))} {mh : List (List D)} {i : Nat} : refD ⟨sl, mh⟩ i = match sl[i]? with | some (some (.ref n, false)) => some n | _ => none := id rfl
@[simp] theorem z_ownL {sl : List (Option (D × Bool))} {mh : List (List D)} {i : Nat} : ownL ⟨sl, mh⟩ i = match sl[i]? with | some (some (.lst xs, true)) => some xs | _ => none := id rfl
@[simp] theorem z_ownK {sl : List (Option (D × Bool))} {mh : List (List D)} {i : Nat} : ownK ⟨sl, mh⟩ i = match sl[i]? with | some (some (.dct xs, true)) => some xs | _ => none := id rfl
@[simp] theorem z_listD {xs : List D} : listD (.lst xs) = some xs := id rfl
@[simp] theorem z_items1 {xs : List D} : itemsD (.tup xs) = some xs := id rfl
@[simp] theorem z_items2 {xs : List D} : itemsD (.lst xs) = some xs := id rfl
@[simp] theorem z_items3 {xs : List Int} : itemsD (.fzl xs) = some (xs.map .int) := id rfl
@[simp] theorem z_key1 {i : Int} : keyD (.int i) = some (.inl i) := id rfl
@[simp] theorem z_key2 {x : Str} : keyD (.str x) = some (.inr x) := id rfl
@[simp] theorem z_dkey1 {i : Int} : dKey (.inl i) = .int i := id rfl
@[simp] theorem z_dkey2 {x : Str} : dKey (.inr x) = .str x := id rfl
/-! types -/
@[simp] theorem ty_1 {i : Int} : tyD .int (.int i) = some true := id rfl
@[simp] theorem ty_2 {i : Int} : tyD .bool (.int i) = some false := id rfl
@[simp] theorem ty_3 {i : Int} : tyD .str (.int i) = some false := id rfl
@[simp] theorem ty_4 {i : Int} : tyD .tuple (.int i) = some false := id rfl
@[simp] theorem ty_5 {i : Int} : tyD .list (.int i) = some false := id rfl
@[simp] theorem ty_6 {i : Bool} : tyD .int (.bl i) = some true := id rfl
@[simp] theorem ty_7 {i : Bool} : tyD .bool (.bl i) = some true := id rfl
@[simp] theorem ty_8 {i : Bool} : tyD .str (.bl i) = some false := id rfl
@[simp] theorem ty_9 {i : Bool} : tyD .tuple (.bl i) = some false := id rfl
@[simp] theorem ty_10 {i : Bool} : tyD .list (.bl i) = some false := id rfl
@[simp] theorem ty_11 {i : Str} : tyD .int (.str i) = some false := id rfl
@[simp] theorem ty_12 {i : Str} : tyD .bool (.str i) = some false := id rfl
@[simp] theorem ty_13 {i : Str} : tyD .str (.str i) = some true := id rfl
@[simp] theorem ty_14 {i : Str} : tyD .tuple (.str i) = some false := id rfl
@[simp] theorem ty_15 {i : Str} : tyD .list (.str i) = some false := id rfl
@[simp] theorem ty_16 {i : List D} : tyD .int (.tup i) = some false := id rfl
@[simp] theorem ty_17 {i : List D} : tyD .bool (.tup i) = some false := id rfl
@[simp] theorem ty_18 {i : List D} : tyD .str (.tup i) = some false := id rfl
@[simp] theorem ty_19 {i : List D} : tyD .tuple (.tup i) = some true := id rfl
@[simp] theorem ty_20 {i : List D} : tyD .list (.tup i) = some false := id rfl
@[simp] theorem ty_21 {i : List D} : tyD .int (.lst i) = some false := id rfl
@[simp] theorem ty_22 {i : List D} : tyD .bool (.lst i) = some false := id rfl
@[simp] theorem ty_23 {i : List D} : tyD .str (.lst i) = some false := id rfl
@[simp] theorem ty_24 {i : List D} : tyD .tuple (.lst i) = some false := id rfl
@[simp] theorem ty_25 {i : List D} : tyD .list (.lst i) = some true := id rfl
@[simp] theorem ty_26 : tyD .int .non = some false := id rfl
@[simp] theorem ty_27 : tyD .bool .non = some false := id rfl
@[simp] theorem ty_28 : tyD .str .non = some false := id rfl
@[simp] theorem ty_29 : tyD .tuple .non = some false := id rfl
@[simp] theorem ty_30 : tyD .list .non = some false := id rfl
/-! items, operators -/
@[simp] theorem z_ixT {xs : List D} {i : Int} : itemD (.tup xs) (.int i) = atI xs i := id rfl
@[simp] theorem z_ixL {xs : List D} {i : Int} : itemD (.lst xs) (.int i) = atI xs i := id rfl
@[simp] theorem z_ixK {ks : List (Key × D)} {x : Str} : itemD (.dct ks) (.str x) = getD ks (.inr x) := id rfl
@[simp] theorem z_ixD {xs : List D} {i : Int} : ixD xs i = atI xs i := id rfl
@[simp] theorem z_add {i j : Int} : bopD .add (.int i) (.int j) = some (.int (i + j), .st) := id rfl
@[simp] theorem z_sub {i j : Int} : bopD .sub (.int i) (.int j) = some (.int (i - j), .st) := id rfl
@[simp] theorem z_eqS {x y : Str} : copD .eq (.str x) (.str y) = some (x == y) := id rfl
@[simp] theorem z_neS {x y : Str} : copD .ne (.str x) (.str y) = some (!(x == y)) := id rfl
@[simp] theorem z_eqI {x y : Int} : copD .eq (.int x) (.int y) = some (x == y) := id rfl
@[simp] theorem z_neI {x y : Int} : copD .ne (.int x) (.int y) = some (!(x == y)) := id rfl
@[simp] theorem z_eqB {x y : Bool} : copD .eq (.bl x) (.bl y) = some (x == y) := id rfl
@[simp] theorem z_neB {x y : Bool} : copD .ne (.bl x) (.bl y) = some (!(x == y)) := id rfl
@[simp] theorem z_ltI {x y : Int} : copD .lt (.int x) (.int y) = some (decide (x < y)) := id rfl
@[simp] theorem z_leI {x y : Int} : copD .le (.int x) (.int y) = some (decide (x ≤ y)) := id rfl
@[simp] theorem z_gtI {x y : Int} : copD .gt (.int x) (.int y) = some (decide (y < x)) := id rfl
@[simp] theorem z_geI {x y : Int} : copD .ge (.int x) (.int y) = some (decide (y ≤ x)) := id rfl
@[simp] theorem z_len1 {xs : List D} : b1D .len (.tup xs) = some (.int xs.length, .st) := id rfl
@[simp] theorem z_len2 {xs : List D} : b1D .len (.lst xs) = some (.int xs.length, .st) := id rfl
@[simp] theorem z_tupl {xs : List D} : b1D .tuple (.lst xs) = some (.tup xs, .st) := id rfl
@[simp] theorem z_tupt {xs : List D} : b1D .tuple (.tup xs) = some (.tup xs, .st) := id rfl
@[simp] theorem z_lstl {xs : List D} : b1D .list (.lst xs) = some (.lst xs, .fr) := id rfl
@[simp] theorem z_lstt {xs : List D} : b1D .list (.tup xs) = some (.lst xs, .fr) := id rfl
@[simp] theorem z_lstf {xs : List Int} : b1D .list (.fzl xs) = some (.lst (xs.map .int), .fr) := id rfl
@[simp] theorem z_lstk {ks : List (Key × D)} : b1D .list (.dct ks) = some (.lst (ks.map fun k => dKey k.1), .fr) := id rfl
@[simp] theorem z_intI {i : Int} : b1D .int (.int i) = some (.int i, .st) := id rfl
end
section
variable {G : Nat → Option D} {F : Fn} {s : S}
@[simp] theorem z_skip : cm G F .skip s = some (.nx s) := id rfl
@[simp] theorem z_seq {a b : C} : cm G F (.seq a b) s = bnd ((cm G F a s)) (k := ⟨fun o => match o with | .nx s1 => cm G F b s1 | o => some o⟩) := id rfl
@[simp] theorem z_asgC {i : Nat} {e : E} : cm G F (.asg (.nm i) e) s = nxS (asgF i (sm G F e).v s) := id rfl
@[simp] theorem z_asgT {t : Tn} {e : E} : cm G F (.asg (.tp t) e) s = nxS (bnd ((hF (sm G F e).v s)) (k := ⟨fun h => bindX (.tp t) [h.1] h.2⟩)) := id rfl
@[simp] theorem z_par {i j : Nat} {a b : E} : cm G F (.par i j a b) s = nxS (parF i j (sm G F a).v (sm G F b).v s) := id rfl
@[simp] theorem z_ret {e : E} : cm G F (.ret e) s = bnd ((hF (sm G F e).v s)) (k := ⟨fun h => some (.rt h.1 h.2)⟩) := id rfl
@[simp] theorem z_retf {e : E} : cm G F (.retf e) s = bnd (((sm G F e).v s)) (k := ⟨fun x => bnd ((fresh x.2.2 (x.1, x.2.1))) (k := ⟨fun d => some (.rf d x.2.2)⟩)⟩) := id rfl
@[simp] theorem z_retn : cm G F .retn s = some (.rt .non s) := id rfl
@[simp] theorem z_iteC {c : E} {a b : C} : cm G F (.ite c a b) s = bnd ((toC (sm G F c).v s)) (k := ⟨fun x => if x.1 then (cm G F a x.2) else (cm G F b x.2)⟩) := id rfl
@[simp] theorem z_never : cm G F .never s = none := id rfl
@[simp] theorem z_brk : cm G F .brk s = some (.bk s) := id rfl
@[simp] theorem z_cont : cm G F .cont s = some (.ct s) := id rfl
/-- a target is bound -/
def bdN (t : Tn) (d : D) (s : S) : Option S := bindX t [d] s
@[simp] theorem z_bdN {i : Nat} {d : D} : bdN (.nm i) d s = if i < s.sl.length then some (s.set i d false) else none := id rfl
@[simp] theorem z_bx1 {i : Nat} {d : D} : bindX (.nm i) [d] s = if i < s.sl.length then some (s.set i d false) else none := id rfl
@[simp] theorem z_bx2 {t : Tn} {ds : List D} : bindX (.tp t) [.tup ds] s = bindX t ds s := id rfl
@[simp] theorem z_bx3 : bindX .nil [] s = some s := id rfl
@[simp] theorem z_bx4 {t r : Tn} {d : D} {ds : List D} : bindX (.cons t r) (d :: ds) s = (bindX t [d] s).bind (bindX r ds) := id rfl
@[simp] theorem z_bdT {t : Tn} {ds : List D} : bdN (.tp t) (.tup ds) s = bindX t ds s := id rfl
@[simp] theorem z_for {t : Tn} {it : E} {b : C} : cm G F (.forr t it b) s = bnd (((sm G F it).i s)) (k := ⟨fun x => forLoop (bdN t) (cm G F b) x.1 x.2⟩) := id rfl
@[simp] theorem z_whl {c : E} {b : C} : cm G F (.whl c b) s = whlLoop (toC (sm G F c).v) (cm G F b) s := id rfl
/-- room for one more, or for so many -/
def rmO (n : Nat) : Option Unit := if n < sizeLine then some () else none
def rmE (n : Nat) : Option Unit := if n ≤ sizeLine then some () else none
theorem rmO_of {n : Nat} (h : n ≤ 16000000) : rmO n = some () := by
  unfold rmO
  rw [if_pos (Nat.lt_of_lt_of_le (show n < 16000001 by omega) (by decide))]
theorem rmE_of {n : Nat} (h : n ≤ 16000000) : rmE n = some () := by
  unfold rmE
  rw [if_pos (Nat.le_trans h (by decide))]
@[simp] theorem rmO_0 : rmO 0 = some () := rmO_of (by omega)
theorem rm_if {β : Type} {n : Nat} {r : β} : (if n < sizeLine then some r else none) = (rmO n).map fun _ => r := by
  unfold rmO
  split <;> rfl
theorem rm_ie {β : Type} {n : Nat} {r : β} : (if n ≤ sizeLine then some r else none) = (rmE n).map fun _ => r := by
  unfold rmE
  split <;> rfl
theorem z_app_o {i : Nat} {e : E} : cm G F (.app i e) s = nxS ((ownL s i).bind fun _ => (hF (sm G F e).v s).bind fun h => (ownL h.2 i).bind fun xs => (rmO xs.length).map fun _ => h.2.set i (.lst (xs ++ [h.1])) true) := by
  simp only [← rm_if]; rfl
@[simp] theorem z_app {i : Nat} {e : E} : cm G F (.app i e) s = nxS (bnd ((ownL s i)) (k := ⟨fun _ => bnd ((hF (sm G F e).v s)) (k := ⟨fun h => bnd ((ownL h.2 i)) (k := ⟨fun xs => bnd ((rmO xs.length)) (k := ⟨fun _ => some (h.2.set i (.lst (xs ++ [h.1])) true)⟩)⟩)⟩)⟩)) := by
  rw [z_app_o]
  rfl
theorem z_ext_o {i : Nat} {e : E} : cm G F (.ext i e) s = nxS ((ownL s i).bind fun _ => (hF (sm G F e).v s).bind fun h => (listD h.1).bind fun ys => (ownL h.2 i).bind fun xs => (rmE (xs.length + ys.length)).map fun _ => h.2.set i (.lst (xs ++ ys)) true) := by
  simp only [← rm_ie]; rfl
@[simp] theorem z_ext {i : Nat} {e : E} : cm G F (.ext i e) s = nxS (bnd ((ownL s i)) (k := ⟨fun _ => bnd ((hF (sm G F e).v s)) (k := ⟨fun h => bnd ((listD h.1)) (k := ⟨fun ys => bnd ((ownL h.2 i)) (k := ⟨fun xs => bnd ((rmE (xs.length + ys.length))) (k := ⟨fun _ => some (h.2.set i (.lst (xs ++ ys)) true)⟩)⟩)⟩)⟩)⟩)) := by
  rw [z_ext_o]
  rfl
theorem z_ins_o {i : Nat} {e : E} : cm G F (.ins i e) s = nxS ((ownL s i).bind fun _ => (hF (sm G F e).v s).bind fun h => (ownL h.2 i).bind fun xs => (rmO xs.length).map fun _ => h.2.set i (.lst (h.1 :: xs)) true) := by
  simp only [← rm_if]; rfl
@[simp] theorem z_ins {i : Nat} {e : E} : cm G F (.ins i e) s = nxS (bnd ((ownL s i)) (k := ⟨fun _ => bnd ((hF (sm G F e).v s)) (k := ⟨fun h => bnd ((ownL h.2 i)) (k := ⟨fun xs => bnd ((rmO xs.length)) (k := ⟨fun _ => some (h.2.set i (.lst (h.1 :: xs)) true)⟩)⟩)⟩)⟩)) := by
  rw [z_ins_o]
  rfl
theorem z_setd_o {i : Nat} {k e : E} : cm G F (.setd i k e) s = nxS ((hF (sm G F e).v s).bind fun h => (ownK h.2 i).bind fun _ => ((sm G F k).v h.2).bind fun y => (ownK y.2.2 i).bind fun ks => (keyD y.1).bind fun k => (rmO ks.length).map fun _ => y.2.2.set i (.dct (putD ks k h.1)) true) := by
  simp only [← rm_if]; rfl
@[simp] theorem z_setd {i : Nat} {k e : E} : cm G F (.setd i k e) s = nxS (bnd ((hF (sm G F e).v s)) (k := ⟨fun h => bnd ((ownK h.2 i)) (k := ⟨fun _ => bnd (((sm G F k).v h.2)) (k := ⟨fun y => bnd ((ownK y.2.2 i)) (k := ⟨fun ks => bnd ((keyD y.1)) (k := ⟨fun k => bnd ((rmO ks.length)) (k := ⟨fun _ => some (y.2.2.set i (.dct (putD ks k h.1)) true)⟩)⟩)⟩)⟩)⟩)⟩)) := by
  rw [z_setd_o]
  rfl
@[simp] theorem z_setr {i : Nat} {k e : E} : cm G F (.setr i k e) s = nxS (bnd ((hF (sm G F e).v s)) (k := ⟨fun h => bnd ((refD h.2 i)) (k := ⟨fun n => bnd (((sm G F k).v h.2)) (k := ⟨fun y => bnd ((intD y.1)) (k := ⟨fun z => bnd ((y.2.2.mh[n]?)) (k := ⟨fun xs => bnd ((ixN xs.length z)) (k := ⟨fun j => some { y.2.2 with mh := y.2.2.mh.set n (xs.set j h.1) }⟩)⟩)⟩)⟩)⟩)⟩)) := id rfl
theorem seq_nx {a b : C} {s1 : S} (h : cm G F a s = some (.nx s1)) : cm G F (.seq a b) s = cm G F b s1 := by rw [z_seq, h]; rfl
theorem z_addS {x y : Str} : bopD .add (.str x) (.str y) = (rmE (x.length + y.length)).map fun _ => (.str (x ++ y), .st) := by
  rw [← rm_ie]
  show (if decide _ = true then _ else _) = _
  simp only [decide_eq_true_eq]
theorem z_addL_o {x y : List D} : bopD .add (.lst x) (.lst y) = (rmE (x.length + y.length)).map fun _ => (.lst (x ++ y), .fr) := by
  rw [← rm_ie]
  show (if decide _ = true then _ else _) = _
  simp only [decide_eq_true_eq]
@[simp] theorem z_addL {x y : List D} : bopD .add (.lst x) (.lst y) = bnd ((rmE (x.length + y.length))) (k := ⟨fun _ => some ((.lst (x ++ y), .fr))⟩) := by
  rw [z_addL_o]
  rfl
theorem z_addT_o {x y : List D} : bopD .add (.tup x) (.tup y) = (rmE (x.length + y.length)).map fun _ => (.tup (x ++ y), .st) := by
  rw [← rm_ie]
  show (if decide _ = true then _ else _) = _
  simp only [decide_eq_true_eq]
@[simp] theorem z_addT {x y : List D} : bopD .add (.tup x) (.tup y) = bnd ((rmE (x.length + y.length))) (k := ⟨fun _ => some ((.tup (x ++ y), .st))⟩) := by
  rw [z_addT_o]
  rfl
end
@[simp] theorem z_outR {d : D} {s : S} : outR (some (.rt d s)) = some (d, s.mh) := id rfl
@[simp] theorem z_outF {d : D} {s : S} : outF (some (.rf d s)) = some (d, s.mh) := id rfl
@[simp] theorem z_outN {s : S} : outR (some (.nx s)) = some (.non, s.mh) := id rfl
set_option smartUnfolding true
/-! ### loops -/
/-- what holds behind a turn -/
def Post (J : S → Prop) (Q : Out → Prop) : Out → Prop
  | .nx s => J s
  | .ct s => J s
  | .bk s => Q (.nx s)
  | .rt d s => Q (.rt d s)
  | .rf d s => Q (.rf d s)
section
variable {σ α : Type} {bd : D → S → Option S} {body : S → Option Out} {e : α → D}
theorem for_ind (I : List α → S → Prop) (Q : Out → Prop) (h0 : ∀ s, I [] s → Q (.nx s))
    (h : ∀ a as s (P : Out → Prop), I (a :: as) s → (∀ o, Post (I as) Q o → P o) → ∃ o, (bd (e a) s).bind body = some o ∧ P o) :
    ∀ as s, I as s → ∃ o, forLoop bd body (as.map e) s = some o ∧ Q o
  | [], s, hi => ⟨_, rfl, h0 s hi⟩
  | a :: as, s, hi => by
    obtain ⟨o, h1, h3⟩ := h a as s _ hi fun _ q => q
    obtain ⟨s1, h1, h2⟩ := Option.bind_eq_some_iff.mp h1
    have un : forLoop bd body ((a :: as).map e) s = (bd (e a) s).bind fun s1 => (body s1).bind fun o => match o with
      | .nx s2 => forLoop bd body (as.map e) s2
      | .ct s2 => forLoop bd body (as.map e) s2
      | .bk s2 => some (.nx s2)
      | .rt d s2 => some (.rt d s2)
      | .rf d s2 => some (.rf d s2) := id rfl
    rw [un, h1, Option.bind_some, h2, Option.bind_some]
    match o, h3 with
    | .nx s2, h3 => exact for_ind I Q h0 h as s2 h3
    | .ct s2, h3 => exact for_ind I Q h0 h as s2 h3
    | .bk s2, h3 => exact ⟨_, rfl, h3⟩
    | .rt d s2, h3 => exact ⟨_, rfl, h3⟩
    | .rf d s2, h3 => exact ⟨_, rfl, h3⟩
theorem whl_ind {c : Fc} (I : σ → S → Prop) (m : σ → Nat) (Q : Out → Prop)
    (h : ∀ x s (P : Out → Prop), I x s → (∀ o, Post (fun s2 => ∃ x', I x' s2 ∧ m x' < m x) Q o → P o) → ∃ o, ((c s).bind fun x => if x.1 then body x.2 else some (.bk x.2)) = some o ∧ P o) :
    ∀ n x s, m x ≤ n → I x s → ∃ o, whlLoop c body s = some o ∧ Q o := by
  intro n
  induction n with
  | zero =>
    intro x s hm hi
    obtain ⟨o, h1, h2⟩ := h x s _ hi fun _ q => q
    obtain ⟨⟨b, s1⟩, h0, h3⟩ := Option.bind_eq_some_iff.mp h1
    clear h1
    rw [whlLoop.eq_1]
    cases b with
    | false =>
      cases h3
      exact ⟨_, by simp [h0], h2⟩
    | true =>
      simp only [if_true] at h3
      match o, h3, h2 with
      | .nx s2, h4, ⟨x', _, h5⟩ => omega
      | .ct s2, h4, ⟨x', _, h5⟩ => omega
      | .bk s2, h4, h5 => exact ⟨_, by simp [h0, h4], h5⟩
      | .rt d s2, h4, h5 => exact ⟨_, by simp [h0, h4], h5⟩
      | .rf d s2, h4, h5 => exact ⟨_, by simp [h0, h4], h5⟩
  | succ n ih =>
    intro x s hm hi
    obtain ⟨o, h1, h2⟩ := h x s _ hi fun _ q => q
    obtain ⟨⟨b, s1⟩, h0, h3⟩ := Option.bind_eq_some_iff.mp h1
    clear h1
    rw [whlLoop.eq_1]
    cases b with
    | false =>
      cases h3
      exact ⟨_, by simp [h0], h2⟩
    | true =>
      simp only [if_true] at h3
      match o, h3, h2 with
      | .nx s2, h4, ⟨x', h6, h5⟩ =>
        obtain ⟨o, e, q⟩ := ih x' s2 (by omega) h6
        exact ⟨o, by simp [h0, h4]; exact e, q⟩
      | .ct s2, h4, ⟨x', h6, h5⟩ =>
        obtain ⟨o, e, q⟩ := ih x' s2 (by omega) h6
        exact ⟨o, by simp [h0, h4]; exact e, q⟩
      | .bk s2, h4, h5 => exact ⟨_, by simp [h0, h4], h5⟩
      | .rt d s2, h4, h5 => exact ⟨_, by simp [h0, h4], h5⟩
      | .rf d s2, h4, h5 => exact ⟨_, by simp [h0, h4], h5⟩
end
end E3
set_option linter.all false
set_option maxRecDepth 100000
set_option maxHeartbeats 1000000
namespace E3
open PySem L2
/-! ### data: places, ranges, dicts -/
@[simp] theorem at_0 {α : Type} {a : α} {l : List α} : atI (a :: l) 0 = some a := by
  unfold atI ixN
  rw [if_pos (by omega), if_pos (by simp only [List.length_cons]; omega)]
  rfl
@[simp] theorem at_1 {α : Type} {a b : α} {l : List α} : atI (a :: b :: l) 1 = some b := by
  unfold atI ixN
  rw [if_pos (by omega), if_pos (by simp only [List.length_cons]; omega)]
  rfl
@[simp] theorem at_2 {α : Type} {a b c : α} {l : List α} : atI (a :: b :: c :: l) 2 = some c := by
  unfold atI ixN
  rw [if_pos (by omega), if_pos (by simp only [List.length_cons]; omega)]
  rfl
@[simp] theorem at_3 {α : Type} {a b c d : α} {l : List α} : atI (a :: b :: c :: d :: l) 3 = some d := by
  unfold atI ixN
  rw [if_pos (by omega), if_pos (by simp only [List.length_cons]; omega)]
  rfl
@[simp] theorem at_4 {α : Type} {a b c d e : α} {l : List α} : atI (a :: b :: c :: d :: e :: l) 4 = some e := by
  unfold atI ixN
  rw [if_pos (by omega), if_pos (by simp only [List.length_cons]; omega)]
  rfl
theorem at_map {α β : Type} {f : α → β} {l : List α} {i : Int} : atI (l.map f) i = (atI l i).map f := by
  unfold atI
  rw [List.length_map]
  cases ixN l.length i with
  | none => rfl
  | some j => simp
theorem at_nat {α : Type} {l : List α} {i : Nat} {x : α} (h : l[i]? = some x) : atI l (i : Int) = some x := by
  unfold atI ixN
  have hi : i < l.length := (List.getElem?_eq_some_iff.mp h).1
  rw [if_pos (by omega), if_pos (by omega)]
  simpa using h
theorem at_natD {α : Type} {l : List α} {i : Nat} : atI l (i : Int) = l[i]? := by
  unfold atI ixN
  rw [if_pos (by omega)]
  by_cases h : i < l.length
  · rw [if_pos (by omega)]; simp
  · rw [if_neg (by omega)]; simp; omega
/-- the last one -/
theorem at_last {α : Type} {l : List α} {x : α} : atI (l ++ [x]) (-1) = some x := by
  unfold atI ixN
  have h : (l ++ [x]).length = l.length + 1 := by simp
  rw [h]
  rw [if_neg (by omega), if_pos (by omega)]
  show (l ++ [x])[_]? = _
  have : (-1 + ((l.length + 1 : Nat) : Int)).toNat = l.length := by omega
  rw [this]
  simp
theorem at_neg1 {α : Type} {l : List α} : atI l (-1) = l.getLast? := by
  cases h : l.getLast? with
  | none =>
    have := List.getLast?_eq_none_iff.mp h
    subst this
    rfl
  | some x =>
    obtain ⟨ys, e⟩ := List.getLast?_eq_some_iff.mp h
    rw [e, at_last]
/-- range(n) from i on -/
def rgF (i n : Nat) : List D := (List.range' i n).map fun j => D.int (j : Nat)
theorem rgD_eq {n : Int} (h : 0 ≤ n) : rgD 0 n = rgF 0 n.toNat := by
  unfold rgD rgF
  rw [Int.sub_zero, List.range_eq_range']
  simp
theorem rgOk_in {n : Int} (h0 : -2000000000 ≤ n) (h : n ≤ 2000000000) : rgOk n = true := by
  unfold rgOk
  rw [Bool.and_eq_true]
  exact ⟨decide_eq_true (by omega), decide_eq_true (by omega)⟩
theorem rgO_nat {n : Nat} (h : n ≤ 2000000000) : rgO 0 (n : Int) = some ((List.range n).map fun j => D.int (j : Nat)) := by
  unfold rgO
  rw [rgOk0, rgOk_in (by omega) (by omega), rgD_eq (by omega)]
  unfold rgF
  rw [← List.range_eq_range']
  rfl
theorem rgO_len {α : Type} {l : List α} (h : l.length ≤ 2000000000) : rgO 0 (l.length : Int) = some ((List.range l.length).map fun j => D.int (j : Nat)) := rgO_nat h
theorem rgO_two {a b : Int} (h1 : -2000000000 ≤ a) (h2 : a ≤ 2000000000) (h3 : -2000000000 ≤ b) (h4 : b ≤ 2000000000) : rgO a b = some ((List.range (b - a).toNat).map fun j => D.int (a + (j : Nat))) := by
  unfold rgO
  rw [rgOk_in h1 h2, rgOk_in h3 h4]
  rfl
/-! truth tables -/
theorem bools_map {α : Type} {p : α → Bool} : ∀ {xs : List α}, bools (xs.map fun x => D.bl (p x)) = some (xs.map p)
  | [] => rfl
  | x :: xs => by
    show (bools (xs.map fun x => D.bl (p x))).map (p x :: ·) = _
    rw [bools_map]
    rfl
theorem z_all {α : Type} {p : α → Bool} {xs : List α} : b1D .all (.lst (xs.map fun x => D.bl (p x))) = some (.bl (xs.all p), .st) := by
  show (bools _).map _ = _
  rw [bools_map]
  simp [List.all_map]
theorem z_any {α : Type} {p : α → Bool} {xs : List α} : b1D .any (.lst (xs.map fun x => D.bl (p x))) = some (.bl (xs.any p), .st) := by
  show (bools _).map _ = _
  rw [bools_map]
  simp [List.any_map]
theorem strs_map : ∀ {xs : List Str}, strsD (xs.map D.str) = some xs
  | [] => rfl
  | x :: xs => by
    show (strsD (xs.map D.str)).map (x :: ·) = _
    rw [strs_map]
    rfl
/-! in -/
theorem mem_str {x : Str} {ys : List Str} : memD (.str x) (.lst (ys.map D.str)) = some (decide (x ∈ ys)) := by
  show (if flatS (.str x) && (ys.map D.str).all flatS then some ((ys.map D.str).any fun y => eqD y (.str x)) else _) = _
  rw [if_pos (by simp [flatS]), List.any_map]
  congr 1
  rw [Bool.eq_iff_iff]
  simp only [List.any_eq_true, Function.comp, decide_eq_true_eq]
  constructor
  · rintro ⟨y, hy, e⟩
    have : y = x := by simpa [eqD] using e
    exact this ▸ hy
  · intro h
    exact ⟨x, h, by simp [eqD]⟩
theorem mem_strT {x : Str} {ys : List Str} : memD (.str x) (.tup (ys.map D.str)) = some (decide (x ∈ ys)) := by
  have := mem_str (x := x) (ys := ys)
  show (if flatS (.str x) && (ys.map D.str).all flatS then some ((ys.map D.str).any fun y => eqD y (.str x)) else _) = _
  rw [if_pos (by simp [flatS])]
  have h2 : (if flatS (.str x) && (ys.map D.str).all flatS then some ((ys.map D.str).any fun y => eqD y (.str x)) else none) = some (decide (x ∈ ys)) := this
  rw [if_pos (by simp [flatS])] at h2
  exact h2
@[simp] theorem z_inS {x : Str} {ys : List Str} : copD .inn (.str x) (.lst (ys.map D.str)) = some (decide (x ∈ ys)) := mem_str
@[simp] theorem z_ninS {x : Str} {ys : List Str} : copD .nin (.str x) (.lst (ys.map D.str)) = some (!decide (x ∈ ys)) := by
  show (memD _ _).map _ = _
  rw [mem_str]; rfl
@[simp] theorem z_inT {x : Str} {ys : List Str} : copD .inn (.str x) (.tup (ys.map D.str)) = some (decide (x ∈ ys)) := mem_strT
@[simp] theorem z_ninT {x : Str} {ys : List Str} : copD .nin (.str x) (.tup (ys.map D.str)) = some (!decide (x ∈ ys)) := by
  show (memD _ _).map _ = _
  rw [mem_strT]; rfl
theorem mem_non {ys : List Str} : memD .non (.lst (ys.map D.str)) = some false := by
  show (if flatS .non && (ys.map D.str).all flatS then some ((ys.map D.str).any fun y => eqD y .non) else _) = _
  rw [if_pos (by simp [flatS]), List.any_map]
  congr 1
  rw [Bool.eq_iff_iff]
  simp [eqD]
/-! dicts -/
theorem getD_map {β : Type} {f : β → D} {ks : List (Str × β)} {x : Str} : getD (ks.map fun p => ((.inr p.1 : Key), f p.2)) (.inr x) = ((ks.find? fun p => p.1 == x).map (·.2)).map f := by
  unfold getD
  rw [List.find?_map]
  have : ((fun kv : Key × D => decide (kv.1 = .inr x)) ∘ fun p : Str × β => ((.inr p.1 : Key), f p.2)) = fun p => p.1 == x := by
    funext p
    rw [Bool.eq_iff_iff]
    simp
  rw [this]
  cases ks.find? fun p => p.1 == x <;> rfl
theorem putD_new {β : Type} {f : β → D} {ks : List (Str × β)} {x : Str} {d : D} (h : x ∉ ks.map (·.1)) : putD (ks.map fun p => ((.inr p.1 : Key), f p.2)) (.inr x) d = (ks.map fun p => ((.inr p.1 : Key), f p.2)) ++ [(.inr x, d)] := by
  unfold putD
  rw [if_neg]
  rw [List.any_map]
  simp only [List.any_eq_true, Function.comp, decide_eq_true_eq, not_exists, not_and]
  intro p hp e
  have : p.1 = x := by injection e
  exact h (List.mem_map.mpr ⟨p, hp, this⟩)
theorem putD_fold {β : Type} {f : β → D} : ∀ {xs ks : List (Str × β)}, ((ks ++ xs).map (·.1)).Nodup → (xs.map fun p => ((.inr p.1 : Key), f p.2)).foldl (fun a k => putD a k.1 k.2) (ks.map fun p => ((.inr p.1 : Key), f p.2)) = (ks ++ xs).map fun p => ((.inr p.1 : Key), f p.2)
  | [], ks, _ => by simp
  | x :: xs, ks, h => by
    rw [List.map_cons, List.foldl_cons]
    have hx : x.1 ∉ ks.map (·.1) := by
      intro hm
      rw [List.map_append, List.map_cons, List.nodup_append] at h
      exact h.2.2 _ hm _ List.mem_cons_self rfl
    have e : putD (ks.map fun p => ((.inr p.1 : Key), f p.2)) (.inr x.1) (f x.2) = (ks ++ [x]).map fun p => ((.inr p.1 : Key), f p.2) := by
      rw [putD_new hx]
      simp
    rw [e, putD_fold (by simpa using h)]
    simp
theorem mem_dct {β : Type} {f : β → D} {ks : List (Str × β)} {x : Str} : memD (.str x) (.dct (ks.map fun p => ((.inr p.1 : Key), f p.2))) = some (decide (x ∈ ks.map (·.1))) := by
  show some (getD _ (.inr x)).isSome = _
  rw [getD_map]
  congr 1
  rw [Bool.eq_iff_iff]
  simp only [Option.isSome_map, decide_eq_true_eq, List.mem_map]
  rw [List.find?_isSome]
  constructor
  · rintro ⟨p, hp, e⟩; exact ⟨p, hp, by simpa using e⟩
  · rintro ⟨p, hp, e⟩; exact ⟨p, hp, by simpa using e⟩
/-! ### comprehensions -/
theorem lc_gen {α : Type} {e : α → D} {bd : D → S → Option S} {cd : S → Option (Bool × S)} {el : S → Option (D × S)} {wp : S → S} {w : S} {sd : α → S} {c : α → Bool} {f : α → D} : ∀ (ds : List α) (acc : List D) (s : S), wp s = w →
    (∀ d ∈ ds, bd (e d) w = some (sd d)) → (∀ d ∈ ds, wp (sd d) = w) → (∀ d ∈ ds, cd (sd d) = some (c d, sd d)) → (∀ d ∈ ds, c d = true → el (sd d) = some (f d, sd d)) → acc.length + ds.length ≤ 16000000 →
    ∃ s', lcLoop bd cd el wp (ds.map e) acc s = some (acc ++ (ds.filter c).map f, s') ∧ wp s' = w
  | [], acc, s, h, _, _, _, _, _ => ⟨s, by simp [lcLoop], h⟩
  | d :: ds, acc, s, h, h1, h2, h3, h4, hl => by
    have un : lcLoop bd cd el wp ((d :: ds).map e) acc s = (bd (e d) (wp s)).bind fun s1 => (cd s1).bind fun c =>
      if c.1 then (el c.2).bind fun x => if acc.length < sizeLine then lcLoop bd cd el wp (ds.map e) (acc ++ [x.1]) x.2 else none
      else lcLoop bd cd el wp (ds.map e) acc c.2 := id rfl
    have hz : acc.length < sizeLine := Nat.lt_of_lt_of_le (show acc.length < 16000001 by simp only [List.length_cons] at hl; omega) (by decide)
    have hm := fun {x} (hx : x ∈ ds) => List.mem_cons_of_mem d hx
    rw [un, h, h1 d List.mem_cons_self, Option.bind_some, h3 d List.mem_cons_self, Option.bind_some]
    cases hc : c d with
    | true =>
      simp only [if_true]
      rw [h4 d List.mem_cons_self hc, Option.bind_some, if_pos hz]
      obtain ⟨s', e1, e2⟩ := lc_gen (sd := sd) (c := c) (f := f) ds (acc ++ [f d]) (sd d) (h2 d List.mem_cons_self) (fun x hx => h1 x (hm hx)) (fun x hx => h2 x (hm hx)) (fun x hx => h3 x (hm hx)) (fun x hx => h4 x (hm hx)) (by simp only [List.length_cons, List.length_append, List.length_nil] at hl ⊢; omega)
      exact ⟨s', by rw [e1]; simp [hc], e2⟩
    | false =>
      simp only [Bool.false_eq_true, if_false]
      obtain ⟨s', e1, e2⟩ := lc_gen (sd := sd) (c := c) (f := f) ds acc (sd d) (h2 d List.mem_cons_self) (fun x hx => h1 x (hm hx)) (fun x hx => h2 x (hm hx)) (fun x hx => h3 x (hm hx)) (fun x hx => h4 x (hm hx)) (by simp only [List.length_cons] at hl; omega)
      exact ⟨s', by rw [e1]; simp [hc], e2⟩
theorem wipe_sl {s : S} : ∀ {is : List Nat} {j : Nat}, (wipeS s is).sl[j]? = if j ∈ is ∧ j < s.sl.length then some none else s.sl[j]?
  | [], j => by simp [wipeS]
  | i :: is, j => by
    have ln : ∀ is, (wipeS s is).sl.length = s.sl.length := fun is => by
      induction is with
      | nil => rfl
      | cons i is ih => show ((wipeS s is).sl.set i none).length = _; rw [List.length_set, ih]
    show ((wipeS s is).sl.set i none)[j]? = _
    rw [List.getElem?_set, wipe_sl, ln]
    by_cases e : i = j
    · subst e
      by_cases h : i < s.sl.length <;> simp [h]
    · have : j ≠ i := fun q => e q.symm
      simp [e, this]
theorem wipe_mh {s : S} : ∀ {is : List Nat}, (wipeS s is).mh = s.mh
  | [] => rfl
  | i :: is => wipe_mh (is := is)
theorem back_sl {t s : S} : ∀ {is : List Nat} {j : Nat}, (backS t s is).sl[j]? = if j ∈ is ∧ j < s.sl.length then some ((t.sl[j]?).getD none) else s.sl[j]?
  | [], j => by simp [backS]
  | i :: is, j => by
    have ln : ∀ is, (backS t s is).sl.length = s.sl.length := fun is => by
      induction is with
      | nil => rfl
      | cons i is ih => show ((backS t s is).sl.set i _).length = _; rw [List.length_set, ih]
    show ((backS t s is).sl.set i _)[j]? = _
    rw [List.getElem?_set, back_sl, ln]
    by_cases e : i = j
    · subst e
      by_cases h : i < s.sl.length <;> simp [h]
    · have : j ≠ i := fun q => e q.symm
      simp [e, this]
theorem back_mh {t s : S} : ∀ {is : List Nat}, (backS t s is).mh = s.mh
  | [] => rfl
  | i :: is => back_mh (is := is)
theorem wipe_len {s : S} : ∀ {is : List Nat}, (wipeS s is).sl.length = s.sl.length
  | [] => rfl
  | i :: is => by show ((wipeS s is).sl.set i none).length = _; rw [List.length_set, wipe_len]
theorem back_of {t s : S} {is : List Nat} (h : wipeS s is = wipeS t is) : backS t s is = t := by
  have hm : s.mh = t.mh := by rw [← wipe_mh (s := s) (is := is), h, wipe_mh]
  have hl : s.sl.length = t.sl.length := by rw [← wipe_len (s := s) (is := is), h, wipe_len]
  have hs : (backS t s is).sl = t.sl := by
    apply List.ext_getElem?
    intro j
    rw [back_sl]
    by_cases q : j ∈ is ∧ j < s.sl.length
    · rw [if_pos q, List.getElem?_eq_getElem (by omega)]; rfl
    · rw [if_neg q]
      have e1 := wipe_sl (s := s) (is := is) (j := j)
      have e2 := wipe_sl (s := t) (is := is) (j := j)
      rw [if_neg q] at e1
      rw [if_neg (by rw [← hl]; exact q)] at e2
      rw [← e1, ← e2, h]
  have hb : (backS t s is).mh = t.mh := by rw [back_mh, hm]
  cases hx : backS t s is with
  | mk sl mh =>
    rw [hx] at hs hb
    cases t
    simp at hs hb
    rw [hs, hb]
/-- [el for tg in it if cd]: s1: the state behind it -/
theorem lcF_gen {α : Type} {e : α → D} {own : List Nat} {tg : Tn} {it : Fa} {cd : Fc} {el : Fv} {s0 : S} (s1 : S) {ds : List α} (sd : α → S) (c : α → Bool) (f : α → D) (hit : it s0 = some (ds.map e, s1))
    (hb : ∀ d ∈ ds, bindX tg [e d] (wipeS s1 own) = some (sd d)) (hw : ∀ d ∈ ds, wipeS (sd d) own = wipeS s1 own) (hc : ∀ d ∈ ds, cd (sd d) = some (c d, sd d)) (he : ∀ d ∈ ds, c d = true → hF el (sd d) = some (f d, sd d)) (hl : ds.length ≤ 16000000) :
    lcF own tg it cd el s0 = some (.lst ((ds.filter c).map f), .fr, s1) := by
  obtain ⟨s', e1, e2⟩ := lc_gen (wp := fun s => wipeS s own) (bd := fun d s => bindX tg [d] s) ds [] s1 rfl hb hw hc he (by simpa using hl)
  have un : lcF own tg it cd el s0 = (it s0).bind fun x => (lcLoop (fun d s => bindX tg [d] s) cd (hF el) (fun s => wipeS s own) x.1 [] x.2).map fun r => (.lst r.1, .fr, backS x.2 r.2 own) := id rfl
  rw [un, hit, Option.bind_some, e1]
  show some (D.lst _, Tg.fr, backS s1 s' own) = _
  rw [back_of e2]
  simp
theorem dc_gen {α : Type} {e : α → D} {bd : D → S → Option S} {cd : S → Option (Bool × S)} {ky el : S → Option (D × S)} {wp : S → S} {w : S} {sd : α → S} {c : α → Bool} {k : α → Key} {f : α → D} : ∀ (ds : List α) (acc : List (Key × D)) (s : S), wp s = w →
    (∀ d ∈ ds, bd (e d) w = some (sd d)) → (∀ d ∈ ds, wp (sd d) = w) → (∀ d ∈ ds, cd (sd d) = some (c d, sd d)) → (∀ d ∈ ds, c d = true → ky (sd d) = some (dKey (k d), sd d)) → (∀ d ∈ ds, c d = true → el (sd d) = some (f d, sd d)) → acc.length + ds.length ≤ 16000000 →
    ∃ s', dcLoop bd cd ky el wp (ds.map e) acc s = some (((ds.filter c).map fun d => (k d, f d)).foldl (fun a k => putD a k.1 k.2) acc, s') ∧ wp s' = w
  | [], acc, s, h, _, _, _, _, _, _ => ⟨s, by simp [dcLoop], h⟩
  | d :: ds, acc, s, h, h1, h2, h3, h4, h5, hl => by
    have un : dcLoop bd cd ky el wp ((d :: ds).map e) acc s = (bd (e d) (wp s)).bind fun s1 => (cd s1).bind fun c =>
      if c.1 then (ky c.2).bind fun y => (el y.2).bind fun x => (keyD y.1).bind fun k => if acc.length < sizeLine then dcLoop bd cd ky el wp (ds.map e) (putD acc k x.1) x.2 else none
      else dcLoop bd cd ky el wp (ds.map e) acc c.2 := id rfl
    have hz : acc.length < sizeLine := Nat.lt_of_lt_of_le (show acc.length < 16000001 by simp only [List.length_cons] at hl; omega) (by decide)
    have hm := fun {x} (hx : x ∈ ds) => List.mem_cons_of_mem d hx
    rw [un, h, h1 d List.mem_cons_self, Option.bind_some, h3 d List.mem_cons_self, Option.bind_some]
    cases hc : c d with
    | true =>
      simp only [if_true]
      have hk : keyD (dKey (k d)) = some (k d) := by cases k d <;> rfl
      have hp : (putD acc (k d) (f d)).length ≤ acc.length + 1 := by
        unfold putD
        split
        · rw [List.length_map]; omega
        · simp
      rw [h4 d List.mem_cons_self hc, Option.bind_some, h5 d List.mem_cons_self hc, Option.bind_some, hk, Option.bind_some, if_pos hz]
      obtain ⟨s', e1, e2⟩ := dc_gen (sd := sd) (c := c) (k := k) (f := f) ds (putD acc (k d) (f d)) (sd d) (h2 d List.mem_cons_self) (fun x hx => h1 x (hm hx)) (fun x hx => h2 x (hm hx)) (fun x hx => h3 x (hm hx)) (fun x hx => h4 x (hm hx)) (fun x hx => h5 x (hm hx)) (by simp only [List.length_cons] at hl; omega)
      exact ⟨s', by rw [e1]; simp [hc], e2⟩
    | false =>
      simp only [Bool.false_eq_true, if_false]
      obtain ⟨s', e1, e2⟩ := dc_gen (sd := sd) (c := c) (k := k) (f := f) ds acc (sd d) (h2 d List.mem_cons_self) (fun x hx => h1 x (hm hx)) (fun x hx => h2 x (hm hx)) (fun x hx => h3 x (hm hx)) (fun x hx => h4 x (hm hx)) (fun x hx => h5 x (hm hx)) (by simp only [List.length_cons] at hl; omega)
      exact ⟨s', by rw [e1]; simp [hc], e2⟩
theorem dcF_gen {α : Type} {e : α → D} {own : List Nat} {tg : Tn} {it : Fa} {cd : Fc} {ky el : Fv} {s0 : S} (s1 : S) {ds : List α} (sd : α → S) (c : α → Bool) (k : α → Key) (f : α → D) (hit : it s0 = some (ds.map e, s1))
    (hb : ∀ d ∈ ds, bindX tg [e d] (wipeS s1 own) = some (sd d)) (hw : ∀ d ∈ ds, wipeS (sd d) own = wipeS s1 own) (hc : ∀ d ∈ ds, cd (sd d) = some (c d, sd d)) (hk : ∀ d ∈ ds, c d = true → hF ky (sd d) = some (dKey (k d), sd d)) (he : ∀ d ∈ ds, c d = true → hF el (sd d) = some (f d, sd d)) (hl : ds.length ≤ 16000000) :
    dcF own tg it cd ky el s0 = some (.dct (((ds.filter c).map fun d => (k d, f d)).foldl (fun a k => putD a k.1 k.2) []), .fr, s1) := by
  obtain ⟨s', e1, e2⟩ := dc_gen (wp := fun s => wipeS s own) (bd := fun d s => bindX tg [d] s) ds [] s1 rfl hb hw hc hk he (by simpa using hl)
  have un : dcF own tg it cd ky el s0 = (it s0).bind fun x => (dcLoop (fun d s => bindX tg [d] s) cd (hF ky) (hF el) (fun s => wipeS s own) x.1 [] x.2).map fun r => (.dct r.1, .fr, backS x.2 r.2 own) := id rfl
  rw [un, hit, Option.bind_some, e1]
  show some (D.dct _, Tg.fr, backS s1 s' own) = _
  rw [back_of e2]
/-- {..: .. for i in d if ..}, d a dict -/
theorem dkF_gen {α : Type} {own : List Nat} {i j : Nat} {cd : Fc} {ky el : Fv} {s0 s1 : S} {ks : List (Key × D)} {o : Bool} {ds : List α} (kx : α → Key) (hks : ks.map (·.1) = ds.map kx) (sd : α → S) (c : α → Bool) (k : α → Key) (f : α → D) (hj : s0.sl[j]? = some (some (.dct ks, o))) (hs : s0.set j (.dct ks) false = s1)
    (hb : ∀ d ∈ ds, bindX (.nm i) [dKey (kx d)] (wipeS s1 own) = some (sd d)) (hw : ∀ d ∈ ds, wipeS (sd d) own = wipeS s1 own) (hc : ∀ d ∈ ds, cd (sd d) = some (c d, sd d)) (hk : ∀ d ∈ ds, c d = true → hF ky (sd d) = some (dKey (k d), sd d)) (he : ∀ d ∈ ds, c d = true → hF el (sd d) = some (f d, sd d)) (hl : ds.length ≤ 16000000) :
    dkF own i j cd ky el s0 = some (.dct (((ds.filter c).map fun d => (k d, f d)).foldl (fun a k => putD a k.1 k.2) []), .fr, s1) := by
  subst hs
  obtain ⟨s', e1, e2⟩ := dc_gen (e := fun d => dKey (kx d)) (wp := fun s => wipeS s own) (bd := fun d s => bindX (.nm i) [d] s) ds [] (s0.set j (.dct ks) false) rfl hb hw hc hk he (by simpa using hl)
  have em : ks.map (fun k => dKey k.1) = ds.map fun d => dKey (kx d) := by
    have := congrArg (List.map dKey) hks
    rw [List.map_map, List.map_map] at this
    exact this
  have un : dkF own i j cd ky el s0 = (dcLoop (fun d s => bindX (.nm i) [d] s) cd (hF ky) (hF el) (fun s => wipeS s own) (ks.map fun k => dKey k.1) [] (s0.set j (.dct ks) false)).map fun r => (.dct r.1, .fr, backS (s0.set j (.dct ks) false) r.2 own) := by
    unfold dkF
    rw [hj]
  rw [un, em, e1]
  show some (D.dct _, Tg.fr, backS (s0.set j (.dct ks) false) s' own) = _
  rw [back_of e2]
/-! comprehensions that change the state (a list is handed on, ..): P holds of the state with the own names wiped -/
theorem back_w {t s : S} {is : List Nat} : backS t s is = backS t (wipeS s is) is := by
  have hs : (backS t s is).sl = (backS t (wipeS s is) is).sl := by
    apply List.ext_getElem?
    intro j
    rw [back_sl, back_sl, wipe_sl, wipe_len]
    by_cases q : j ∈ is ∧ j < s.sl.length
    · rw [if_pos q, if_pos q]
    · rw [if_neg q, if_neg q, if_neg q]
  have hm : (backS t s is).mh = (backS t (wipeS s is) is).mh := by rw [back_mh, back_mh, wipe_mh]
  cases h1 : backS t s is
  cases h2 : backS t (wipeS s is) is
  rw [h1, h2] at hs hm
  simp at hs hm
  rw [hs, hm]
theorem lc_inv {α : Type} {e : α → D} {bd : D → S → Option S} {cd : S → Option (Bool × S)} {el : S → Option (D × S)} {wp : S → S} {P : S → Prop} {c : α → Bool} {f : α → D} : ∀ (ds : List α) (acc : List D) (s : S), P (wp s) →
    (∀ d ∈ ds, ∀ w, P w → ∃ s1 s2, bd (e d) w = some s1 ∧ cd s1 = some (c d, s2) ∧ (c d = false → P (wp s2)) ∧ (c d = true → ∃ s3, el s2 = some (f d, s3) ∧ P (wp s3))) → acc.length + ds.length ≤ 16000000 →
    ∃ s', lcLoop bd cd el wp (ds.map e) acc s = some (acc ++ (ds.filter c).map f, s') ∧ P (wp s')
  | [], acc, s, h, _, _ => ⟨s, by simp [lcLoop], h⟩
  | d :: ds, acc, s, h, h1, hl => by
    have un : lcLoop bd cd el wp ((d :: ds).map e) acc s = (bd (e d) (wp s)).bind fun s1 => (cd s1).bind fun c =>
      if c.1 then (el c.2).bind fun x => if acc.length < sizeLine then lcLoop bd cd el wp (ds.map e) (acc ++ [x.1]) x.2 else none
      else lcLoop bd cd el wp (ds.map e) acc c.2 := id rfl
    have hz : acc.length < sizeLine := Nat.lt_of_lt_of_le (show acc.length < 16000001 by simp only [List.length_cons] at hl; omega) (by decide)
    have hm := fun {x} (hx : x ∈ ds) => List.mem_cons_of_mem d hx
    obtain ⟨s1, s2, h2, h3, h4, h5⟩ := h1 d List.mem_cons_self _ h
    rw [un, h2, Option.bind_some, h3, Option.bind_some]
    cases hc : c d with
    | true =>
      obtain ⟨s3, h6, h7⟩ := h5 hc
      simp only [if_true]
      rw [h6, Option.bind_some, if_pos hz]
      obtain ⟨s', e1, e2⟩ := lc_inv ds (acc ++ [f d]) s3 h7 (fun x hx => h1 x (hm hx)) (by simp only [List.length_cons, List.length_append, List.length_nil] at hl ⊢; omega)
      exact ⟨s', by rw [e1]; simp [hc], e2⟩
    | false =>
      simp only [Bool.false_eq_true, if_false]
      obtain ⟨s', e1, e2⟩ := lc_inv ds acc s2 (h4 hc) (fun x hx => h1 x (hm hx)) (by simp only [List.length_cons] at hl; omega)
      exact ⟨s', by rw [e1]; simp [hc], e2⟩
theorem lcF_inv {α : Type} {e : α → D} {own : List Nat} {tg : Tn} {it : Fa} {cd : Fc} {el : Fv} {s0 : S} (s1 : S) {ds : List α} (P : S → Prop) (c : α → Bool) (f : α → D) (hit : it s0 = some (ds.map e, s1)) (h0 : P (wipeS s1 own))
    (h : ∀ d ∈ ds, ∀ w, P w → ∃ s1 s2, bindX tg [e d] w = some s1 ∧ cd s1 = some (c d, s2) ∧ (c d = false → P (wipeS s2 own)) ∧ (c d = true → ∃ s3, hF el s2 = some (f d, s3) ∧ P (wipeS s3 own))) (hl : ds.length ≤ 16000000) :
    ∃ w, P w ∧ lcF own tg it cd el s0 = some (.lst ((ds.filter c).map f), .fr, backS s1 w own) := by
  obtain ⟨s', e1, e2⟩ := lc_inv (wp := fun s => wipeS s own) (bd := fun d s => bindX tg [d] s) (P := P) ds [] s1 h0 h (by simpa using hl)
  have un : lcF own tg it cd el s0 = (it s0).bind fun x => (lcLoop (fun d s => bindX tg [d] s) cd (hF el) (fun s => wipeS s own) x.1 [] x.2).map fun r => (.lst r.1, .fr, backS x.2 r.2 own) := id rfl
  refine ⟨_, e2, ?_⟩
  rw [un, hit, Option.bind_some, e1]
  show some (D.lst _, Tg.fr, backS s1 s' own) = _
  rw [back_w (s := s')]
  simp
theorem dc_inv {α : Type} {e : α → D} {bd : D → S → Option S} {cd : S → Option (Bool × S)} {ky el : S → Option (D × S)} {wp : S → S} {P : S → Prop} {c : α → Bool} {k : α → Key} {f : α → D} : ∀ (ds : List α) (acc : List (Key × D)) (s : S), P (wp s) →
    (∀ d ∈ ds, ∀ w, P w → ∃ s1 s2, bd (e d) w = some s1 ∧ cd s1 = some (c d, s2) ∧ (c d = false → P (wp s2)) ∧ (c d = true → ∃ s3 s4, ky s2 = some (dKey (k d), s3) ∧ el s3 = some (f d, s4) ∧ P (wp s4))) → acc.length + ds.length ≤ 16000000 →
    ∃ s', dcLoop bd cd ky el wp (ds.map e) acc s = some (((ds.filter c).map fun d => (k d, f d)).foldl (fun a k => putD a k.1 k.2) acc, s') ∧ P (wp s')
  | [], acc, s, h, _, _ => ⟨s, by simp [dcLoop], h⟩
  | d :: ds, acc, s, h, h1, hl => by
    have un : dcLoop bd cd ky el wp ((d :: ds).map e) acc s = (bd (e d) (wp s)).bind fun s1 => (cd s1).bind fun c =>
      if c.1 then (ky c.2).bind fun y => (el y.2).bind fun x => (keyD y.1).bind fun k => if acc.length < sizeLine then dcLoop bd cd ky el wp (ds.map e) (putD acc k x.1) x.2 else none
      else dcLoop bd cd ky el wp (ds.map e) acc c.2 := id rfl
    have hz : acc.length < sizeLine := Nat.lt_of_lt_of_le (show acc.length < 16000001 by simp only [List.length_cons] at hl; omega) (by decide)
    have hm := fun {x} (hx : x ∈ ds) => List.mem_cons_of_mem d hx
    obtain ⟨s1, s2, h2, h3, h4, h5⟩ := h1 d List.mem_cons_self _ h
    rw [un, h2, Option.bind_some, h3, Option.bind_some]
    cases hc : c d with
    | true =>
      obtain ⟨s3, s4, h6, h7, h8⟩ := h5 hc
      have hk : keyD (dKey (k d)) = some (k d) := by cases k d <;> rfl
      have hp : (putD acc (k d) (f d)).length ≤ acc.length + 1 := by
        unfold putD
        split
        · rw [List.length_map]; omega
        · simp
      simp only [if_true]
      rw [h6, Option.bind_some, h7, Option.bind_some, hk, Option.bind_some, if_pos hz]
      obtain ⟨s', e1, e2⟩ := dc_inv ds (putD acc (k d) (f d)) s4 h8 (fun x hx => h1 x (hm hx)) (by simp only [List.length_cons] at hl; omega)
      exact ⟨s', by rw [e1]; simp [hc], e2⟩
    | false =>
      simp only [Bool.false_eq_true, if_false]
      obtain ⟨s', e1, e2⟩ := dc_inv ds acc s2 (h4 hc) (fun x hx => h1 x (hm hx)) (by simp only [List.length_cons] at hl; omega)
      exact ⟨s', by rw [e1]; simp [hc], e2⟩
theorem dcF_inv {α : Type} {e : α → D} {own : List Nat} {tg : Tn} {it : Fa} {cd : Fc} {ky el : Fv} {s0 : S} (s1 : S) {ds : List α} (P : S → Prop) (c : α → Bool) (k : α → Key) (f : α → D) (hit : it s0 = some (ds.map e, s1)) (h0 : P (wipeS s1 own))
    (h : ∀ d ∈ ds, ∀ w, P w → ∃ s1 s2, bindX tg [e d] w = some s1 ∧ cd s1 = some (c d, s2) ∧ (c d = false → P (wipeS s2 own)) ∧ (c d = true → ∃ s3 s4, hF ky s2 = some (dKey (k d), s3) ∧ hF el s3 = some (f d, s4) ∧ P (wipeS s4 own))) (hl : ds.length ≤ 16000000) :
    ∃ w, P w ∧ dcF own tg it cd ky el s0 = some (.dct (((ds.filter c).map fun d => (k d, f d)).foldl (fun a k => putD a k.1 k.2) []), .fr, backS s1 w own) := by
  obtain ⟨s', e1, e2⟩ := dc_inv (wp := fun s => wipeS s own) (bd := fun d s => bindX tg [d] s) (P := P) ds [] s1 h0 h (by simpa using hl)
  have un : dcF own tg it cd ky el s0 = (it s0).bind fun x => (dcLoop (fun d s => bindX tg [d] s) cd (hF ky) (hF el) (fun s => wipeS s own) x.1 [] x.2).map fun r => (.dct r.1, .fr, backS x.2 r.2 own) := id rfl
  refine ⟨_, e2, ?_⟩
  rw [un, hit, Option.bind_some, e1]
  show some (D.dct _, Tg.fr, backS s1 s' own) = _
  rw [back_w (s := s')]
end E3
set_option linter.all false
set_option maxRecDepth 100000
set_option maxHeartbeats 2000000
namespace E3
open PySem L2
variable {G : Nat → Option D} {mh : List (List D)}
theorem w_isint {k : Nat} {mh} {i : Int} : evF G pT (k + 1) i_is_integer [.int i] mh = some (.bl true, mh) := by
  rw [r_is_integer]
  simp -implicitDefEqProofs [c_is_integer]
/-! ### amounts and conditions -/
inductive Bn where | plus | less | least | most | is | below | both | either
inductive Tr where
  | num (i : Int) | fact (x : Str) | term (x : Str) | tru | times (i : Int) (a : Tr) | part (a : Tr) (n : Int) | bin (o : Bn) (a b : Tr) | nt (a : Tr)
def wNum : Str := ⟨#[110, 117, 109]⟩
def wFact : Str := ⟨#[102, 97, 99, 116]⟩
def wTerm : Str := ⟨#[116, 101, 114, 109]⟩
def wTrue : Str := ⟨#[116, 114, 117, 101]⟩
def wTimes : Str := ⟨#[116, 105, 109, 101, 115]⟩
def wPart : Str := ⟨#[112, 97, 114, 116]⟩
def wNot : Str := ⟨#[110, 111, 116]⟩
def Bn.w : Bn → Str
  | .plus => ⟨#[112, 108, 117, 115]⟩
  | .less => ⟨#[108, 101, 115, 115]⟩
  | .least => ⟨#[108, 101, 97, 115, 116]⟩
  | .most => ⟨#[109, 111, 115, 116]⟩
  | .is => ⟨#[105, 115]⟩
  | .below => ⟨#[98, 101, 108, 111, 119]⟩
  | .both => ⟨#[98, 111, 116, 104]⟩
  | .either => ⟨#[101, 105, 116, 104, 101, 114]⟩
def Tr.d : Tr → D
  | .num i => .tup [.str wNum, .int i]
  | .fact x => .tup [.str wFact, .str x]
  | .term x => .tup [.str wTerm, .str x]
  | .tru => .tup [.str wTrue]
  | .times i a => .tup [.str wTimes, .int i, a.d]
  | .part a n => .tup [.str wPart, a.d, .int n]
  | .bin o a b => .tup [.str o.w, a.d, b.d]
  | .nt a => .tup [.str wNot, a.d]
structure Fact where
  nm : Str
  lo : Int
  hi : Int
  ws : List Str
def Fact.d (f : Fact) : D := .tup [.str f.nm, .int f.lo, .int f.hi, .tup (f.ws.map .str)]
/-! ### place_of -/
theorem w_place {k : Nat} {fs : List Fact} {x : Str} {j : Nat} (hl : fs.length ≤ 16000000) (h3 : ∀ (m : Nat) f, m < j → fs[m]? = some f → f.nm ≠ x) (h4 : ∃ f, fs[j]? = some f ∧ f.nm = x) :
    evF G pT (k + 1) i_place_of [.tup (fs.map Fact.d), .str x] mh = some (.int (j : Nat), mh) := by
  rw [r_place_of]
  obtain ⟨o, e1, e2⟩ := for_ind (bd := bdN (.nm 2)) (body := cm G (evF G pT k) c_place_of_1) (e := fun j : Nat => D.int j)
    (fun as s => ∃ (i : Nat) (o : Option (D × Bool)), as = List.range' i (fs.length - i) ∧ i ≤ j ∧ s = ⟨[some (.tup (fs.map Fact.d), false), some (.str x, false), o], mh⟩) (fun o => ∃ s', o = .rt (.int j) s' ∧ s'.mh = mh)
    (fun s ⟨i, o, h1, h2, _⟩ => by
      obtain ⟨f, h4, _⟩ := h4
      have := (List.getElem?_eq_some_iff.mp h4).1
      have := congrArg List.length h1
      simp at this
      omega)
    (fun a as s P ⟨i, o, h1, h2, h5⟩ hP => by
      subst h5
      have hi : i < fs.length := by
        have := congrArg List.length h1
        simp at this
        omega
      have hr : List.range' i (fs.length - i) = i :: List.range' (i + 1) (fs.length - (i + 1)) := by
        rw [show fs.length - i = (fs.length - (i + 1)) + 1 by omega, List.range'_succ]
      rw [hr] at h1
      injection h1 with h1 h6
      subst h1
      have hf : fs[a]? = some fs[a] := List.getElem?_eq_getElem hi
      have ha : atI (fs.map Fact.d) (a : Int) = some fs[a].d := by rw [at_map, at_nat hf]; rfl
      have hd : atI [D.str fs[a].nm, .int fs[a].lo, .int fs[a].hi, .tup (fs[a].ws.map .str)] 0 = some (.str fs[a].nm) := at_0
      by_cases hx : fs[a].nm = x
      · have e : a = j := by
          rcases Nat.lt_or_ge a j with q | q
          · exact absurd hx (h3 a _ q hf)
          · omega
        subst e
        simp -implicitDefEqProofs [c_place_of_1, ha, Fact.d, hx]
        exact hP _ ⟨_, rfl, rfl⟩
      · have ne : a ≠ j := fun e => by
          subst e
          obtain ⟨f, q1, q2⟩ := h4
          rw [hf] at q1
          cases q1
          exact hx q2
        simp -implicitDefEqProofs [c_place_of_1, ha, Fact.d, hx]
        exact hP _ ⟨a + 1, _, h6, by omega, rfl⟩)
    (List.range fs.length) ⟨[some (.tup (fs.map Fact.d), false), some (.str x, false), none], mh⟩ ⟨0, none, by rw [List.range_eq_range']; rfl, by omega, rfl⟩
  obtain ⟨s', rfl, e3⟩ := e2
  simp -implicitDefEqProofs [c_place_of, rgO_len (l := fs) (by omega), e1, e3]
/-! ### amounts -/
def Tr.facts : Tr → List Str
  | .fact x => [x]
  | .times _ a => a.facts
  | .part a _ => a.facts
  | .bin _ a b => a.facts ++ b.facts
  | .nt a => a.facts
  | _ => []
def Tr.terms : Tr → List Str
  | .term x => [x]
  | .times _ a => a.terms
  | .part a _ => a.terms
  | .bin _ a b => a.terms ++ b.terms
  | .nt a => a.terms
  | _ => []
def Tr.depth : Tr → Nat
  | .times _ a => a.depth + 1
  | .part a _ => a.depth + 1
  | .bin _ a b => max a.depth b.depth + 1
  | .nt a => a.depth + 1
  | _ => 0
def Bn.am : Bn → Bool
  | .plus | .less | .least | .most => true
  | _ => false
def Tr.isA : Tr → Prop
  | .num _ => True
  | .fact _ => True
  | .term _ => True
  | .times i a => small64 i = true ∧ a.isA
  | .part a n => 0 < n ∧ n < 1073741824 ∧ a.isA
  | .bin o a b => o.am = true ∧ a.isA ∧ b.isA
  | _ => False
def Tr.isC : Tr → Prop
  | .tru => True
  | .nt a => a.isC
  | .bin .is a b => a.isA ∧ b.isA
  | .bin .below a b => a.isA ∧ b.isA
  | .bin .both a b => a.isC ∧ b.isC
  | .bin .either a b => a.isC ∧ b.isC
  | _ => False
def Tr.am (cv kv : Str → Int) : Tr → Int
  | .num i => i
  | .fact x => cv x
  | .term x => kv x
  | .times i a => i * a.am cv kv
  | .part a n => a.am cv kv / n
  | .bin .plus a b => a.am cv kv + b.am cv kv
  | .bin .less a b => a.am cv kv - b.am cv kv
  | .bin .least a b => if b.am cv kv < a.am cv kv then b.am cv kv else a.am cv kv
  | .bin .most a b => if b.am cv kv > a.am cv kv then b.am cv kv else a.am cv kv
  | _ => 0
def Tr.cn (cv kv : Str → Int) : Tr → Bool
  | .tru => true
  | .nt a => !a.cn cv kv
  | .bin .is a b => a.am cv kv == b.am cv kv
  | .bin .below a b => decide (a.am cv kv < b.am cv kv)
  | .bin .both a b => a.cn cv kv && b.cn cv kv
  | .bin .either a b => a.cn cv kv || b.cn cv kv
  | _ => false
/-- the fact x stands, first, at a place, where the case has its value -/
def FOk (fs : List Fact) (cs : List Int) (cv : Str → Int) (x : Str) : Prop := ∃ j, (∀ (m : Nat) (f : Fact), m < j → fs[m]? = some f → f.nm ≠ x) ∧ (∃ f : Fact, fs[j]? = some f ∧ f.nm = x) ∧ cs[j]? = some (cv x)
theorem z_mul {i j : Int} (h : small64 i = true) : bopD .mul (.int i) (.int j) = some (.int (i * j), .st) := by
  show (if small64 i || small64 j then some (D.int (i * j), Tg.st) else none) = _
  rw [h, Bool.true_or, if_pos rfl]
theorem z_fdv {i j : Int} (h : 0 < j) (h' : j < 1073741824) : bopD .fdv (.int i) (.int j) = some (.int (i / j), .st) := by
  show (if decide (0 < j) && decide (j < 1073741824) then some (D.int (i / j), Tg.st) else none) = _
  rw [decide_eq_true h, decide_eq_true h']
  rfl
theorem at_ints {cs : List Int} {j : Nat} {v : Int} (h : cs[j]? = some v) : atI (cs.map D.int) (j : Int) = some (.int v) := by
  rw [at_map, at_nat h]
  rfl
theorem w_amount {fs : List Fact} {cs : List Int} {ks : List (Key × D)} {cv kv : Str → Int} (hl : fs.length ≤ 16000000) : ∀ (t : Tr), t.isA → (∀ x ∈ t.facts, FOk fs cs cv x) → (∀ x ∈ t.terms, getD ks (.inr x) = some (.int (kv x))) → ∀ k,
    evF G pT (k + t.depth + 2) i_amount_in [t.d, .tup (fs.map Fact.d), .tup (cs.map .int), .dct ks] mh = some (.int (t.am cv kv), mh) := by
  intro t
  induction t with
  | num i =>
    intro _ _ _ k
    rw [r_amount_in]
    simp -implicitDefEqProofs [c_amount_in, Tr.d, wNum, Tr.am]
  | fact x =>
    intro _ hf _ k
    obtain ⟨j, h1, h2, h3⟩ := hf x List.mem_cons_self
    have e := fun k => w_place (G := G) (mh := mh) (k := k) hl h1 h2
    rw [r_amount_in]
    simp -implicitDefEqProofs [c_amount_in, Tr.d, wFact, Tr.am, e, at_ints h3]
  | term x =>
    intro _ _ ht k
    have e := ht x List.mem_cons_self
    rw [r_amount_in]
    simp -implicitDefEqProofs [c_amount_in, Tr.d, wTerm, Tr.am, e]
  | tru => intro h; exact h.elim
  | nt a _ => intro h; exact h.elim
  | times i a ih =>
    intro hA hf ht k
    obtain ⟨h1, h2⟩ := hA
    have e := ih h2 hf ht k
    show evF G pT ((k + a.depth + 2) + 1) i_amount_in _ mh = _
    rw [r_amount_in]
    simp -implicitDefEqProofs [c_amount_in, Tr.d, wTimes, Tr.am, e, z_mul h1]
  | part a n ih =>
    intro hA hf ht k
    obtain ⟨h1, h2, h3⟩ := hA
    have e := ih h3 hf ht k
    show evF G pT ((k + a.depth + 2) + 1) i_amount_in _ mh = _
    rw [r_amount_in]
    simp -implicitDefEqProofs [c_amount_in, Tr.d, wPart, Tr.am, e, z_fdv h1 h2]
  | bin o a b iha ihb =>
    intro hA hf ht k
    obtain ⟨h1, h2, h3⟩ := hA
    have hf' : (∀ x ∈ a.facts, FOk fs cs cv x) ∧ ∀ x ∈ b.facts, FOk fs cs cv x := ⟨fun x h => hf x (List.mem_append_left _ h), fun x h => hf x (List.mem_append_right _ h)⟩
    have ht' : (∀ x ∈ a.terms, getD ks (.inr x) = some (.int (kv x))) ∧ ∀ x ∈ b.terms, getD ks (.inr x) = some (.int (kv x)) := ⟨fun x h => ht x (List.mem_append_left _ h), fun x h => ht x (List.mem_append_right _ h)⟩
    have ea := iha h2 hf'.1 ht'.1 (k + (max a.depth b.depth - a.depth))
    have eb := ihb h3 hf'.2 ht'.2 (k + (max a.depth b.depth - b.depth))
    rw [show k + (max a.depth b.depth - a.depth) + a.depth + 2 = k + max a.depth b.depth + 2 by omega] at ea
    rw [show k + (max a.depth b.depth - b.depth) + b.depth + 2 = k + max a.depth b.depth + 2 by omega] at eb
    show evF G pT ((k + max a.depth b.depth + 2) + 1) i_amount_in _ mh = _
    rw [r_amount_in]
    cases o with
    | plus => simp -implicitDefEqProofs [c_amount_in, Tr.d, Bn.w, Tr.am, ea, eb]
    | less => simp -implicitDefEqProofs [c_amount_in, Tr.d, Bn.w, Tr.am, ea, eb]
    | least => simp -implicitDefEqProofs [c_amount_in, Tr.d, Bn.w, Tr.am, ea, eb]
    | most => simp -implicitDefEqProofs [c_amount_in, Tr.d, Bn.w, Tr.am, ea, eb]
    | _ => cases h1
/-! ### conditions -/
theorem w_truth {fs : List Fact} {cs : List Int} {ks : List (Key × D)} {cv kv : Str → Int} (hl : fs.length ≤ 16000000) : ∀ (t : Tr), t.isC → (∀ x ∈ t.facts, FOk fs cs cv x) → (∀ x ∈ t.terms, getD ks (.inr x) = some (.int (kv x))) → ∀ k,
    evF G pT (k + t.depth + 2) i_truth_in [t.d, .tup (fs.map Fact.d), .tup (cs.map .int), .dct ks] mh = some (.bl (t.cn cv kv), mh) := by
  intro t
  induction t with
  | num i => intro h; exact h.elim
  | fact i => intro h; exact h.elim
  | term i => intro h; exact h.elim
  | times i a _ => intro h; exact h.elim
  | part a i _ => intro h; exact h.elim
  | tru =>
    intro _ _ _ k
    rw [r_truth_in]
    simp -implicitDefEqProofs [c_truth_in, Tr.d, wTrue, Tr.cn]
  | nt a ih =>
    intro hA hf ht k
    have e := ih hA hf ht k
    show evF G pT ((k + a.depth + 2) + 1) i_truth_in _ mh = _
    rw [r_truth_in]
    simp -implicitDefEqProofs [c_truth_in, Tr.d, wNot, Tr.cn, e]
  | bin o a b iha ihb =>
    intro hA hf ht k
    have hf' : (∀ x ∈ a.facts, FOk fs cs cv x) ∧ ∀ x ∈ b.facts, FOk fs cs cv x := ⟨fun x h => hf x (List.mem_append_left _ h), fun x h => hf x (List.mem_append_right _ h)⟩
    have ht' : (∀ x ∈ a.terms, getD ks (.inr x) = some (.int (kv x))) ∧ ∀ x ∈ b.terms, getD ks (.inr x) = some (.int (kv x)) := ⟨fun x h => ht x (List.mem_append_left _ h), fun x h => ht x (List.mem_append_right _ h)⟩
    have e1 : k + (max a.depth b.depth - a.depth) + a.depth + 2 = k + max a.depth b.depth + 2 := by omega
    have e2 : k + (max a.depth b.depth - b.depth) + b.depth + 2 = k + max a.depth b.depth + 2 := by omega
    show evF G pT ((k + max a.depth b.depth + 2) + 1) i_truth_in _ mh = _
    rw [r_truth_in]
    cases o with
    | is =>
      have ea := w_amount (G := G) (mh := mh) hl a hA.1 hf'.1 ht'.1 (k + (max a.depth b.depth - a.depth))
      have eb := w_amount (G := G) (mh := mh) hl b hA.2 hf'.2 ht'.2 (k + (max a.depth b.depth - b.depth))
      rw [e1] at ea
      rw [e2] at eb
      simp -implicitDefEqProofs [c_truth_in, Tr.d, Bn.w, Tr.cn, ea, eb]
    | below =>
      have ea := w_amount (G := G) (mh := mh) hl a hA.1 hf'.1 ht'.1 (k + (max a.depth b.depth - a.depth))
      have eb := w_amount (G := G) (mh := mh) hl b hA.2 hf'.2 ht'.2 (k + (max a.depth b.depth - b.depth))
      rw [e1] at ea
      rw [e2] at eb
      simp -implicitDefEqProofs [c_truth_in, Tr.d, Bn.w, Tr.cn, ea, eb]
    | both =>
      have ea := iha hA.1 hf'.1 ht'.1 (k + (max a.depth b.depth - a.depth))
      have eb := ihb hA.2 hf'.2 ht'.2 (k + (max a.depth b.depth - b.depth))
      rw [e1] at ea
      rw [e2] at eb
      cases h : a.cn cv kv <;> rw [h] at ea <;> simp -implicitDefEqProofs [c_truth_in, Tr.d, Bn.w, Tr.cn, ea, eb, h]
    | either =>
      have ea := iha hA.1 hf'.1 ht'.1 (k + (max a.depth b.depth - a.depth))
      have eb := ihb hA.2 hf'.2 ht'.2 (k + (max a.depth b.depth - b.depth))
      rw [e1] at ea
      rw [e2] at eb
      cases h : a.cn cv kv <;> rw [h] at ea <;> simp -implicitDefEqProofs [c_truth_in, Tr.d, Bn.w, Tr.cn, ea, eb, h]
    | _ => exact hA.elim
/-! ### codes -/
structure Cl where
  lab : Str
  cond : Tr
  am : Tr
  over : Option Str
def ovD : Option Str → D
  | none => .non
  | some x => .str x
def Cl.d (c : Cl) : D := .tup [.str c.lab, c.cond.d, c.am.d, ovD c.over]
structure Tm where
  nm : Str
  cls : List Cl
def Tm.d (t : Tm) : D := .tup [.str t.nm, .tup (t.cls.map Cl.d)]
structure Cd where
  fs : List Fact
  ts : List Tm
def Cd.d (c : Cd) : D := .tup [.tup (c.fs.map Fact.d), .tup (c.ts.map Tm.d)]
@[simp] theorem Tm.d0 {t : Tm} : itemD t.d (.int 0) = some (.str t.nm) := by simp [Tm.d]
@[simp] theorem Tm.d1 {t : Tm} : itemD t.d (.int 1) = some (.tup (t.cls.map Cl.d)) := by simp [Tm.d]
@[simp] theorem Cd.d0 {t : Cd} : itemD t.d (.int 0) = some (.tup (t.fs.map Fact.d)) := by simp [Cd.d]
@[simp] theorem Cd.d1 {t : Cd} : itemD t.d (.int 1) = some (.tup (t.ts.map Tm.d)) := by simp [Cd.d]
@[simp] theorem Cl.d0 {t : Cl} : itemD t.d (.int 0) = some (.str t.lab) := by simp [Cl.d]
@[simp] theorem Cl.d1 {t : Cl} : itemD t.d (.int 1) = some t.cond.d := by simp [Cl.d]
@[simp] theorem Cl.d2 {t : Cl} : itemD t.d (.int 2) = some t.am.d := by simp [Cl.d]
@[simp] theorem Cl.d3 {t : Cl} : itemD t.d (.int 3) = some (ovD t.over) := by simp [Cl.d]
theorem filter_t {α : Type} {xs : List α} : xs.filter (fun _ => true) = xs := List.filter_eq_self.mpr (by simp)
theorem w_names {k : Nat} {c : Cd} (hl : c.ts.length ≤ 16000000) : evF G pT (k + 1) i_term_names [c.d] mh = some (.lst (c.ts.map fun t => .str t.nm), mh) := by
  rw [r_term_names]
  have e : (sm G (evF G pT k) e_term_names_1).v ⟨[some (c.d, false), none], mh⟩ = some (.lst ((c.ts.filter fun _ => true).map fun t => .str t.nm), .fr, ⟨[some (c.d, false), none], mh⟩) := by
    rw [e_term_names_1, y_lc]
    exact lcF_gen (e := Tm.d) ⟨[some (c.d, false), none], mh⟩ (fun t => ⟨[some (c.d, false), some (t.d, false)], mh⟩) (fun _ => true) (fun t => .str t.nm) (by simp) (fun _ _ => rfl) (fun _ _ => rfl) (fun _ _ => rfl) (fun _ _ _ => by simp) hl
  rw [filter_t] at e
  simp [c_term_names, e]
theorem w_clauses {k : Nat} {c : Cd} {x : Str} {t : Tm} (h : c.ts.find? (fun t => t.nm == x) = some t) : evF G pT (k + 1) i_clauses_of [c.d, .str x] mh = some (.tup (t.cls.map Cl.d), mh) := by
  rw [r_clauses_of]
  obtain ⟨o, e1, e2⟩ := for_ind (bd := bdN (.nm 2)) (body := cm G (evF G pT k) c_clauses_of_1) (e := Tm.d)
    (fun as s => as.find? (fun t => t.nm == x) = some t ∧ ∃ o : Option (D × Bool), s = ⟨[some (c.d, false), some (.str x, false), o], mh⟩) (fun o => ∃ s', o = .rt (.tup (t.cls.map Cl.d)) s' ∧ s'.mh = mh)
    (fun s ⟨h1, _⟩ => by cases h1)
    (fun a as s P ⟨h1, o, h5⟩ hP => by
      subst h5
      by_cases hx : a.nm = x
      · have e : a = t := by
          rw [List.find?_cons_of_pos (by simpa using hx)] at h1
          exact Option.some.inj h1
        subst e
        simp [c_clauses_of_1, hx]
        exact hP _ ⟨_, rfl, rfl⟩
      · rw [List.find?_cons_of_neg (by simpa using hx)] at h1
        simp [c_clauses_of_1, hx]
        exact hP _ ⟨h1, _, rfl⟩)
    c.ts ⟨[some (c.d, false), some (.str x, false), none], mh⟩ ⟨h, none, rfl⟩
  obtain ⟨s', rfl, e3⟩ := e2
  simp [c_clauses_of, e1, e3]
@[simp] theorem eq_ov {a b : Option Str} : copD .eq (ovD a) (ovD b) = some (a == b) := by
  cases a <;> cases b <;> rfl
theorem w_exc {k : Nat} {cls : List Cl} {l : Option Str} (hl : cls.length ≤ 16000000) : evF G pT (k + 1) i_exceptions_of [.tup (cls.map Cl.d), ovD l] mh = some (.lst ((cls.filter fun c => c.over == l).map Cl.d), mh) := by
  rw [r_exceptions_of]
  have e : (sm G (evF G pT k) e_exceptions_of_1).v ⟨[some (.tup (cls.map Cl.d), false), some (ovD l, false), none], mh⟩ = some (.lst ((cls.filter fun c => c.over == l).map Cl.d), .fr, ⟨[some (.tup (cls.map Cl.d), false), some (ovD l, false), none], mh⟩) := by
    rw [e_exceptions_of_1, y_lc]
    exact lcF_gen (e := Cl.d) ⟨[some (.tup (cls.map Cl.d), false), some (ovD l, false), none], mh⟩ (fun t => ⟨[some (.tup (cls.map Cl.d), false), some (ovD l, false), some (t.d, false)], mh⟩) (fun c => c.over == l) Cl.d (by simp) (fun _ _ => rfl) (fun _ _ => rfl) (fun _ _ => by simp) (fun _ _ _ => by simp) hl
  simp [c_exceptions_of, e]
end E3
set_option linter.all false
set_option maxRecDepth 100000
set_option maxHeartbeats 2000000
namespace E3
open PySem L2
/-! ### what is heard -/
def hD : List Str → D
  | [] => .non
  | [a] => .str a
  | a :: b :: _ => .tup [.str a, .str b]
def excs (cls : List Cl) (l : Option Str) : List Cl := cls.filter fun c => c.over == l
def hrL : List (List Str) → List Str → List Str
  | [], acc => acc.take 2
  | o :: r, acc => if o.length = 2 then o else hrL r (acc ++ o)
/-- what stands below the label l says, n deep -/
def hear (cls : List Cl) (sp : Str → Bool) : Nat → Option Str → List Str
  | 0, _ => []
  | n + 1, l => hrL ((excs cls l).map fun c => if hear cls sp n (some c.lab) = [] then (if sp c.lab then [c.lab] else []) else hear cls sp n (some c.lab)) []
def spk (cls : List Cl) (sp : Str → Bool) (n : Nat) (c : Cl) : List Str := if hear cls sp n (some c.lab) = [] then (if sp c.lab then [c.lab] else []) else hear cls sp n (some c.lab)
/-- no exception more than n below l -/
def Ht (cls : List Cl) : Nat → Option Str → Prop
  | 0, l => excs cls l = []
  | n + 1, l => ∀ c ∈ excs cls l, Ht cls n (some c.lab)
theorem hear_le {cls : List Cl} {sp : Str → Bool} : ∀ (n : Nat) (l : Option Str), (hear cls sp n l).length ≤ 2
  | 0, _ => by simp [hear]
  | n + 1, l => by
    have go : ∀ (xs : List (List Str)) (acc : List Str), (hrL xs acc).length ≤ 2 := by
      intro xs
      induction xs with
      | nil => intro acc; simp [hrL]; omega
      | cons o r ih =>
        intro acc
        unfold hrL
        split
        · omega
        · exact ih _
    exact go _ _
/-! ### ways -/
/-- the clause of a label -/
def clOf (cls : List Cl) (l : Str) : Option Cl := cls.find? fun c => c.lab == l
/-- each clause stands over none or over an earlier one -/
def OvOk (cls : List Cl) : Prop := ∀ (i : Nat) (c : Cl), cls[i]? = some c → ∀ p, c.over = some p → ∃ j c', j < i ∧ cls[j]? = some c' ∧ c'.lab = p
structure OkL (cls : List Cl) : Prop where
  nd : (cls.map (·.lab)).Nodup
  ov : OvOk cls
/-- from a clause over none to l, n steps -/
def up (cls : List Cl) : Nat → Str → List Str
  | 0, l => [l]
  | n + 1, l => match (clOf cls l).bind (·.over) with
    | none => [l]
    | some p => up cls n p ++ [l]
def way (cls : List Cl) (l : Str) : List Str := up cls cls.length l
/-- what stands below a clause -/
def anc (cls : List Cl) (c : Cl) : List Str := match c.over with
  | none => []
  | some p => way cls p
theorem nd_get {cls : List Cl} (nd : (cls.map (·.lab)).Nodup) {i j : Nat} {c d : Cl} (hi : cls[i]? = some c) (hj : cls[j]? = some d) (e : c.lab = d.lab) : i = j := by
  have h1 : (cls.map (·.lab))[i]? = some c.lab := by rw [List.getElem?_map, hi]; rfl
  have h2 : (cls.map (·.lab))[j]? = some c.lab := by rw [List.getElem?_map, hj, e]; rfl
  have li : i < (cls.map (·.lab)).length := (List.getElem?_eq_some_iff.mp h1).1
  exact (List.getElem?_inj li nd).mp (h1.trans h2.symm)
theorem nd_eq {cls : List Cl} (nd : (cls.map (·.lab)).Nodup) {c d : Cl} (hc : c ∈ cls) (hd : d ∈ cls) (e : c.lab = d.lab) : c = d := by
  obtain ⟨i, hi⟩ := List.mem_iff_getElem?.mp hc
  obtain ⟨j, hj⟩ := List.mem_iff_getElem?.mp hd
  have := nd_get nd hi hj e
  subst this
  rw [hi] at hj
  exact Option.some.inj hj
theorem clOf_mem {cls : List Cl} (nd : (cls.map (·.lab)).Nodup) {c : Cl} (hc : c ∈ cls) : clOf cls c.lab = some c := by
  unfold clOf
  cases h : cls.find? fun d => d.lab == c.lab with
  | none =>
    have := List.find?_eq_none.mp h c hc
    simp at this
  | some d =>
    have h1 := List.find?_some h
    have h2 := List.mem_of_find?_eq_some h
    have : d.lab = c.lab := by simpa using h1
    rw [nd_eq nd h2 hc this]
theorem clOf_lab {cls : List Cl} {l : Str} {c : Cl} (h : clOf cls l = some c) : c ∈ cls ∧ c.lab = l := by
  have h1 := List.find?_some h
  exact ⟨List.mem_of_find?_eq_some h, by simpa using h1⟩
section
variable {cls : List Cl} (O : OkL cls)
include O
theorem up_at : ∀ (i : Nat) (c : Cl), cls[i]? = some c → ∀ n m, i ≤ n → i ≤ m → up cls n c.lab = up cls m c.lab := by
  intro i
  induction i using Nat.strongRecOn with
  | _ i ih =>
    intro c hc n m hn hm
    have hf : clOf cls c.lab = some c := clOf_mem O.nd (List.mem_of_getElem? hc)
    cases ho : c.over with
    | none =>
      have z : ∀ n, up cls n c.lab = [c.lab] := fun n => by
        cases n with
        | zero => rfl
        | succ n => simp [up, hf, ho]
      rw [z, z]
    | some p =>
      obtain ⟨j, d, hj, hd, e⟩ := O.ov i c hc p ho
      cases n with
      | zero => omega
      | succ n =>
        cases m with
        | zero => omega
        | succ m =>
          have := ih j hj d hd n m (by omega) (by omega)
          rw [e] at this
          simp [up, hf, ho, this]
theorem way_eq {c : Cl} (hc : c ∈ cls) : way cls c.lab = anc cls c ++ [c.lab] := by
  obtain ⟨i, hi⟩ := List.mem_iff_getElem?.mp hc
  have li : i < cls.length := (List.getElem?_eq_some_iff.mp hi).1
  have hf : clOf cls c.lab = some c := clOf_mem O.nd hc
  unfold way anc
  cases hn : cls.length with
  | zero => omega
  | succ n =>
    cases ho : c.over with
    | none => simp [up, hf, ho]
    | some p =>
      obtain ⟨j, d, hj, hd, e⟩ := O.ov i c hi p ho
      have := up_at O j d hd n cls.length (by omega) (by omega)
      rw [e] at this
      simp [up, hf, ho, way, this]
theorem over_mem {c : Cl} (hc : c ∈ cls) {p : Str} (ho : c.over = some p) : ∃ d ∈ cls, d.lab = p := by
  obtain ⟨i, hi⟩ := List.mem_iff_getElem?.mp hc
  obtain ⟨j, d, _, hd, e⟩ := O.ov i c hi p ho
  exact ⟨d, List.mem_of_getElem? hd, e⟩
/-- a way up: an induction along the clauses -/
theorem cl_ind {P : Cl → Prop} (h : ∀ c ∈ cls, (∀ d ∈ cls, c.over = some d.lab → P d) → P c) : ∀ c ∈ cls, P c := by
  have go : ∀ (i : Nat) (c : Cl), cls[i]? = some c → P c := by
    intro i
    induction i using Nat.strongRecOn with
    | _ i ih =>
      intro c hc
      refine h c (List.mem_of_getElem? hc) fun d hd ho => ?_
      obtain ⟨j, d', hj, hd', e⟩ := O.ov i c hc _ ho
      have := nd_eq O.nd (List.mem_of_getElem? hd') hd e
      subst this
      exact ih j hj d' hd'
  intro c hc
  obtain ⟨i, hi⟩ := List.mem_iff_getElem?.mp hc
  exact go i c hi
theorem anc_some {c d : Cl} (h : c.over = some d.lab) (hd : d ∈ cls) : anc cls c = way cls d.lab := by
  unfold anc
  rw [h]
theorem way_last {c : Cl} (hc : c ∈ cls) : c.lab ∈ way cls c.lab := by
  rw [way_eq O hc]
  simp
/-- on a way stand labels; from each of them on down the way is its own -/
theorem way_pre : ∀ c ∈ cls, ∀ x ∈ way cls c.lab, ∃ d ∈ cls, d.lab = x ∧ ∃ t, way cls c.lab = way cls x ++ t := by
  refine cl_ind O fun c hc ih x hx => ?_
  rw [way_eq O hc] at hx
  rcases List.mem_append.mp hx with hx | hx
  · cases ho : c.over with
    | none => simp [anc, ho] at hx
    | some p =>
      obtain ⟨d, hd, e⟩ := over_mem O hc ho
      subst e
      have ha := anc_some O ho hd
      rw [ha] at hx
      obtain ⟨d', hd', e', t, ht⟩ := ih d hd ho x hx
      refine ⟨d', hd', e', t ++ [c.lab], ?_⟩
      rw [way_eq O hc, ha, ht, List.append_assoc]
  · have : x = c.lab := by simpa using hx
    subst this
    exact ⟨c, hc, rfl, [], by simp⟩
theorem way_trans {c : Cl} (hc : c ∈ cls) {x y : Str} (h1 : x ∈ way cls y) (h2 : y ∈ way cls c.lab) : x ∈ way cls c.lab := by
  obtain ⟨d, _, e, t, ht⟩ := way_pre O c hc y h2
  rw [ht]
  exact List.mem_append_left _ h1
theorem way_ne {c : Cl} (hc : c ∈ cls) : way cls c.lab ≠ [] := by
  rw [way_eq O hc]; simp
theorem way_inj {c d : Cl} (hc : c ∈ cls) (hd : d ∈ cls) (h : way cls c.lab = way cls d.lab) : c = d := by
  rw [way_eq O hc, way_eq O hd] at h
  have := (List.append_inj' h rfl).2
  exact nd_eq O.nd hc hd (by simpa using this)
/-- two labels on one way, as deep: the same -/
theorem way_same {c x y : Cl} (hc : c ∈ cls) (hx : x ∈ cls) (hy : y ∈ cls) (h1 : x.lab ∈ way cls c.lab) (h2 : y.lab ∈ way cls c.lab) (e : (way cls x.lab).length = (way cls y.lab).length) : x = y := by
  obtain ⟨_, _, _, t, ht⟩ := way_pre O c hc _ h1
  obtain ⟨_, _, _, u, hu⟩ := way_pre O c hc _ h2
  rw [ht] at hu
  exact way_inj O hx hy (List.append_inj hu e).1
theorem way_anti {c d : Cl} (hc : c ∈ cls) (hd : d ∈ cls) (h1 : c.lab ∈ way cls d.lab) (h2 : d.lab ∈ way cls c.lab) : c = d := by
  obtain ⟨_, _, _, t, ht⟩ := way_pre O d hd _ h1
  obtain ⟨_, _, _, u, hu⟩ := way_pre O c hc _ h2
  have l1 := congrArg List.length ht
  have l2 := congrArg List.length hu
  rw [List.length_append] at l1 l2
  have : t = [] := List.length_eq_zero_iff.mp (by omega)
  rw [this, List.append_nil] at ht
  exact (way_inj O hd hc ht).symm
theorem anc_sub {c : Cl} (hc : c ∈ cls) {x : Str} (h : x ∈ anc cls c) : x ∈ way cls c.lab := by
  rw [way_eq O hc]; exact List.mem_append_left _ h
theorem anc_irr {c : Cl} (hc : c ∈ cls) : c.lab ∉ anc cls c := by
  intro h
  cases ho : c.over with
  | none => simp [anc, ho] at h
  | some p =>
    obtain ⟨d, hd, e⟩ := over_mem O hc ho
    subst e
    rw [anc_some O ho hd] at h
    have h2 : d.lab ∈ way cls c.lab := anc_sub O hc (by rw [anc_some O ho hd]; exact way_last O hd)
    have := way_anti O hc hd h h2
    subst this
    have l := congrArg List.length (way_eq O hc)
    rw [anc_some O ho hd, List.length_append] at l
    simp at l
/-- the next one on the way from x to c -/
theorem next {c : Cl} : c ∈ cls → ∀ x, x ∈ anc cls c → ∃ d ∈ cls, d.over = some x ∧ d.lab ∈ way cls c.lab := by
  intro hc
  refine cl_ind (P := fun c => ∀ x, x ∈ anc cls c → ∃ d ∈ cls, d.over = some x ∧ d.lab ∈ way cls c.lab) O ?_ c hc
  intro c hc ih x hx
  cases ho : c.over with
  | none => simp [anc, ho] at hx
  | some p =>
    obtain ⟨d, hd, e⟩ := over_mem O hc ho
    subst e
    rw [anc_some O ho hd, way_eq O hd] at hx
    rcases List.mem_append.mp hx with hx | hx
    · obtain ⟨d', h1, h2, h3⟩ := ih d hd ho x hx
      refine ⟨d', h1, h2, anc_sub O hc ?_⟩
      rw [anc_some O ho hd]; exact h3
    · have : x = d.lab := by simpa using hx
      subst this
      exact ⟨c, hc, ho, way_last O hc⟩
theorem first {c : Cl} : c ∈ cls → ∃ d ∈ cls, d.over = none ∧ d.lab ∈ way cls c.lab := by
  intro hc
  refine cl_ind (P := fun c => ∃ d ∈ cls, d.over = none ∧ d.lab ∈ way cls c.lab) O ?_ c hc
  intro c hc ih
  cases ho : c.over with
  | none => exact ⟨c, hc, ho, way_last O hc⟩
  | some p =>
    obtain ⟨d, hd, e⟩ := over_mem O hc ho
    subst e
    obtain ⟨d', h1, h2, h3⟩ := ih d hd ho
    refine ⟨d', h1, h2, anc_sub O hc ?_⟩
    rw [anc_some O ho hd]; exact h3
/-- two on one way, over the same -/
theorem sib {c x y : Cl} (hc : c ∈ cls) (hx : x ∈ cls) (hy : y ∈ cls) (h1 : x.lab ∈ way cls c.lab) (h2 : y.lab ∈ way cls c.lab) (e : x.over = y.over) : x = y := by
  refine way_same O hc hx hy h1 h2 ?_
  rw [way_eq O hx, way_eq O hy]
  unfold anc
  rw [e, List.length_append, List.length_append]
  rfl
end
/-- c stands over l, step by step -/
def Und (cls : List Cl) (l : Option Str) (c : Cl) : Prop := match l with
  | none => True
  | some x => x ∈ anc cls c
section
variable {cls : List Cl} (O : OkL cls)
include O
theorem und_of {l : Option Str} {c x : Cl} (hc : c ∈ cls) (hx : x ∈ excs cls l) (h : x.lab ∈ way cls c.lab) : Und cls l c := by
  have hxc : x ∈ cls := (List.mem_filter.mp hx).1
  have e : x.over = l := by simpa using (List.mem_filter.mp hx).2
  subst e
  cases ho : x.over with
  | none => trivial
  | some p =>
    show p ∈ anc cls c
    obtain ⟨d, hd, e⟩ := over_mem O hxc ho
    subst e
    have h3 : d.lab ∈ way cls x.lab := anc_sub O hxc (by rw [anc_some O ho hd]; exact way_last O hd)
    have h4 := way_trans O hc h3 h
    rw [way_eq O hc] at h4
    rcases List.mem_append.mp h4 with h4 | h4
    · exact h4
    · have e : d.lab = c.lab := by simpa using h4
      have := nd_eq O.nd hd hc e
      subst this
      have := way_anti O hxc hd h h3
      subst this
      exact absurd (by rw [anc_some O ho hd]; exact way_last O hd) (anc_irr O hd)
theorem und_child {l : Option Str} {c : Cl} (hc : c ∈ cls) (h : Und cls l c) : ∃ x ∈ excs cls l, x.lab ∈ way cls c.lab := by
  cases l with
  | none =>
    obtain ⟨d, h1, h2, h3⟩ := first O hc
    exact ⟨d, List.mem_filter.mpr ⟨h1, by simp [h2]⟩, h3⟩
  | some x =>
    obtain ⟨d, h1, h2, h3⟩ := next O hc x h
    exact ⟨d, List.mem_filter.mpr ⟨h1, by simp [h2]⟩, h3⟩
theorem way_or {c x : Cl} (hc : c ∈ cls) (hx : x ∈ cls) (h : x.lab ∈ way cls c.lab) : c = x ∨ Und cls (some x.lab) c := by
  rw [way_eq O hc] at h
  rcases List.mem_append.mp h with h | h
  · exact .inr h
  · exact .inl (nd_eq O.nd hc hx (by simpa using (List.mem_singleton.mp h).symm))
end
theorem hrL_0 : ∀ {xs : List (List Str)} {acc : List Str}, hrL xs acc = [] → acc = [] ∧ ∀ x ∈ xs, x = []
  | [], acc, h => by
    have : acc = [] := by
      cases acc with
      | nil => rfl
      | cons a r => simp [hrL] at h
    exact ⟨this, fun x hx => by cases hx⟩
  | o :: r, acc, h => by
    unfold hrL at h
    split at h
    · rename_i hl
      rw [h] at hl
      simp at hl
    · obtain ⟨h1, h2⟩ := hrL_0 h
      obtain ⟨h3, h4⟩ := List.append_eq_nil_iff.mp h1
      refine ⟨h3, fun x hx => ?_⟩
      rcases List.mem_cons.mp hx with e | hx
      · rw [e, h4]
      · exact h2 x hx
/-- exactly one answer -/
theorem hrL_1 {α : Type} {f : α → List Str} {L : Str} : ∀ {xs : List α} {acc : List Str}, hrL (xs.map f) acc = [L] → (acc = [L] ∧ ∀ x ∈ xs, f x = []) ∨ (acc = [] ∧ ∃ (i : Nat) (x : α), xs[i]? = some x ∧ f x = [L] ∧ ∀ (j : Nat) (y : α), xs[j]? = some y → j ≠ i → f y = [])
  | [], acc, h => by
    left
    refine ⟨?_, fun x hx => by cases hx⟩
    match acc, h with
    | [a], h => simpa [hrL] using h
    | a :: b :: r, h => simp [hrL] at h
  | o :: r, acc, h => by
    rw [List.map_cons] at h
    unfold hrL at h
    split at h
    · rename_i hl
      rw [h] at hl
      simp at hl
    · rcases hrL_1 h with ⟨h1, h2⟩ | ⟨h1, i, x, h2, h3, h4⟩
      · rcases List.append_eq_singleton_iff.mp h1 with ⟨e1, e2⟩ | ⟨e1, e2⟩
        · right
          refine ⟨e1, 0, o, rfl, e2, fun j y hy hj => ?_⟩
          cases j with
          | zero => exact absurd rfl hj
          | succ j => exact h2 y (List.mem_of_getElem? (by simpa using hy))
        · left
          refine ⟨e1, fun x hx => ?_⟩
          rcases List.mem_cons.mp hx with e | hx
          · rw [e, e2]
          · exact h2 x hx
      · obtain ⟨e1, e2⟩ := List.append_eq_nil_iff.mp h1
        right
        refine ⟨e1, i + 1, x, by simpa using h2, h3, fun j y hy hj => ?_⟩
        cases j with
        | zero =>
          have : o = y := by simpa using hy
          rw [← this, e2]
        | succ j => exact h4 j y (by simpa using hy) (by omega)
section
variable {cls : List Cl} {sp : Str → Bool} (O : OkL cls)
include O
theorem hear_none : ∀ (n : Nat) (l : Option Str), Ht cls n l → hear cls sp (n + 1) l = [] → ∀ c ∈ cls, Und cls l c → sp c.lab = false := by
  intro n
  induction n with
  | zero =>
    intro l h _ c hc hu
    obtain ⟨x, hx, _⟩ := und_child O hc hu
    rw [show excs cls l = [] from h] at hx
    cases hx
  | succ n ih =>
    intro l h h0 c hc hu
    obtain ⟨x, hx, hw⟩ := und_child O hc hu
    have hxc : x ∈ cls := (List.mem_filter.mp hx).1
    have h1 := (hrL_0 h0).2 _ (List.mem_map.mpr ⟨x, hx, rfl⟩)
    have h2 : hear cls sp (n + 1) (some x.lab) = [] ∧ sp x.lab = false := by
      split at h1
      · rename_i h2
        refine ⟨h2, ?_⟩
        cases hs : sp x.lab with
        | false => rfl
        | true => rw [hs] at h1; simp at h1
      · rename_i h2
        exact absurd h1 h2
    rcases way_or O hc hxc hw with e | hu'
    · rw [e]; exact h2.2
    · exact ih (some x.lab) (h x hx) h2.1 c hc hu'
theorem hear_one : ∀ (n : Nat) (l : Option Str) (L : Str), Ht cls n l → hear cls sp (n + 1) l = [L] → ∃ d ∈ cls, d.lab = L ∧ Und cls l d ∧ sp L = true ∧ ∀ c ∈ cls, Und cls l c → sp c.lab = true → c.lab ∈ way cls L := by
  intro n
  induction n with
  | zero =>
    intro l L h h1
    have : hear cls sp 1 l = [] := by
      show hrL ((excs cls l).map _) [] = []
      rw [show excs cls l = [] from h]
      rfl
    rw [this] at h1
    cases h1
  | succ n ih =>
    intro l L h h1
    rcases hrL_1 h1 with ⟨h2, _⟩ | ⟨_, i, x, h2, h3, h4⟩
    · cases h2
    · have hx := List.mem_of_getElem? h2
      have hxc : x ∈ cls := (List.mem_filter.mp hx).1
      have oth : ∀ c ∈ cls, Und cls l c → sp c.lab = true → x.lab ∈ way cls c.lab := fun c hc hu hs => by
        obtain ⟨y, hy, hw⟩ := und_child O hc hu
        obtain ⟨j, hj⟩ := List.mem_iff_getElem?.mp hy
        by_cases e : j = i
        · rw [e, h2] at hj
          cases hj
          exact hw
        · have hyc : y ∈ cls := (List.mem_filter.mp hy).1
          have q := h4 j y hj e
          have q2 : hear cls sp (n + 1) (some y.lab) = [] ∧ sp y.lab = false := by
            split at q
            · rename_i q2
              refine ⟨q2, ?_⟩
              cases hs : sp y.lab with
              | false => rfl
              | true => rw [hs] at q; simp at q
            · rename_i q2
              exact absurd q q2
          rcases way_or O hc hyc hw with e | hu'
          · rw [e, q2.2] at hs; cases hs
          · rw [hear_none O n (some y.lab) (h y hy) q2.1 c hc hu'] at hs
            cases hs
      split at h3
      · rename_i h5
        split at h3
        · rename_i h6
          have e : x.lab = L := by simpa using h3
          subst e
          refine ⟨x, hxc, rfl, und_of O hxc hx (way_last O hxc), h6, fun c hc hu hs => ?_⟩
          rcases way_or O hc hxc (oth c hc hu hs) with e | hu'
          · rw [e]; exact way_last O hxc
          · rw [hear_none O n (some x.lab) (h x hx) h5 c hc hu'] at hs
            cases hs
        · cases h3
      · obtain ⟨d, hd, e, hu, hs, hall⟩ := ih (some x.lab) L (h x hx) h3
        subst e
        have hxd : x.lab ∈ way cls d.lab := anc_sub O hd hu
        refine ⟨d, hd, rfl, und_of O hd hx hxd, hs, fun c hc hu hs => ?_⟩
        rcases way_or O hc hxc (oth c hc hu hs) with e | hu'
        · rw [e]; exact hxd
        · exact hall c hc hu' hs
theorem ht_ok : ∀ (n : Nat) (l : Option Str), (∀ i c, cls[i]? = some c → c.over = l → cls.length ≤ i + n) → Ht cls n l := by
  intro n
  induction n with
  | zero =>
    intro l h
    show excs cls l = []
    refine List.eq_nil_iff_forall_not_mem.mpr fun c hc => ?_
    obtain ⟨h1, h2⟩ := List.mem_filter.mp hc
    obtain ⟨i, hi⟩ := List.mem_iff_getElem?.mp h1
    have := h i c hi (by simpa using h2)
    have := (List.getElem?_eq_some_iff.mp hi).1
    omega
  | succ n ih =>
    intro l h c hc
    obtain ⟨h1, h2⟩ := List.mem_filter.mp hc
    obtain ⟨i, hi⟩ := List.mem_iff_getElem?.mp h1
    have h3 := h i c hi (by simpa using h2)
    refine ih (some c.lab) fun j d hj ho => ?_
    obtain ⟨i', c', hi', hc', e⟩ := O.ov j d hj _ ho
    have := nd_get O.nd hc' hi e
    omega
theorem ht_all : Ht cls cls.length none := ht_ok O _ none fun i c hi _ => by omega
end
/-- l counts: it speaks, and all that is not on its way is silent -/
def Cnt (cls : List Cl) (sp : Str → Bool) (l : Str) : Prop := (∃ d ∈ cls, d.lab = l) ∧ sp l = true ∧ ∀ c ∈ cls, c.lab ∉ way cls l → sp c.lab = false
theorem cnt_of {cls : List Cl} (O : OkL cls) {sp : Str → Bool} {L : Str} (h : hear cls sp (cls.length + 1) none = [L]) : Cnt cls sp L := by
  obtain ⟨d, hd, e, _, hs, ha⟩ := hear_one O cls.length none L (ht_all O) h
  refine ⟨⟨d, hd, e⟩, hs, fun c hc hn => ?_⟩
  cases h : sp c.lab with
  | false => rfl
  | true => exact absurd (ha c hc trivial h) hn
theorem cnt_one {cls : List Cl} (O : OkL cls) {sp : Str → Bool} {l m : Str} (h1 : Cnt cls sp l) (h2 : Cnt cls sp m) : l = m := by
  obtain ⟨⟨c, hc, e⟩, s1, a1⟩ := h1
  obtain ⟨⟨d, hd, e'⟩, s2, a2⟩ := h2
  subst e e'
  have q1 : d.lab ∈ way cls c.lab := Decidable.byContradiction fun h => by rw [a1 d hd h] at s2; cases s2
  have q2 : c.lab ∈ way cls d.lab := Decidable.byContradiction fun h => by rw [a2 c hc h] at s1; cases s1
  rw [way_anti O hc hd q2 q1]
/-- the labels of what stands over l -/
def ovAll (cls : List Cl) (l : Str) : List Str := (cls.filter fun c => decide (l ∈ anc cls c)).map (·.lab)
/-- what is silent when the last one of a way counts: all that is not on it -/
theorem silent_iff {cls : List Cl} (O : OkL cls) {d : Cl} (hd : d ∈ cls) {c : Cl} (hc : c ∈ cls) :
    (d.lab ∈ anc cls c ∨ ∃ x ∈ cls, x.lab ∈ way cls d.lab ∧ ∃ y ∈ cls, y.over = x.over ∧ y.lab ≠ x.lab ∧ y.lab ∈ way cls c.lab) ↔ c.lab ∉ way cls d.lab := by
  constructor
  · rintro (h | ⟨x, hx, h1, y, hy, h2, h3, h4⟩) hw
    · have h5 := anc_sub O hc h
      have := way_anti O hc hd hw h5
      subst this
      exact anc_irr O hc h
    · have h5 := way_trans O hd h4 hw
      exact h3 (congrArg Cl.lab (sib O hd hy hx h5 h1 h2))
  · refine cl_ind (P := fun c => c.lab ∉ way cls d.lab → (d.lab ∈ anc cls c ∨ ∃ x ∈ cls, x.lab ∈ way cls d.lab ∧ ∃ y ∈ cls, y.over = x.over ∧ y.lab ≠ x.lab ∧ y.lab ∈ way cls c.lab)) O ?_ c hc
    intro c hc ih hn
    cases ho : c.over with
    | none =>
      obtain ⟨x, h1, h2, h3⟩ := first O hd
      right
      refine ⟨x, h1, h3, c, hc, by rw [ho, h2], fun e => hn ?_, way_last O hc⟩
      rw [e]; exact h3
    | some p =>
      obtain ⟨e, he, q⟩ := over_mem O hc ho
      subst q
      have an := anc_some O ho he
      by_cases hw : e.lab ∈ way cls d.lab
      · rcases way_or O hd he hw with q | q
        · left
          rw [an, q]
          exact way_last O he
        · obtain ⟨x, h1, h2, h3⟩ := next O hd e.lab q
          right
          refine ⟨x, h1, h3, c, hc, by rw [ho, h2], fun q => hn ?_, way_last O hc⟩
          rw [q]; exact h3
      · rcases ih e he ho hw with h | ⟨x, hx, h1, y, hy, h2, h3, h4⟩
        · left
          rw [an]
          exact anc_sub O he h
        · right
          refine ⟨x, hx, h1, y, hy, h2, h3, anc_sub O hc ?_⟩
          rw [an]; exact h4
variable {G : Nat → Option D} {mh : List (List D)}
/-! ### heard, spoken, decided: walked -/
theorem w_spoken {k n : Nat} {cls : List Cl} {ks : List (Key × D)} {sp : Str → Bool} {c : Cl} (hs : getD ks (.inr c.lab) = some (.bl (sp c.lab)))
    (ih : evF G pT k i_heard [.tup (cls.map Cl.d), .str c.lab, .dct ks] mh = some (hD (hear cls sp n (some c.lab)), mh)) :
    evF G pT (k + 1) i_spoken [.tup (cls.map Cl.d), c.d, .dct ks] mh = some (hD (spk cls sp n c), mh) := by
  rw [r_spoken]
  unfold spk
  have hl := hear_le (cls := cls) (sp := sp) n (some c.lab)
  generalize hear cls sp n (some c.lab) = h at ih hl
  match h, ih, hl with
  | [], ih, _ => cases hp : sp c.lab <;> rw [hp] at hs <;> simp [c_spoken, ih, hD, hs]
  | [a], ih, _ => simp [c_spoken, ih, hD, hs]
  | [a, b], ih, _ => simp [c_spoken, ih, hD, hs]
theorem excs_len {cls : List Cl} {l : Option Str} : (excs cls l).length ≤ cls.length := List.length_filter_le _ _
theorem w_heard {cls : List Cl} {ks : List (Key × D)} {sp : Str → Bool} (hl : cls.length ≤ 16000000) (hs : ∀ c ∈ cls, getD ks (.inr c.lab) = some (.bl (sp c.lab))) : ∀ (n : Nat) (l : Option Str), Ht cls n l → ∀ k,
    evF G pT (k + 2 * n + 2) i_heard [.tup (cls.map Cl.d), ovD l, .dct ks] mh = some (hD (hear cls sp (n + 1) l), mh) := by
  have step : ∀ (k n : Nat) (l : Option Str), (∀ c ∈ excs cls l, evF G pT (k + 1) i_spoken [.tup (cls.map Cl.d), c.d, .dct ks] mh = some (hD (spk cls sp n c), mh) ∧ (spk cls sp n c).length ≤ 2) →
      evF G pT (k + 2) i_heard [.tup (cls.map Cl.d), ovD l, .dct ks] mh = some (hD (hear cls sp (n + 1) l), mh) := by
    intro k n l h
    have hz : ((excs cls l).length) ≤ 16000000 := Nat.le_trans excs_len hl
    have ex := w_exc (G := G) (mh := mh) (k := k) (cls := cls) (l := l) hl
    rw [r_heard]
    obtain ⟨o, e1, e2⟩ := for_ind (bd := bdN (.nm 4)) (body := cm G (evF G pT (k + 1)) c_heard_1) (e := Cl.d)
      (fun as s => ∃ (acc : List Str) (o1 o2 : Option (D × Bool)), (∀ c ∈ as, c ∈ excs cls l) ∧ acc.length + as.length ≤ 16000000 ∧ s = ⟨[some (.tup (cls.map Cl.d), false), some (ovD l, false), some (.dct ks, false), some (.lst (acc.map .str), true), o1, o2], mh⟩ ∧ hear cls sp (n + 1) l = hrL (as.map (spk cls sp n)) acc)
      (fun o => (∃ s', o = .rt (hD (hear cls sp (n + 1) l)) s' ∧ s'.mh = mh) ∨ ∃ (acc : List Str) (o1 o2 : Option (D × Bool)), o = .nx ⟨[some (.tup (cls.map Cl.d), false), some (ovD l, false), some (.dct ks, false), some (.lst (acc.map .str), true), o1, o2], mh⟩ ∧ hear cls sp (n + 1) l = acc.take 2)
      (fun s ⟨acc, o1, o2, _, _, h3, h4⟩ => .inr ⟨acc, o1, o2, by rw [h3], h4⟩)
      (fun a as s P ⟨acc, o1, o2, hm, hn, h3, h4⟩ hP => by
        subst h3
        obtain ⟨hc, h2⟩ := h a (hm a List.mem_cons_self)
        have hz : rmO acc.length = some () := rmO_of (by simp only [List.length_cons] at hn; omega)
        rw [List.map_cons] at h4
        generalize spk cls sp n a = x at hc h2 h4
        match x, hc, h2, h4 with
        | [], hc, _, h4 =>
          simp [c_heard_1, hc, hD]
          exact hP _ ⟨acc, _, _, fun c hc => hm c (List.mem_cons_of_mem _ hc), by simp only [List.length_cons] at hn; omega, rfl, by simpa [hrL] using h4⟩
        | [x], hc, _, h4 =>
          simp [c_heard_1, hc, hD, hz]
          exact hP _ ⟨acc ++ [x], _, _, fun c hc => hm c (List.mem_cons_of_mem _ hc), by simp only [List.length_cons, List.length_append, List.length_nil] at hn ⊢; omega, by rw [List.map_append]; rfl, by simpa [hrL] using h4⟩
        | [x, y], hc, _, h4 =>
          simp [c_heard_1, hc, hD]
          exact hP _ (.inl ⟨_, by rw [h4]; rfl, rfl⟩))
      (excs cls l) ⟨[some (.tup (cls.map Cl.d), false), some (ovD l, false), some (.dct ks, false), some (.lst (([] : List Str).map .str), true), none, none], mh⟩ ⟨[], none, none, fun _ h => h, by simpa using hz, rfl, rfl⟩
    rw [show excs cls l = cls.filter fun c => c.over == l from rfl] at e1
    simp [c_heard, ex]
    rw [List.map_nil] at e1
    rw [e1]
    rcases e2 with ⟨s', rfl, e3⟩ | ⟨acc, o1, o2, rfl, e3⟩
    · simp [e3]
    · rw [e3]
      match acc with
      | [] => simp [hD]
      | [a] => simp [hD]
      | a :: b :: r =>
        have n0 : ((r.length : Int) + 1 + 1 == 0) = false := by simp; omega
        have n1 : ((r.length : Int) + 1 + 1 == 1) = false := by simp; omega
        simp [hD, n0, n1]
  intro n
  induction n with
  | zero =>
    intro l h k
    refine step k 0 l fun c hc => ?_
    rw [show excs cls l = [] from h] at hc
    cases hc
  | succ n ih =>
    intro l h k
    have : k + 2 * (n + 1) + 2 = (k + 2 * n + 2) + 2 := by omega
    rw [this]
    refine step _ (n + 1) l fun c hc => ⟨?_, ?_⟩
    · have hm : c ∈ cls := (List.mem_filter.mp hc).1
      exact w_spoken (hs c hm) (ih (some c.lab) (h c hc) k)
    · unfold spk
      split
      · split <;> simp
      · exact hear_le _ _
theorem w_decided {cls : List Cl} {ks : List (Key × D)} {sp : Str → Bool} (hl : cls.length ≤ 16000000) (hs : ∀ c ∈ cls, getD ks (.inr c.lab) = some (.bl (sp c.lab))) (n : Nat) (h : Ht cls n none) (k : Nat) :
    evF G pT (k + 2 * n + 3) i_decided [.tup (cls.map Cl.d), .dct ks] mh = some (hD (hear cls sp (n + 1) none), mh) := by
  have e : evF G pT (k + 2 * n + 2) i_heard [.tup (cls.map Cl.d), .non, .dct ks] mh = _ := w_heard (G := G) (mh := mh) hl hs n none h k
  show evF G pT ((k + 2 * n + 2) + 1) i_decided _ mh = _
  rw [r_decided]
  simp [c_decided, e]
end E3
set_option linter.all false
set_option maxRecDepth 100000
set_option maxHeartbeats 2000000
namespace E3
open PySem L2
variable {G : Nat → Option D} {mh : List (List D)}
/-! ### slices -/
theorem cut_from {α : Type} {xs : List α} {n : Nat} (h : n ≤ xs.length) : cutD xs (some (n : Int)) none = xs.drop n := by
  unfold cutD
  rw [HT.sIx_nat, HT.sIx_none, Nat.min_eq_left h, List.take_of_length_le (by simp)]
theorem cut_to {α : Type} {xs : List α} {n : Nat} : cutD xs none (some (n : Int)) = xs.take n := by
  unfold cutD
  rw [HT.sIx_nat, HT.sIx_none]
  simp only [List.drop_zero, Nat.sub_zero]
  by_cases h : n ≤ xs.length
  · rw [Nat.min_eq_left h]
  · rw [Nat.min_eq_right (by omega), List.take_of_length_le (by omega), List.take_of_length_le (by omega)]
@[simp] theorem sl_1T {a : D} {xs : List D} : sliceD (.tup (a :: xs)) (some 1) none = some (.tup xs, .st) := by
  show some (D.tup (cutD (a :: xs) (some ((1 : Nat) : Int)) none), Tg.st) = _
  rw [cut_from (by simp)]
  rfl
@[simp] theorem sl_1L {a : D} {xs : List D} : sliceD (.lst (a :: xs)) (some 1) none = some (.lst xs, .fr) := by
  show some (D.lst (cutD (a :: xs) (some ((1 : Nat) : Int)) none), Tg.fr) = _
  rw [cut_from (by simp)]
  rfl
@[simp] theorem sl_2T {a b : D} {xs : List D} : sliceD (.tup (a :: b :: xs)) (some 2) none = some (.tup xs, .st) := by
  show some (D.tup (cutD (a :: b :: xs) (some ((2 : Nat) : Int)) none), Tg.st) = _
  rw [cut_from (by simp)]
  rfl
/-! ### constants in a tuple -/
@[simp] theorem z_inT2 {x a b : Str} : copD .inn (.str x) (.tup [.str a, .str b]) = some (decide (x ∈ [a, b])) := z_inT (ys := [a, b])
@[simp] theorem z_inT3 {x a b c : Str} : copD .inn (.str x) (.tup [.str a, .str b, .str c]) = some (decide (x ∈ [a, b, c])) := z_inT (ys := [a, b, c])
@[simp] theorem z_ninT2 {x a b : Str} : copD .nin (.str x) (.tup [.str a, .str b]) = some (!decide (x ∈ [a, b])) := z_ninT (ys := [a, b])
@[simp] theorem z_ninT3 {x a b c : Str} : copD .nin (.str x) (.tup [.str a, .str b, .str c]) = some (!decide (x ∈ [a, b, c])) := z_ninT (ys := [a, b, c])
@[simp] theorem z_ninT4 {x a b c d : Str} : copD .nin (.str x) (.tup [.str a, .str b, .str c, .str d]) = some (!decide (x ∈ [a, b, c, d])) := z_ninT (ys := [a, b, c, d])
/-! ### names_in -/
theorem mem_insT {x y : Str} : ∀ {l : List Str}, y ∈ insT x l ↔ y = x ∨ y ∈ l
  | [] => by simp [insT]
  | z :: r => by
    unfold insT
    split
    · rename_i e
      rw [e]
      simp
    · split
      · simp
      · rw [List.mem_cons, mem_insT, List.mem_cons]
        constructor
        · rintro (h | h | h)
          · exact .inr (.inl h)
          · exact .inl h
          · exact .inr (.inr h)
        · rintro (h | h | h)
          · exact .inr (.inl h)
          · exact .inl h
          · exact .inr (.inr h)
theorem mem_srtS {y : Str} : ∀ {l : List Str}, y ∈ srtS l ↔ y ∈ l
  | [] => by simp [srtS]
  | x :: r => by
    show y ∈ insT x (srtS r) ↔ _
    rw [mem_insT, mem_srtS, List.mem_cons]
theorem len_insT {x : Str} : ∀ {l : List Str}, (insT x l).length ≤ l.length + 1
  | [] => by simp [insT]
  | z :: r => by
    unfold insT
    split
    · simp
    · split
      · simp
      · simp only [List.length_cons]
        have := len_insT (x := x) (l := r)
        omega
theorem len_srtS : ∀ {l : List Str}, (srtS l).length ≤ l.length
  | [] => by simp [srtS]
  | x :: r => by
    show (insT x (srtS r)).length ≤ _
    have := len_insT (x := x) (l := srtS r)
    have := len_srtS (l := r)
    simp only [List.length_cons]
    omega
def wd (w : Bool) : Str := if w then wTerm else wFact
def Tr.nms (w : Bool) (t : Tr) : List Str := if w then t.terms else t.facts
def Tr.kids : Tr → List Tr
  | .times _ a => [a]
  | .part a _ => [a]
  | .bin _ a b => [a, b]
  | .nt a => [a]
  | _ => []
def Tr.size : Tr → Nat
  | .times _ a => a.size + 1
  | .part a _ => a.size + 1
  | .bin _ a b => a.size + b.size + 1
  | .nt a => a.size + 1
  | _ => 1
theorem Tr.size_pos (t : Tr) : 0 < t.size := by cases t <;> simp [Tr.size]
theorem Tr.size_kids (t : Tr) : (t.kids.map Tr.size).sum < t.size := by cases t <;> simp [Tr.size, Tr.kids] <;> omega
theorem Tr.nms_kids (w : Bool) (t : Tr) (h : t.kids ≠ []) : t.nms w = t.kids.flatMap (Tr.nms w) := by
  cases t <;> cases w <;> first | exact absurd rfl h | simp [Tr.nms, Tr.kids, Tr.terms, Tr.facts]
theorem Tr.nms_len (w : Bool) (t : Tr) : (t.nms w).length ≤ t.size := by
  cases w <;> induction t <;> simp [Tr.nms, Tr.size, Tr.terms, Tr.facts] at * <;> omega
theorem Tr.size_depth (t : Tr) : t.size < 2 ^ (t.depth + 1) := by
  induction t with
  | times i a ih => simp only [Tr.size, Tr.depth, Nat.pow_succ] at *; have := Nat.one_le_two_pow (n := a.depth); omega
  | part a i ih => simp only [Tr.size, Tr.depth, Nat.pow_succ] at *; have := Nat.one_le_two_pow (n := a.depth); omega
  | nt a ih => simp only [Tr.size, Tr.depth, Nat.pow_succ] at *; have := Nat.one_le_two_pow (n := a.depth); omega
  | bin o a b iha ihb =>
    have h1 : 2 ^ (a.depth + 1) ≤ 2 ^ (max a.depth b.depth + 1) := Nat.pow_le_pow_right (by omega) (by omega)
    have h2 : 2 ^ (b.depth + 1) ≤ 2 ^ (max a.depth b.depth + 1) := Nat.pow_le_pow_right (by omega) (by omega)
    simp only [Tr.size, Tr.depth]
    rw [Nat.pow_succ 2 (max a.depth b.depth + 1)]
    omega
  | _ => simp [Tr.size, Tr.depth]
@[simp] theorem ty_tr {t : Tr} : tyD .tuple t.d = some true := by cases t <;> rfl
/-- [one for one in part[1:] if isinstance(one, tuple)] -/
theorem w_kids {F : Fn} {t : Tr} {v w f l : Option (D × Bool)} (h : t.kids ≠ []) :
    (sm G F e_names_in_1).v ⟨[v, w, f, l, some (t.d, false), none], mh⟩ = some (.lst (t.kids.map Tr.d), .fr, ⟨[v, w, f, l, some (t.d, false), none], mh⟩) := by
  rw [e_names_in_1, y_lc]
  have go : ∀ (ds : List (Tr ⊕ Int)), (sm G F (.sl (.v 4) (.cint 1) .nop)).i ⟨[v, w, f, l, some (t.d, false), none], mh⟩ = some (ds.map (fun u => match u with | .inl u => u.d | .inr i => .int i), ⟨[v, w, f, l, some (t.d, false), none], mh⟩) → ds.length ≤ 5000 →
      lcF [5] (.nm 5) (sm G F (.sl (.v 4) (.cint 1) .nop)).i (sm G F (.isi (.v 5) .tuple)).c (sm G F (.v 5)).v ⟨[v, w, f, l, some (t.d, false), none], mh⟩ = some (.lst ((ds.filter (fun u => u.isLeft)).map (fun u => match u with | .inl u => u.d | .inr i => .int i)), .fr, ⟨[v, w, f, l, some (t.d, false), none], mh⟩) := fun ds hi hl => by
    refine lcF_gen (own := [5]) (tg := .nm 5) _ (fun u => ⟨[v, w, f, l, some (t.d, false), some ((match u with | .inl u => u.d | .inr i => .int i), false)], mh⟩) (fun u => u.isLeft) _ hi (fun _ _ => rfl) (fun _ _ => rfl) (fun u _ => ?_) (fun u _ _ => ?_) (by omega)
    · cases u <;> simp
    · cases u <;> simp
  cases t with
  | times i a => exact go [.inr i, .inl a] (by simp [Tr.d]) (by simp)
  | part a i => exact go [.inl a, .inr i] (by simp [Tr.d]) (by simp)
  | bin o a b => exact go [.inl a, .inl b] (by simp [Tr.d]) (by simp)
  | nt a => exact go [.inl a] (by simp [Tr.d]) (by simp)
  | _ => exact absurd rfl h
/-- found and left, as they stand in names_in -/
structure NI (w : Bool) (t : Tr) (mh : List (List D)) (x : List Str × List Tr) (s : S) : Prop where
  s : ∃ o1 : Option (D × Bool), s = ⟨[some (t.d, false), some (.str (wd w), false), some (.lst (x.1.map .str), true), some (.lst (x.2.map Tr.d), true), o1, none], mh⟩
  m : ∀ y, y ∈ t.nms w ↔ y ∈ x.1 ∨ ∃ u ∈ x.2, y ∈ u.nms w
  l : x.1.length + (x.2.map fun u => (u.nms w).length).sum = (t.nms w).length
  z : (x.2.map Tr.size).sum ≤ t.size
def NQ (w : Bool) (t : Tr) (mh : List (List D)) (o : Out) : Prop := ∃ (found : List Str) (l o1 : Option (D × Bool)), o = .nx ⟨[some (t.d, false), some (.str (wd w), false), some (.lst (found.map .str), true), l, o1, none], mh⟩ ∧ (∀ x, x ∈ found ↔ x ∈ t.nms w) ∧ found.length ≤ 60
def nm_ (x : List Str × List Tr) : Nat := (x.2.map Tr.size).sum
theorem len_size : ∀ {l : List Tr}, l.length ≤ (l.map Tr.size).sum
  | [] => by simp
  | a :: l => by have := a.size_pos; have := len_size (l := l); simp only [List.length_cons, List.map_cons, List.sum_cons]; omega
section
variable {w : Bool} {t u : Tr} {found : List Str} {left : List Tr} {o1 : Option (D × Bool)}
theorem ni_skip (h : NI w t mh (found, left ++ [u]) ⟨[some (t.d, false), some (.str (wd w), false), some (.lst (found.map .str), true), some (.lst ((left ++ [u]).map Tr.d), true), o1, none], mh⟩) (hn : u.nms w = []) :
    Post (fun s2 => ∃ x', NI w t mh x' s2 ∧ nm_ x' < nm_ (found, left ++ [u])) (NQ w t mh) (.nx ⟨[some (t.d, false), some (.str (wd w), false), some (.lst (found.map .str), true), some (.lst (left.map Tr.d), true), some (u.d, false), none], mh⟩) := by
  obtain ⟨_, h2, h3, h4⟩ := h
  simp only [List.map_append, List.sum_append, List.map_cons, List.map_nil, List.sum_cons, List.sum_nil] at h3 h4
  have hu := u.size_pos
  rw [hn] at h3
  refine ⟨(found, left), ⟨⟨_, rfl⟩, fun y => ?_, by simpa using h3, by show (left.map Tr.size).sum ≤ _; omega⟩, by simp [nm_]; omega⟩
  rw [h2]
  constructor
  · rintro (h | ⟨v, hv, h⟩)
    · exact .inl h
    · rcases List.mem_append.mp hv with q | q
      · exact .inr ⟨v, q, h⟩
      · rw [List.mem_singleton.mp q, hn] at h; cases h
  · rintro (h | ⟨v, hv, h⟩)
    · exact .inl h
    · exact .inr ⟨v, List.mem_append_left _ hv, h⟩
theorem ni_take (h : NI w t mh (found, left ++ [u]) ⟨[some (t.d, false), some (.str (wd w), false), some (.lst (found.map .str), true), some (.lst ((left ++ [u]).map Tr.d), true), o1, none], mh⟩) {x : Str} (hn : u.nms w = [x]) :
    Post (fun s2 => ∃ x', NI w t mh x' s2 ∧ nm_ x' < nm_ (found, left ++ [u])) (NQ w t mh) (.nx ⟨[some (t.d, false), some (.str (wd w), false), some (.lst (found.map .str ++ [.str x]), true), some (.lst (left.map Tr.d), true), some (u.d, false), none], mh⟩) := by
  obtain ⟨_, h2, h3, h4⟩ := h
  simp only [List.map_append, List.sum_append, List.map_cons, List.map_nil, List.sum_cons, List.sum_nil] at h3 h4
  have hu := u.size_pos
  rw [hn] at h3
  refine ⟨(found ++ [x], left), ⟨⟨_, by rw [List.map_append]; rfl⟩, fun y => ?_, by simp only [List.length_append, List.length_cons, List.length_nil] at h3 ⊢; omega, by show (left.map Tr.size).sum ≤ _; omega⟩, by simp [nm_]; omega⟩
  rw [h2]
  constructor
  · rintro (h | ⟨v, hv, h⟩)
    · exact .inl (List.mem_append_left _ h)
    · rcases List.mem_append.mp hv with q | q
      · exact .inr ⟨v, q, h⟩
      · rw [List.mem_singleton.mp q, hn] at h; exact .inl (List.mem_append_right _ h)
  · rintro (h | ⟨v, hv, h⟩)
    · rcases List.mem_append.mp h with h | h
      · exact .inl h
      · exact .inr ⟨u, by simp, by rw [hn]; exact h⟩
    · exact .inr ⟨v, List.mem_append_left _ hv, h⟩
theorem ni_open (h : NI w t mh (found, left ++ [u]) ⟨[some (t.d, false), some (.str (wd w), false), some (.lst (found.map .str), true), some (.lst ((left ++ [u]).map Tr.d), true), o1, none], mh⟩) (hk : u.kids ≠ []) :
    Post (fun s2 => ∃ x', NI w t mh x' s2 ∧ nm_ x' < nm_ (found, left ++ [u])) (NQ w t mh) (.nx ⟨[some (t.d, false), some (.str (wd w), false), some (.lst (found.map .str), true), some (.lst (left.map Tr.d ++ u.kids.map Tr.d), true), some (u.d, false), none], mh⟩) := by
  obtain ⟨_, h2, h3, h4⟩ := h
  have hn := u.nms_kids w hk
  have hsz := u.size_kids
  refine ⟨(found, left ++ u.kids), ⟨⟨_, by rw [List.map_append]⟩, fun y => ?_, ?_, ?_⟩, ?_⟩
  · rw [h2]
    constructor
    · rintro (h | ⟨v, hv, h⟩)
      · exact .inl h
      · rcases List.mem_append.mp hv with q | q
        · exact .inr ⟨v, List.mem_append_left _ q, h⟩
        · rw [List.mem_singleton.mp q, hn] at h
          obtain ⟨v', h6, h7⟩ := List.mem_flatMap.mp h
          exact .inr ⟨v', List.mem_append_right _ h6, h7⟩
    · rintro (h | ⟨v, hv, h⟩)
      · exact .inl h
      · rcases List.mem_append.mp hv with q | q
        · exact .inr ⟨v, List.mem_append_left _ q, h⟩
        · exact .inr ⟨u, by simp, by rw [hn]; exact List.mem_flatMap.mpr ⟨v, q, h⟩⟩
  · simp only [List.map_append, List.sum_append, List.map_cons, List.map_nil, List.sum_cons, List.sum_nil] at h3 ⊢
    rw [hn, List.length_flatMap] at h3
    omega
  · simp only [List.map_append, List.sum_append, List.map_cons, List.map_nil, List.sum_cons, List.sum_nil] at h4 ⊢
    omega
  · simp only [nm_, List.map_append, List.sum_append, List.map_cons, List.map_nil, List.sum_cons, List.sum_nil] at h4 ⊢
    omega
end
theorem w_names_loop (w : Bool) {t : Tr} (hl : (t.nms w).length ≤ 60) (hz : t.size ≤ 15000000) (k : Nat) : ∃ o, whlLoop (toC (sm G (evF G pT k) (.cmp .gt (.b1 .len (.v 3)) (.cint 0))).v) (cm G (evF G pT k) c_names_in_1) ⟨[some (t.d, false), some (.str (wd w), false), some (.lst [], true), some (.lst [t.d], true), none, none], mh⟩ = some o ∧ NQ w t mh o := by
  refine whl_ind (NI w t mh) nm_ (NQ w t mh) (fun x s P h hP => ?_) _ ([], [t]) _ (Nat.le_refl _) ⟨⟨none, rfl⟩, fun y => by simp, by simp, by simp⟩
  obtain ⟨found, left⟩ := x
  obtain ⟨o1, h1⟩ := h.s
  subst h1
  rcases List.eq_nil_or_concat left with rfl | ⟨left, u, rfl⟩
  · simp
    refine hP (.bk _) ⟨found, _, _, rfl, fun x => ?_, ?_⟩
    · rw [h.m]; simp
    · have := h.l; simp at this; omega
  · simp only [List.concat_eq_append] at *
    have hp : (0 : Int) < (left.length : Int) + 1 := by omega
    have hr : rmO found.length = some () := rmO_of (by have := h.l; simp at this; omega)
    have hk2 : u.kids.length ≤ 2 := by cases u <;> simp [Tr.kids]
    have hr2 : rmE (left.length + u.kids.length) = some () := rmE_of (by have h1 := h.z; have h2 := len_size (l := left); simp only [List.map_append, List.sum_append] at h1; omega)
    have opn : u.kids ≠ [] → ∀ W : Str, itemD u.d (.int 0) = some (.str W) → W ≠ wTerm → W ≠ wFact → W ≠ wNum → W ≠ wTrue → ∃ o, ((toC (sm G (evF G pT k) (.cmp .gt (.b1 .len (.v 3)) (.cint 0))).v ⟨[some (t.d, false), some (.str (wd w), false), some (.lst (found.map .str), true), some (.lst ((left ++ [u]).map Tr.d), true), o1, none], mh⟩).bind fun x => if x.1 = true then cm G (evF G pT k) c_names_in_1 x.2 else some (Out.bk x.2)) = some o ∧ P o := fun hk W h0 n1 n2 n3 n4 => by
      have e := w_kids (G := G) (mh := mh) (F := evF G pT k) (t := u) hk (v := some (t.d, false)) (w := some (.str (wd w), false)) (f := some (.lst (found.map .str), true)) (l := some (.lst (left.map Tr.d), true))
      have n5 : W ≠ wd w := by cases w <;> assumption
      have c1 : (W ∈ [wNum, wFact, wTerm, wTrue]) = False := by simp [n1, n2, n3, n4]
      have c2 : copD .nin (.str W) (.tup [.str wNum, .str wFact, .str wTerm, .str wTrue]) = some true := by rw [z_ninT4]; simp [n1, n2, n3, n4]
      have c3 : copD .nin (.str W) (.tup [.str ⟨#[110, 117, 109]⟩, .str ⟨#[102, 97, 99, 116]⟩, .str ⟨#[116, 101, 114, 109]⟩, .str ⟨#[116, 114, 117, 101]⟩]) = some true := c2
      simp [c_names_in_1, hp, h0, n5, e, c3, hr2, -z_ninT4]
      exact hP _ (ni_open h hk)
    cases u with
    | num i => cases w <;> (simp [c_names_in_1, hp, Tr.d, wd, wNum, wFact, wTerm]; exact hP _ (ni_skip h rfl))
    | tru => cases w <;> (simp [c_names_in_1, hp, Tr.d, wd, wTrue, wFact, wTerm]; exact hP _ (ni_skip h rfl))
    | fact x =>
      cases w
      · simp [c_names_in_1, hp, Tr.d, wd, wFact, hr]; exact hP _ (ni_take h rfl)
      · simp [c_names_in_1, hp, Tr.d, wd, wFact, wTerm]; exact hP _ (ni_skip h rfl)
    | term x =>
      cases w
      · simp [c_names_in_1, hp, Tr.d, wd, wFact, wTerm]; exact hP _ (ni_skip h rfl)
      · simp [c_names_in_1, hp, Tr.d, wd, wTerm, hr]; exact hP _ (ni_take h rfl)
    | times i a => exact opn (by simp [Tr.kids]) wTimes (by simp [Tr.d]) (by decide) (by decide) (by decide) (by decide)
    | part a i => exact opn (by simp [Tr.kids]) wPart (by simp [Tr.d]) (by decide) (by decide) (by decide) (by decide)
    | bin o a b => exact opn (by simp [Tr.kids]) o.w (by simp [Tr.d]) (by cases o <;> decide) (by cases o <;> decide) (by cases o <;> decide) (by cases o <;> decide)
    | nt a => exact opn (by simp [Tr.kids]) wNot (by simp [Tr.d]) (by decide) (by decide) (by decide) (by decide)
theorem z_srt {xs : List Str} (h : xs.length ≤ 60) : b1D .srtset (.lst (xs.map .str)) = some (.lst ((srtS xs).map .str), .fr) := by
  show (match strsD (xs.map D.str) with
    | some ys => if decide (ys.length ≤ 60) then some (D.lst ((srtS ys).map .str), Tg.fr) else none
    | none => none) = _
  rw [strs_map]
  show (if decide (xs.length ≤ 60) = true then _ else _) = _
  rw [if_pos (by simpa using h)]
/-- the names in an amount or condition, w: of terms, else of facts -/
theorem w_names_in (w : Bool) {t : Tr} (hl : (t.nms w).length ≤ 60) (hz : t.size ≤ 15000000) (k : Nat) (mh : List (List D)) : ∃ xs : List Str, (∀ x, x ∈ xs ↔ x ∈ t.nms w) ∧ xs.length ≤ 60 ∧ evF G pT (k + 1) i_names_in [t.d, .str (wd w)] mh = some (.lst (xs.map .str), mh) := by
  obtain ⟨o, e, found, l, o1, rfl, h2, h3⟩ := w_names_loop (G := G) (mh := mh) w hl hz k
  refine ⟨srtS found, fun x => by rw [mem_srtS, h2], Nat.le_trans len_srtS h3, ?_⟩
  rw [r_names_in]
  simp [c_names_in] at e ⊢
  simp [e, z_srt h3]
end E3
set_option linter.all false
set_option maxRecDepth 100000
set_option maxHeartbeats 2000000
namespace E3
open PySem L2
/-! ### which terms are needed -/
/-- x uses y, by the list of (name, names used) -/
inductive Rch (us : Str → List Str) : Str → Str → Prop
  | rfl {x : Str} : Rch us x x
  | step {x y z : Str} : y ∈ us x → Rch us y z → Rch us x z
theorem Rch.trans {us : Str → List Str} {x y z : Str} (h : Rch us x y) (g : Rch us y z) : Rch us x z := by
  induction h with
  | rfl => exact g
  | step h _ ih => exact .step h (ih g)
theorem Rch.snoc {us : Str → List Str} {x y z : Str} (h : Rch us x y) (g : z ∈ us y) : Rch us x z := h.trans (.step g .rfl)
/-- the search: found ones, and those left -/
structure Srch (us : Str → List Str) (x : Str) (found left : List Str) : Prop where
  nd : found.Nodup
  f : ∀ y ∈ found, Rch us x y
  l : ∀ y ∈ left, Rch us x y
  st : x ∈ found ∨ x ∈ left
  cl : ∀ y ∈ found, ∀ z ∈ us y, z ∈ found ∨ z ∈ left
theorem Srch.start {us : Str → List Str} {x : Str} : Srch us x [] [x] :=
  ⟨List.nodup_nil, fun _ h => (by cases h), fun y h => (by rw [List.mem_singleton.mp h]; exact .rfl), .inr List.mem_cons_self, fun _ h => (by cases h)⟩
theorem Srch.end_ {us : Str → List Str} {x : Str} {found : List Str} (h : Srch us x found []) (y : Str) : y ∈ found ↔ Rch us x y := by
  constructor
  · exact h.f y
  · intro r
    have go : ∀ {a b : Str}, Rch us a b → a ∈ found → b ∈ found := by
      intro a b r
      induction r with
      | rfl => exact id
      | step s _ ih => exact fun ha => ih ((h.cl _ ha _ s).resolve_right (by simp))
    exact go r (h.st.resolve_right (by simp))
theorem Srch.old {us : Str → List Str} {x : Str} {found left : List Str} {y : Str} (h : Srch us x found (left ++ [y])) (hy : y ∈ found) : Srch us x found left :=
  ⟨h.nd, h.f, fun z hz => h.l z (List.mem_append_left _ hz), by
    rcases h.st with q | q
    · exact .inl q
    · rcases List.mem_append.mp q with q | q
      · exact .inr q
      · rw [List.mem_singleton.mp q]; exact .inl hy, fun a ha z hz => by
    rcases h.cl a ha z hz with q | q
    · exact .inl q
    · rcases List.mem_append.mp q with q | q
      · exact .inr q
      · rw [List.mem_singleton.mp q]; exact .inl hy⟩
theorem Srch.new {us : Str → List Str} {x : Str} {found left more : List Str} {y : Str} (h : Srch us x found (left ++ [y])) (hy : y ∉ found) (hm : ∀ z, z ∈ more ↔ z ∈ us y) : Srch us x (found ++ [y]) (left ++ more) := by
  have hr : Rch us x y := h.l y (by simp)
  refine ⟨?_, fun z hz => ?_, fun z hz => ?_, ?_, fun a ha z hz => ?_⟩
  · rw [List.nodup_append]
    refine ⟨h.nd, by simp, fun a ha b hb e => ?_⟩
    rw [List.mem_singleton.mp hb] at e
    rw [e] at ha
    exact hy ha
  · rcases List.mem_append.mp hz with q | q
    · exact h.f z q
    · rw [List.mem_singleton.mp q]; exact hr
  · rcases List.mem_append.mp hz with q | q
    · exact h.l z (List.mem_append_left _ q)
    · exact hr.snoc ((hm z).mp q)
  · rcases h.st with q | q
    · exact .inl (List.mem_append_left _ q)
    · rcases List.mem_append.mp q with q | q
      · exact .inr (List.mem_append_left _ q)
      · rw [List.mem_singleton.mp q]; exact .inl (by simp)
  · rcases List.mem_append.mp ha with q | q
    · rcases h.cl a q z hz with q | q
      · exact .inl (List.mem_append_left _ q)
      · rcases List.mem_append.mp q with q | q
        · exact .inr (List.mem_append_left _ q)
        · rw [List.mem_singleton.mp q]; exact .inl (by simp)
    · rw [List.mem_singleton.mp q] at hz
      exact .inr (List.mem_append_right _ ((hm z).mpr hz))
variable {G : Nat → Option D} {mh : List (List D)}
/-! ### codes that are well made -/
structure TrOk (t : Tr) : Prop where
  n : ∀ w, (t.nms w).length ≤ 60
  z : t.size ≤ 15000000
def useT (t : Tm) : List Str := t.cls.flatMap fun c => c.cond.terms ++ c.am.terms
def Cd.nms (c : Cd) : List Str := c.ts.map (·.nm)
def Cd.tm (c : Cd) (x : Str) : Option Tm := c.ts.find? fun t => t.nm == x
def us (c : Cd) (x : Str) : List Str := match c.tm x with
  | some t => useT t
  | none => []
structure ClOk (fs : List Fact) (before : List Str) (c : Cl) : Prop where
  cc : c.cond.isC
  ca : c.am.isA
  cz : TrOk c.cond
  az : TrOk c.am
  cd : c.cond.depth ≤ 20
  ad : c.am.depth ≤ 20
  cf : ∀ x ∈ c.cond.facts, x ∈ fs.map (·.nm)
  af : ∀ x ∈ c.am.facts, x ∈ fs.map (·.nm)
  ct : ∀ x ∈ c.cond.terms, x ∈ before
  at_ : ∀ x ∈ c.am.terms, x ∈ before
  lk : PyData.strOk c.lab = true
structure CdOk (c : Cd) : Prop where
  fn : (c.fs.map (·.nm)).Nodup
  fl : c.fs.length ≤ 8
  tn : c.nms.Nodup
  tl : c.ts.length ≤ 8
  cl : ∀ t ∈ c.ts, t.cls.length ≤ 24
  ok : ∀ t ∈ c.ts, OkL t.cls
  cs : ∀ (i : Nat) t, c.ts[i]? = some t → ∀ a ∈ t.cls, ClOk c.fs ((c.ts.take i).map (·.nm)) a
theorem CdOk.tm {c : Cd} (K : CdOk c) {t : Tm} (h : t ∈ c.ts) : c.tm t.nm = some t := by
  unfold Cd.tm
  cases e : c.ts.find? fun u => u.nm == t.nm with
  | none =>
    have := List.find?_eq_none.mp e t h
    simp at this
  | some u =>
    have h1 := List.find?_some e
    have h2 := List.mem_of_find?_eq_some e
    have h3 : u.nm = t.nm := by simpa using h1
    obtain ⟨i, hi⟩ := List.mem_iff_getElem?.mp h
    obtain ⟨j, hj⟩ := List.mem_iff_getElem?.mp h2
    have e1 : c.nms[i]? = some t.nm := by unfold Cd.nms; rw [List.getElem?_map, hi]; rfl
    have e2 : c.nms[j]? = some t.nm := by unfold Cd.nms; rw [List.getElem?_map, hj, ← h3]; rfl
    have li : i < c.nms.length := (List.getElem?_eq_some_iff.mp e1).1
    have := (List.getElem?_inj li K.tn).mp (e1.trans e2.symm)
    subst this
    rw [hi] at hj
    exact hj.symm ▸ rfl
theorem Cd.tm_some {c : Cd} {x : Str} {t : Tm} (h : c.tm x = some t) : t ∈ c.ts ∧ t.nm = x :=
  ⟨List.mem_of_find?_eq_some h, by simpa using List.find?_some h⟩
theorem Cd.tm_mem {c : Cd} {x : Str} (h : x ∈ c.nms) : ∃ t, c.tm x = some t := by
  obtain ⟨t, h1, h2⟩ := List.mem_map.mp h
  cases e : c.tm x with
  | some u => exact ⟨u, rfl⟩
  | none =>
    have := List.find?_eq_none.mp e t h1
    rw [h2] at this
    simp at this
/-- what is used stands ahead -/
theorem CdOk.before {c : Cd} (K : CdOk c) {i : Nat} {t : Tm} (h : c.ts[i]? = some t) {y : Str} (hy : y ∈ useT t) : y ∈ (c.ts.take i).map (·.nm) := by
  obtain ⟨a, ha, hy⟩ := List.mem_flatMap.mp hy
  have o := K.cs i t h a ha
  rcases List.mem_append.mp hy with q | q
  · exact o.ct y q
  · exact o.at_ y q
theorem CdOk.used {c : Cd} (K : CdOk c) {t : Tm} (h : t ∈ c.ts) {y : Str} (hy : y ∈ useT t) : y ∈ c.nms := by
  obtain ⟨i, hi⟩ := List.mem_iff_getElem?.mp h
  have := K.before hi hy
  rw [List.map_take] at this
  exact List.mem_of_mem_take this
theorem CdOk.rch {c : Cd} (K : CdOk c) {x y : Str} (hx : x ∈ c.nms) (r : Rch (us c) x y) : y ∈ c.nms := by
  induction r with
  | rfl => exact hx
  | step h _ ih =>
    rename_i a b d
    refine ih ?_
    obtain ⟨t, ht⟩ := Cd.tm_mem hx
    unfold us at h
    rw [ht] at h
    exact K.used (Cd.tm_some ht).1 h
/-- the terms that x needs, in order -/
noncomputable def usd (c : Cd) (x : Str) : List Str := by
  classical exact c.nms.filter fun y => decide (Rch (us c) x y)
theorem mem_usd {c : Cd} (K : CdOk c) {x : Str} (hx : x ∈ c.nms) {y : Str} : y ∈ usd c x ↔ Rch (us c) x y := by
  classical
  unfold usd
  rw [List.mem_filter]
  constructor
  · intro h; simpa using h.2
  · intro h; exact ⟨K.rch hx h, by simpa using h⟩
/-! ### used_by -/
structure UI (c : Cd) (x : Str) (mh : List (List D)) (p : List Str × List Str) (s : S) : Prop where
  s : ∃ o5 o6 : Option (D × Bool), s = ⟨[some (c.d, false), some (.str x, false), some (.lst (c.nms.map .str), false), some (.lst (p.1.map .str), true), some (.lst (p.2.map .str), true), o5, o6, none], mh⟩
  r : Srch (us c) x p.1 p.2
  l : p.2.length ≤ 1 + 2880 * p.1.length
def UQ (c : Cd) (x : Str) (mh : List (List D)) (o : Out) : Prop := ∃ (found : List Str) (l o5 o6 : Option (D × Bool)), o = .nx ⟨[some (c.d, false), some (.str x, false), some (.lst (c.nms.map .str), false), some (.lst (found.map .str), true), l, o5, o6, none], mh⟩ ∧ ∀ y, y ∈ found ↔ Rch (us c) x y
theorem w_used_in {c : Cd} (K : CdOk c) {x : Str} {k : Nat} {found left : List Str} {here : Str} {t : Tm} (ht : t ∈ c.ts) (hb : left.length ≤ 100000) (o6 : Option (D × Bool)) :
    ∃ o, forLoop (bdN (.nm 6)) (cm G (evF G pT (k + 1)) c_used_by_2) (t.cls.map Cl.d) ⟨[some (c.d, false), some (.str x, false), some (.lst (c.nms.map .str), false), some (.lst (found.map .str), true), some (.lst (left.map .str), true), some (.str here, false), o6, none], mh⟩ = some o ∧
      ∃ (more : List Str) (o6 : Option (D × Bool)), o = .nx ⟨[some (c.d, false), some (.str x, false), some (.lst (c.nms.map .str), false), some (.lst (found.map .str), true), some (.lst ((left ++ more).map .str), true), some (.str here, false), o6, none], mh⟩ ∧ (∀ z, z ∈ more ↔ z ∈ useT t) ∧ more.length ≤ 2880 := by
  obtain ⟨i, hi⟩ := List.mem_iff_getElem?.mp ht
  refine for_ind (bd := bdN (.nm 6)) (e := Cl.d) (fun as s => ∃ (done : List Cl) (more : List Str) (o6 : Option (D × Bool)), t.cls = done ++ as ∧ s = ⟨[some (c.d, false), some (.str x, false), some (.lst (c.nms.map .str), false), some (.lst (found.map .str), true), some (.lst ((left ++ more).map .str), true), some (.str here, false), o6, none], mh⟩ ∧ (∀ z, z ∈ more ↔ z ∈ done.flatMap fun c => c.cond.terms ++ c.am.terms) ∧ more.length ≤ 120 * done.length) _ ?_ ?_ t.cls _ ⟨[], [], o6, rfl, by simp, by simp, by simp⟩
  · rintro s ⟨done, more, o6, h1, h2, h3, h4⟩
    subst h2
    have hl := K.cl t ht
    simp only [List.append_nil] at h1
    exact ⟨more, o6, rfl, fun z => by rw [h3, ← h1]; rfl, by rw [← h1] at h4; omega⟩
  · rintro a as s P ⟨done, more, o6, h1, h2, h3, h4⟩ hP
    subst h2
    have ha : a ∈ t.cls := by rw [h1]; simp
    have o := K.cs i t hi a ha
    obtain ⟨xs, x1, x2, e1⟩ := w_names_in (G := G) true (o.cz.n true) o.cz.z k mh
    obtain ⟨ys, y1, y2, e2⟩ := w_names_in (G := G) true (o.az.n true) o.az.z k mh
    have e1 : evF G pT (k + 1) i_names_in [a.cond.d, .str ⟨#[116, 101, 114, 109]⟩] mh = some (.lst (xs.map .str), mh) := e1
    have e2 : evF G pT (k + 1) i_names_in [a.am.d, .str ⟨#[116, 101, 114, 109]⟩] mh = some (.lst (ys.map .str), mh) := e2
    have hl := K.cl t ht
    have hd : done.length ≤ 24 := by rw [h1] at hl; simp only [List.length_append, List.length_cons] at hl; omega
    have r1 : rmE (xs.length + ys.length) = some () := rmE_of (by omega)
    have r2 : rmE (left.length + more.length + (xs.length + ys.length)) = some () := rmE_of (by omega)
    simp [c_used_by_2, e1, e2, r1, r2]
    refine hP _ ⟨done ++ [a], more ++ (xs ++ ys), _, by rw [h1]; simp, by simp only [List.map_append, List.append_assoc]; rfl, fun z => ?_, ?_⟩
    · rw [List.flatMap_append, List.mem_append, List.mem_append, h3]
      have q1 := x1 z
      have q2 := y1 z
      simp [Tr.nms] at q1 q2 ⊢
      rw [q1, q2]
    · simp only [List.length_append, List.length_cons, List.length_nil]; omega
theorem w_used_loop {c : Cd} (K : CdOk c) {x : Str} (hx : x ∈ c.nms) (k : Nat) : ∃ o, whlLoop (toC (sm G (evF G pT (k + 1)) (.cmp .gt (.b1 .len (.v 4)) (.cint 0))).v) (cm G (evF G pT (k + 1)) c_used_by_1) ⟨[some (c.d, false), some (.str x, false), some (.lst (c.nms.map .str), false), some (.lst [], true), some (.lst [.str x], true), none, none, none], mh⟩ = some o ∧ UQ c x mh o := by
  refine whl_ind (UI c x mh) (fun p => (9 - p.1.length) * 3000 + p.2.length) (UQ c x mh) (fun p s P h hP => ?_) _ ([], [x]) _ (Nat.le_refl _) ⟨⟨none, none, rfl⟩, Srch.start, by simp⟩
  obtain ⟨found, left⟩ := p
  obtain ⟨⟨o5, o6, h1⟩, hr, hl⟩ := h
  subst h1
  have hf : found.length ≤ 8 := Nat.le_trans (List.Nodup.length_le_of_subset (l₂ := c.nms) hr.nd fun y hy => K.rch hx (hr.f y hy)) (by simpa [Cd.nms] using K.tl)
  rcases List.eq_nil_or_concat left with rfl | ⟨left, u, rfl⟩
  · simp
    exact hP (.bk _) ⟨found, _, _, _, rfl, hr.end_⟩
  · simp only [List.concat_eq_append] at *
    have hp : (0 : Int) < (left.length : Int) + 1 := by omega
    have hu : u ∈ c.nms := K.rch hx (hr.l u (by simp))
    simp only [List.length_append, List.length_cons, List.length_nil] at hl
    by_cases q : u ∈ found
    · simp [c_used_by_1, hp, q]
      refine hP _ ⟨(found, left), ⟨⟨_, _, rfl⟩, hr.old q, by show left.length ≤ 1 + 2880 * found.length; omega⟩, by simp⟩
    · obtain ⟨t, ht⟩ := Cd.tm_mem hu
      have htc := Cd.tm_some ht
      have e := w_clauses (G := G) (mh := mh) (k := k) ht
      have rf : rmO found.length = some () := rmO_of (by omega)
      obtain ⟨o, e1, more, o6', h2, h3, h4⟩ := w_used_in (G := G) (mh := mh) K (x := x) (k := k) (found := found ++ [u]) (left := left) (here := u) htc.1 (by omega) o6
      subst h2
      simp [c_used_by_1, hp, q, e, rf]
      rw [List.map_append] at e1
      simp only [List.map_cons, List.map_nil] at e1
      rw [e1]
      simp
      have hu2 : us c u = useT t := by unfold us; rw [ht]
      have hn := hr.new q (more := more) fun z => by rw [h3, hu2]
      have hf' := Nat.le_trans (List.Nodup.length_le_of_subset (l₂ := c.nms) hn.nd fun y hy => K.rch hx (hn.f y hy)) (show c.nms.length ≤ 8 by simpa [Cd.nms] using K.tl)
      simp only [List.length_append, List.length_cons, List.length_nil] at hf'
      refine hP _ ⟨(found ++ [u], left ++ more), ⟨⟨_, _, by simp only [List.map_append, List.map_cons, List.map_nil]; rfl⟩, hn, by simp only [List.length_append, List.length_cons, List.length_nil]; omega⟩, ?_⟩
      simp only [List.length_append, List.length_cons, List.length_nil]
      omega
theorem w_used_by {c : Cd} (K : CdOk c) {x : Str} (hx : x ∈ c.nms) (k : Nat) : evF G pT (k + 2) i_used_by [c.d, .str x] mh = some (.lst ((usd c x).map .str), mh) := by
  classical
  obtain ⟨o, e, found, l, o5, o6, rfl, h⟩ := w_used_loop (G := G) (mh := mh) K hx k
  rw [r_used_by]
  have hn := w_names (G := G) (mh := mh) (k := k) (c := c) (by have := K.tl; omega)
  have hn' : evF G pT (k + 1) i_term_names [c.d] mh = some (.lst (c.nms.map .str), mh) := by rw [hn]; simp [Cd.nms]
  simp [c_used_by, hn'] at e ⊢
  have e2 : (sm G (evF G pT (k + 1)) e_used_by_1).v ⟨[some (c.d, false), some (.str x, false), some (.lst (c.nms.map .str), false), some (.lst (found.map .str), true), l, o5, o6, none], mh⟩ = some (.lst ((c.nms.filter fun y => decide (y ∈ found)).map .str), .fr, ⟨[some (c.d, false), some (.str x, false), some (.lst (c.nms.map .str), false), some (.lst (found.map .str), true), l, o5, o6, none], mh⟩) := by
    rw [e_used_by_1, y_lc]
    refine lcF_gen (own := [7]) (tg := .nm 7) (e := D.str) ⟨[some (c.d, false), some (.str x, false), some (.lst (c.nms.map .str), false), some (.lst (found.map .str), true), l, o5, o6, none], mh⟩ (fun y => ⟨[some (c.d, false), some (.str x, false), some (.lst (c.nms.map .str), false), some (.lst (found.map .str), true), l, o5, o6, some (.str y, false)], mh⟩) (fun y => decide (y ∈ found)) D.str (by simp) (fun _ _ => rfl) (fun _ _ => rfl) (fun y _ => by simp) (fun y _ _ => by simp) (by have := K.tl; simp [Cd.nms]; omega)
  rw [e]
  simp [e2]
  unfold usd
  congr 1
  apply List.filter_congr
  intro y _
  rw [Bool.eq_iff_iff]
  simp [h y]
end E3
set_option linter.all false
set_option maxRecDepth 100000
set_option maxHeartbeats 2000000
namespace E3
open PySem L2
/-! ### what comes of a term -/
inductive Oc where | waits (x : Str) | gap | clash (a b : Str) | told (v : Int) (l : Str)
  deriving DecidableEq
def wTold : Str := ⟨#[116, 111, 108, 100]⟩
def wWaits : Str := ⟨#[119, 97, 105, 116, 115]⟩
def wGap : Str := ⟨#[103, 97, 112]⟩
def wClash : Str := ⟨#[99, 108, 97, 115, 104]⟩
def Oc.w : Oc → Str
  | .waits _ => wWaits
  | .gap => wGap
  | .clash _ _ => wClash
  | .told _ _ => wTold
def Oc.d : Oc → D
  | .waits x => .tup [.str wWaits, .str x]
  | .gap => .tup [.str wGap]
  | .clash a b => .tup [.str wClash, .str a, .str b]
  | .told v l => .tup [.str wTold, .int v, .str l]
def Oc.isT : Oc → Bool
  | .told _ _ => true
  | _ => false
def Oc.val : Oc → Int
  | .told v _ => v
  | _ => 0
@[simp] theorem Oc.d0 {o : Oc} : itemD o.d (.int 0) = some (.str o.w) := by cases o <;> simp [Oc.d, Oc.w]
theorem Oc.wT {o : Oc} : (o.w == wTold) = o.isT := by cases o <;> rfl
theorem Oc.d1 {o : Oc} (h : o.isT = true) : itemD o.d (.int 1) = some (.int o.val) := by cases o <;> first | cases h; done | simp [Oc.d, Oc.val]
abbrev Kn := List (Str × Oc)
def kn (ks : Kn) (x : Str) : Option Oc := (ks.find? fun p => p.1 == x).map (·.2)
def kd (ks : Kn) : D := .dct (ks.map fun p => (.inr p.1, p.2.d))
def vl (ks : Kn) (x : Str) : Int := match kn ks x with
  | some o => o.val
  | none => 0
def isTold (ks : Kn) (x : Str) : Bool := match kn ks x with
  | some o => o.isT
  | none => false
def fv : List Fact → List Int → Str → Int
  | f :: fs, v :: cs, x => if f.nm = x then v else fv fs cs x
  | _, _, _ => 0
theorem fv_ok : ∀ {fs : List Fact} {cs : List Int} {x : Str}, cs.length = fs.length → x ∈ fs.map (·.nm) → FOk fs cs (fv fs cs) x
  | [], _, _, _, h => by cases h
  | f :: fs, [], _, h, _ => by cases h
  | f :: fs, v :: cs, x, h, hx => by
    by_cases e : f.nm = x
    · exact ⟨0, fun m _ q _ => by omega, ⟨f, rfl, e⟩, by simp [fv, e]⟩
    · have hx' : x ∈ fs.map (·.nm) := by
        rcases List.mem_cons.mp hx with q | q
        · exact absurd q.symm e
        · exact q
      obtain ⟨j, h1, h2, h3⟩ := fv_ok (cs := cs) (by simpa using h) hx'
      refine ⟨j + 1, fun m g q hg => ?_, h2, by simpa [fv, e] using h3⟩
      cases m with
      | zero =>
        have : f = g := by simpa using hg
        rw [← this]; exact e
      | succ m => exact h1 m g (by omega) (by simpa using hg)
def spf (c : Cd) (cs : List Int) (ks : Kn) (t : Tm) (l : Str) : Bool := match clOf t.cls l with
  | some a => a.cond.cn (fv c.fs cs) (vl ks)
  | none => false
def amf (c : Cd) (cs : List Int) (ks : Kn) (t : Tm) (l : Str) : Int := match clOf t.cls l with
  | some a => a.am.am (fv c.fs cs) (vl ks)
  | none => 0
def ocOf (am : Str → Int) : List Str → Oc
  | [] => .gap
  | [l] => .told (am l) l
  | a :: b :: _ => .clash a b
def lacks (ks : Kn) (t : Tm) (o : Str) : Bool := decide (o ∈ useT t) && !isTold ks o
def outT (c : Cd) (cs : List Int) (ks : Kn) (t : Tm) : Oc := match c.nms.find? (lacks ks t) with
  | some o => .waits o
  | none => ocOf (amf c cs ks t) (hear t.cls (spf c cs ks t) (t.cls.length + 1) none)
def outsA (c : Cd) (cs : List Int) : List Tm → Kn → Kn
  | [], ks => ks
  | t :: ts, ks => outsA c cs ts (ks ++ [(t.nm, outT c cs ks t)])
def outs (c : Cd) (cs : List Int) : Kn := outsA c cs c.ts []
theorem kn_get {ks : Kn} {x : Str} : getD (ks.map fun p => ((.inr p.1 : Key), p.2.d)) (.inr x) = (kn ks x).map Oc.d := by
  rw [getD_map]
  rfl
theorem kn_mem {ks : Kn} (h : (ks.map (·.1)).Nodup) {p : Str × Oc} (hp : p ∈ ks) : kn ks p.1 = some p.2 := by
  unfold kn
  induction ks with
  | nil => cases hp
  | cons q ks ih =>
    rcases List.mem_cons.mp hp with e | hp
    · subst e
      simp
    · rw [List.map_cons, List.nodup_cons] at h
      have ne : q.1 ≠ p.1 := fun e => h.1 (e ▸ List.mem_map.mpr ⟨p, hp, rfl⟩)
      rw [List.find?_cons_of_neg (by simpa using ne)]
      exact ih h.2 hp
theorem kn_some {ks : Kn} {x : Str} {o : Oc} (h : kn ks x = some o) : (x, o) ∈ ks := by
  unfold kn at h
  obtain ⟨p, hp, e⟩ := Option.map_eq_some_iff.mp h
  have h1 := List.find?_some hp
  have h2 := List.mem_of_find?_eq_some hp
  have : p.1 = x := by simpa using h1
  subst this e
  exact h2
/-! no object, no list inside -/
theorem noRef_map {α : Type} {f : α → D} : ∀ {xs : List α}, (∀ x ∈ xs, noRef (f x) = true) → noRef.noRefL (xs.map f) = true
  | [], _ => rfl
  | x :: xs, h => by
    show (noRef (f x) && noRef.noRefL (xs.map f)) = true
    rw [h x List.mem_cons_self, noRef_map fun y hy => h y (List.mem_cons_of_mem _ hy)]
    rfl
theorem noRefK_map {α : Type} {k : α → Key} {f : α → D} : ∀ {xs : List α}, (∀ x ∈ xs, noRef (f x) = true) → noRef.noRefK (xs.map fun x => (k x, f x)) = true
  | [], _ => rfl
  | x :: xs, h => by
    show (noRef (f x) && noRef.noRefK (xs.map fun x => (k x, f x))) = true
    rw [h x List.mem_cons_self, noRefK_map fun y hy => h y (List.mem_cons_of_mem _ hy)]
    rfl
@[simp] theorem nr_tr (t : Tr) : noRef t.d = true := by
  induction t with
  | times i a ih => show (true && (true && (noRef a.d && true))) = true; rw [ih]; rfl
  | part a i ih => show (true && (noRef a.d && (true && true))) = true; rw [ih]; rfl
  | nt a ih => show (true && (noRef a.d && true)) = true; rw [ih]; rfl
  | bin o a b iha ihb => show (true && (noRef a.d && (noRef b.d && true))) = true; rw [iha, ihb]; rfl
  | _ => rfl
@[simp] theorem nr_fact (f : Fact) : noRef f.d = true := by
  show (true && (true && (true && (noRef.noRefL (f.ws.map .str) && true)))) = true
  rw [noRef_map fun _ _ => rfl]
  rfl
@[simp] theorem nr_cl (c : Cl) : noRef c.d = true := by
  show (true && (noRef c.cond.d && (noRef c.am.d && (noRef (ovD c.over) && true)))) = true
  rw [nr_tr, nr_tr]
  cases c.over <;> rfl
@[simp] theorem nr_tm (t : Tm) : noRef t.d = true := by
  show (true && (noRef.noRefL (t.cls.map Cl.d) && true)) = true
  rw [noRef_map fun c _ => nr_cl c]
  rfl
@[simp] theorem nr_cd (c : Cd) : noRef c.d = true := by
  show (noRef.noRefL (c.fs.map Fact.d) && (noRef.noRefL (c.ts.map Tm.d) && true)) = true
  rw [noRef_map fun c _ => nr_fact c, noRef_map fun c _ => nr_tm c]
  rfl
@[simp] theorem nr_oc (o : Oc) : noRef o.d = true := by cases o <;> rfl
@[simp] theorem fl_oc (o : Oc) : flat o.d = true := by cases o <;> rfl
@[simp] theorem nr_kd (ks : Kn) : noRef (kd ks) = true := noRefK_map fun p _ => nr_oc p.2
@[simp] theorem nr_ints (cs : List Int) : noRef (.tup (cs.map .int)) = true := noRef_map fun _ _ => rfl
@[simp] theorem nr_strs (cs : List Str) : noRef (.tup (cs.map .str)) = true := noRef_map fun _ _ => rfl
@[simp] theorem nr_str (x : Str) : noRef (.str x) = true := id rfl
@[simp] theorem nr_int (x : Int) : noRef (.int x) = true := id rfl
@[simp] theorem mapM_0 {f : D × Tg → Option D} : List.mapM f [] = some [] := by simp
@[simp] theorem mapM_1 {f : D × Tg → Option D} {a : D × Tg} {l : List (D × Tg)} : List.mapM f (a :: l) = (f a).bind fun b => (List.mapM f l).bind fun bs => some (b :: bs) := by
  rw [List.mapM_cons]; rfl
variable {G : Nat → Option D} {mh : List (List D)}
/-! ### term_outcome -/
/-- slots of term_outcome -/
abbrev tst (c : Cd) (t : Tm) (cs : List Int) (ks : Kn) (o5 o7 o8 o9 : Option (D × Bool)) (mh : List (List D)) : S := ⟨[some (c.d, false), some (.str t.nm, false), some (.tup (cs.map .int), false), some (kd ks, false), some (.tup (t.cls.map Cl.d), false), o5, none, o7, o8, o9, none], mh⟩
structure TOk (c : Cd) (cs : List Int) (ks : Kn) (t : Tm) : Prop where
  K : CdOk c
  tm : t ∈ c.ts
  cs : cs.length = c.fs.length
  nd : (ks.map (·.1)).Nodup
  kl : ks.length ≤ 8
  us : ∀ y ∈ useT t, ∃ o, kn ks y = some o
theorem TOk.cl {c : Cd} {cs : List Int} {ks : Kn} {t : Tm} (T : TOk c cs ks t) : ∃ b, ∀ a ∈ t.cls, ClOk c.fs b a := by
  obtain ⟨i, hi⟩ := List.mem_iff_getElem?.mp T.tm
  exact ⟨_, fun a ha => T.K.cs i t hi a ha⟩
section
variable {c : Cd} {cs : List Int} {ks : Kn} {t : Tm} (T : TOk c cs ks t)
include T
theorem w_to_any {k : Nat} {x : Str} {o7 o8 o9 : Option (D × Bool)} : (sm G (evF G pT (k + 1)) e_term_outcome_1).v (tst c t cs ks (some (.str x, false)) o7 o8 o9 mh) = some (.lst (t.cls.map fun a => .bl (decide (x ∈ a.cond.terms) || decide (x ∈ a.am.terms))), .fr, tst c t cs ks (some (.str x, false)) o7 o8 o9 mh) := by
  rw [e_term_outcome_1, y_lc]
  obtain ⟨b, hb⟩ := T.cl
  have := lcF_gen (e := Cl.d) (own := [6]) (tg := .nm 6) (it := (sm G (evF G pT (k + 1)) (.v 4)).i) (cd := (sm G (evF G pT (k + 1)) .nop).c) (el := (sm G (evF G pT (k + 1)) (.cmp .inn (.v 5) (.bin .add (.call i_names_in false (.cons (.ix (.v 6) (.cint 1)) (.cons (.cstr ⟨#[116, 101, 114, 109]⟩) .nil))) (.call i_names_in false (.cons (.ix (.v 6) (.cint 2)) (.cons (.cstr ⟨#[116, 101, 114, 109]⟩) .nil)))))).v) (s0 := tst c t cs ks (some (.str x, false)) o7 o8 o9 mh) (tst c t cs ks (some (.str x, false)) o7 o8 o9 mh) (ds := t.cls)
    (fun a => ⟨[some (c.d, false), some (.str t.nm, false), some (.tup (cs.map .int), false), some (kd ks, false), some (.tup (t.cls.map Cl.d), false), some (.str x, false), some (a.d, false), o7, o8, o9, none], mh⟩)
    (fun _ => true) (fun a => .bl (decide (x ∈ a.cond.terms) || decide (x ∈ a.am.terms))) (by simp) (fun _ _ => rfl) (fun _ _ => rfl) (fun _ _ => rfl) (fun a ha _ => by
      have o := hb a ha
      obtain ⟨xs, x1, x2, e1⟩ := w_names_in (G := G) true (o.cz.n true) o.cz.z k mh
      obtain ⟨ys, y1, y2, e2⟩ := w_names_in (G := G) true (o.az.n true) o.az.z k mh
      have e1 : evF G pT (k + 1) i_names_in [a.cond.d, .str ⟨#[116, 101, 114, 109]⟩] mh = some (.lst (xs.map .str), mh) := e1
      have e2 : evF G pT (k + 1) i_names_in [a.am.d, .str ⟨#[116, 101, 114, 109]⟩] mh = some (.lst (ys.map .str), mh) := e2
      have r1 : rmE (xs.length + ys.length) = some () := rmE_of (by omega)
      have em : copD .inn (.str x) (.lst (xs.map .str ++ ys.map .str)) = some (decide (x ∈ xs) || decide (x ∈ ys)) := by rw [← List.map_append, z_inS]; simp
      have q1 := x1 x
      have q2 := y1 x
      simp only [Tr.nms, if_true] at q1 q2
      simp [e1, e2, r1, em, q1, q2]) (by have := T.K.cl t T.tm; omega)
  rw [filter_t] at this
  exact this
theorem w_to_loop {k : Nat} : ∃ o, forLoop (bdN (.nm 5)) (cm G (evF G pT (k + 1)) c_term_outcome_1) (c.nms.map .str) (tst c t cs ks none none none none mh) = some o ∧
    ((∃ x s', c.nms.find? (lacks ks t) = some x ∧ o = .rt (Oc.waits x).d s' ∧ s'.mh = mh) ∨ (c.nms.find? (lacks ks t) = none ∧ ∃ o5, o = .nx (tst c t cs ks o5 none none none mh))) := by
  refine for_ind (bd := bdN (.nm 5)) (e := D.str) (fun as s => c.nms.find? (lacks ks t) = as.find? (lacks ks t) ∧ ∃ o5, s = tst c t cs ks o5 none none none mh) _ ?_ ?_ c.nms _ ⟨rfl, none, rfl⟩
  · rintro s ⟨h, o5, rfl⟩
    exact .inr ⟨h, o5, rfl⟩
  · rintro x as s P ⟨h, o5, rfl⟩ hP
    have ea := w_to_any (G := G) (mh := mh) T (k := k) (x := x) (o7 := none) (o8 := none) (o9 := none)
    have ez : b1D .any (.lst (t.cls.map fun a => .bl (decide (x ∈ a.cond.terms) || decide (x ∈ a.am.terms)))) = some (.bl (decide (x ∈ useT t)), .st) := by
      rw [z_any]
      congr 3
      rw [Bool.eq_iff_iff]
      simp only [List.any_eq_true, decide_eq_true_eq, useT, List.mem_flatMap, Bool.or_eq_true, List.mem_append]
    simp [c_term_outcome_1, ea, ez]
    by_cases hu : x ∈ useT t
    · obtain ⟨o, ho⟩ := T.us x hu
      have hg : itemD (kd ks) (.str x) = some o.d := by
        show getD _ (.inr x) = _
        rw [kn_get, ho]; rfl
      have ew : (o.w == (⟨#[116, 111, 108, 100]⟩ : Str)) = o.isT := Oc.wT
      have it : isTold ks x = o.isT := by unfold isTold; rw [ho]
      cases hT : o.isT with
      | true =>
        rw [hT] at ew it
        simp [hu, hg, ew]
        refine hP _ ⟨?_, _, rfl⟩
        rw [h, List.find?_cons_of_neg (by simp [lacks, it])]
      | false =>
        rw [hT] at ew it
        simp [hu, hg, ew]
        refine hP _ (.inl ⟨x, _, ?_, rfl, rfl⟩)
        rw [h, List.find?_cons_of_pos (by simp [lacks, it, hu])]
    · simp [hu]
      refine hP _ ⟨?_, _, rfl⟩
      rw [h, List.find?_cons_of_neg (by simp [lacks, hu])]
/-- the values of what is told -/
def vkn (ks : Kn) : List (Str × Int) := (ks.filter fun p => p.2.isT).map fun p => (p.1, p.2.val)
def vd (vs : List (Str × Int)) : D := .dct (vs.map fun p => (.inr p.1, .int p.2))
theorem w_to_vals {k : Nat} {o5 : Option (D × Bool)} : (sm G (evF G pT k) e_term_outcome_2).v (tst c t cs ks o5 none none none mh) = some (vd (vkn ks), .fr, tst c t cs ks o5 none none none mh) := by
  rw [e_term_outcome_2, y_dk]
  refine (dkF_gen (own := [5]) (ds := ks) (ks := ks.map fun p => (.inr p.1, p.2.d)) (o := false) (s1 := tst c t cs ks o5 none none none mh) (fun p => .inr p.1) (by simp) (fun p => tst c t cs ks (some (.str p.1, false)) none none none mh) (fun p => p.2.isT) (fun p => .inr p.1) (fun p => .int p.2.val) rfl rfl (fun _ _ => rfl) (fun _ _ => rfl) (fun p hp => ?_) (fun p hp _ => by simp) (fun p hp h => ?_) (by have := T.kl; omega)).trans ?_
  · have hg : itemD (kd ks) (.str p.1) = some p.2.d := by
      show getD _ (.inr p.1) = _
      rw [kn_get, kn_mem T.nd hp]; rfl
    have ew : (p.2.w == (⟨#[116, 111, 108, 100]⟩ : Str)) = p.2.isT := Oc.wT
    simp [hg, ew]
  · have hg : itemD (kd ks) (.str p.1) = some p.2.d := by
      show getD _ (.inr p.1) = _
      rw [kn_get, kn_mem T.nd hp]; rfl
    simp [hg, Oc.d1 h]
  · have e := putD_fold (f := D.int) (xs := vkn ks) (ks := []) (by
      unfold vkn
      rw [List.nil_append, List.map_map]
      exact T.nd.sublist ((List.filter_sublist).map _))
    unfold vd
    rw [List.nil_append] at e
    rw [← e]
    unfold vkn
    rw [List.map_map]
    rfl
omit T in
theorem vkn_get {ks : Kn} (nd : (ks.map (·.1)).Nodup) {x : Str} (h : isTold ks x = true) : getD ((vkn ks).map fun p => ((.inr p.1 : Key), D.int p.2)) (.inr x) = some (.int (vl ks x)) := by
  unfold isTold at h
  cases ho : kn ks x with
  | none => rw [ho] at h; cases h
  | some o =>
    rw [ho] at h
    have hm := kn_some ho
    rw [getD_map]
    have hv : vl ks x = o.val := by unfold vl; rw [ho]
    have : (vkn ks).find? (fun p => p.1 == x) = some (x, o.val) := by
      cases e : (vkn ks).find? (fun p => p.1 == x) with
      | none =>
        have := List.find?_eq_none.mp e (x, o.val) (List.mem_map.mpr ⟨(x, o), List.mem_filter.mpr ⟨hm, h⟩, rfl⟩)
        simp at this
      | some q =>
        have h1 := List.find?_some e
        obtain ⟨p, h2, h3⟩ := List.mem_map.mp (List.mem_of_find?_eq_some e)
        have h4 := (List.mem_filter.mp h2).1
        have h5 : p.1 = x := by rw [← h3] at h1; simpa using h1
        have h6 := kn_mem nd h4
        rw [h5, ho] at h6
        cases h6
        rw [← h3, h5]
    rw [this, hv]
    rfl
theorem w_to_cond {k : Nat} {a : Cl} (ha : a ∈ t.cls) (hn : c.nms.find? (lacks ks t) = none) : evF G pT (k + 22) i_truth_in [a.cond.d, .tup (c.fs.map Fact.d), .tup (cs.map .int), vd (vkn ks)] mh = some (.bl (spf c cs ks t a.lab), mh) := by
  obtain ⟨b, hb⟩ := T.cl
  have o := hb a ha
  have e := w_truth (G := G) (mh := mh) (fs := c.fs) (cs := cs) (ks := (vkn ks).map fun p => (.inr p.1, .int p.2)) (cv := fv c.fs cs) (kv := vl ks) (by have := T.K.fl; omega) a.cond o.cc (fun x hx => fv_ok T.cs (o.cf x hx)) (fun x hx => vkn_get T.nd (by
    have := List.find?_eq_none.mp hn x (T.K.used T.tm (List.mem_flatMap.mpr ⟨a, ha, List.mem_append_left _ hx⟩))
    unfold lacks at this
    have hu : x ∈ useT t := List.mem_flatMap.mpr ⟨a, ha, List.mem_append_left _ hx⟩
    simpa [hu] using this)) (k + 20 - a.cond.depth)
  rw [show k + 20 - a.cond.depth + a.cond.depth + 2 = k + 22 by have := o.cd; omega] at e
  rw [show spf c cs ks t a.lab = a.cond.cn (fv c.fs cs) (vl ks) by unfold spf; rw [clOf_mem (T.K.ok t T.tm).nd ha]]
  exact e
theorem w_to_am {k : Nat} {a : Cl} (ha : a ∈ t.cls) (hn : c.nms.find? (lacks ks t) = none) : evF G pT (k + 22) i_amount_in [a.am.d, .tup (c.fs.map Fact.d), .tup (cs.map .int), vd (vkn ks)] mh = some (.int (amf c cs ks t a.lab), mh) := by
  obtain ⟨b, hb⟩ := T.cl
  have o := hb a ha
  have e := w_amount (G := G) (mh := mh) (fs := c.fs) (cs := cs) (ks := (vkn ks).map fun p => (.inr p.1, .int p.2)) (cv := fv c.fs cs) (kv := vl ks) (by have := T.K.fl; omega) a.am o.ca (fun x hx => fv_ok T.cs (o.af x hx)) (fun x hx => vkn_get T.nd (by
    have := List.find?_eq_none.mp hn x (T.K.used T.tm (List.mem_flatMap.mpr ⟨a, ha, List.mem_append_right _ hx⟩))
    unfold lacks at this
    have hu : x ∈ useT t := List.mem_flatMap.mpr ⟨a, ha, List.mem_append_right _ hx⟩
    simpa [hu] using this)) (k + 20 - a.am.depth)
  rw [show k + 20 - a.am.depth + a.am.depth + 2 = k + 22 by have := o.ad; omega] at e
  rw [show amf c cs ks t a.lab = a.am.am (fv c.fs cs) (vl ks) by unfold amf; rw [clOf_mem (T.K.ok t T.tm).nd ha]]
  exact e
theorem w_to_sp {k : Nat} {o5 : Option (D × Bool)} (hn : c.nms.find? (lacks ks t) = none) : ∃ b, (sm G (evF G pT (k + 22)) e_term_outcome_3).v (tst c t cs ks o5 (some (vd (vkn ks), true)) none none mh) = some (.dct (t.cls.map fun a => (.inr a.lab, .bl (spf c cs ks t a.lab))), .fr, tst c t cs ks o5 (some (vd (vkn ks), b)) none none mh) := by
  rw [e_term_outcome_3, y_dc]
  have e := putD_fold (f := D.bl) (xs := t.cls.map fun a => (a.lab, spf c cs ks t a.lab)) (ks := []) (by
    rw [List.nil_append, List.map_map]
    exact (T.K.ok t T.tm).nd)
  obtain ⟨w, ⟨b, rfl⟩, h⟩ := dcF_inv (own := [6]) (tg := .nm 6) (e := Cl.d) (ds := t.cls) (it := (sm G (evF G pT (k + 22)) (.v 4)).i) (cd := (sm G (evF G pT (k + 22)) .nop).c) (ky := (sm G (evF G pT (k + 22)) (.ix (.v 6) (.cint 0))).v) (el := (sm G (evF G pT (k + 22)) (.call i_truth_in false (.cons (.ix (.v 6) (.cint 1)) (.cons (.ix (.v 0) (.cint 0)) (.cons (.v 2) (.cons (.v 7) .nil)))))).v)
    (s0 := tst c t cs ks o5 (some (vd (vkn ks), true)) none none mh) (tst c t cs ks o5 (some (vd (vkn ks), true)) none none mh) (fun w => ∃ b, w = tst c t cs ks o5 (some (vd (vkn ks), b)) none none mh) (fun _ => true) (fun a => .inr a.lab) (fun a => .bl (spf c cs ks t a.lab)) (by simp) ⟨true, rfl⟩ (by
      rintro a ha w ⟨b, rfl⟩
      have ec := w_to_cond (G := G) (mh := mh) T (k := k) ha hn
      refine ⟨_, _, rfl, rfl, (fun h => by cases h), fun _ => ⟨⟨[some (c.d, false), some (.str t.nm, false), some (.tup (cs.map .int), false), some (kd ks, false), some (.tup (t.cls.map Cl.d), false), o5, some (a.d, false), some (vd (vkn ks), b), none, none, none], mh⟩, ⟨[some (c.d, false), some (.str t.nm, false), some (.tup (cs.map .int), false), some (kd ks, false), some (.tup (t.cls.map Cl.d), false), o5, some (a.d, false), some (vd (vkn ks), false), none, none, none], mh⟩, by simp, ?_, false, rfl⟩⟩
      cases b <;> simp [ec]) (by have := T.K.cl t T.tm; omega)
  refine ⟨b, h.trans ?_⟩
  rw [filter_t]
  rw [List.nil_append, List.map_map] at e
  rw [show (t.cls.map fun a => ((.inr a.lab : Key), D.bl (spf c cs ks t a.lab))).foldl (fun a k => putD a k.1 k.2) [] = t.cls.map fun a => ((.inr a.lab : Key), D.bl (spf c cs ks t a.lab)) from e]
  rfl
omit T in
theorem head_find {α : Type} {p : α → Bool} {l : List α} {a : α} (h : l.find? p = some a) : ∃ r, l.filter p = a :: r := by
  have := List.head?_filter (p := p) (l := l)
  rw [h] at this
  cases e : l.filter p with
  | nil => rw [e] at this; cases this
  | cons b r => rw [e] at this; cases this; exact ⟨r, rfl⟩
theorem w_to_pick {F : Fn} {l : Str} {a : Cl} {o5 o7 o8 : Option (D × Bool)} {b : Bool} (h : clOf t.cls l = some a) : ∃ r, (sm G F e_term_outcome_4).v (tst c t cs ks o5 o7 o8 (some (.str l, b)) mh) = some (.lst (a.am.d :: r), .fr, tst c t cs ks o5 o7 o8 (some (.str l, b)) mh) := by
  obtain ⟨r, hr⟩ := head_find h
  refine ⟨r.map fun a => a.am.d, ?_⟩
  rw [e_term_outcome_4, y_lc]
  have := lcF_gen (e := Cl.d) (own := [6]) (tg := .nm 6) (it := (sm G F (.v 4)).i) (cd := (sm G F (.cmp .eq (.ix (.v 6) (.cint 0)) (.v 9))).c) (el := (sm G F (.ix (.v 6) (.cint 2))).v) (s0 := tst c t cs ks o5 o7 o8 (some (.str l, b)) mh) (tst c t cs ks o5 o7 o8 (some (.str l, b)) mh) (ds := t.cls)
    (fun a => ⟨[some (c.d, false), some (.str t.nm, false), some (.tup (cs.map .int), false), some (kd ks, false), some (.tup (t.cls.map Cl.d), false), o5, some (a.d, false), o7, o8, some (.str l, b), none], mh⟩) (fun a => a.lab == l) (fun a => a.am.d) (by simp) (fun _ _ => rfl) (fun _ _ => rfl) (fun _ _ => by cases b <;> simp) (fun _ _ _ => by simp) (by have := T.K.cl t T.tm; omega)
  rw [hr] at this
  exact this
theorem w_term_outcome {k : Nat} : evF G pT (k + 60) i_term_outcome [c.d, .str t.nm, .tup (cs.map .int), kd ks] mh = some ((outT c cs ks t).d, mh) := by
  rw [r_term_outcome]
  have e0 := w_clauses (G := G) (mh := mh) (k := k + 58) (T.K.tm T.tm)
  have hn := w_names (G := G) (mh := mh) (k := k + 58) (c := c) (by have := T.K.tl; omega)
  have hn' : evF G pT (k + 59) i_term_names [c.d] mh = some (.lst (c.nms.map .str), mh) := by rw [hn]; simp [Cd.nms]
  obtain ⟨o, e1, h1⟩ := w_to_loop (G := G) (mh := mh) T (k := k + 58)
  have e1' : forLoop (bdN (.nm 5)) (cm G (evF G pT (k + 59)) c_term_outcome_1) (c.nms.map .str) ⟨[some (c.d, false), some (.str t.nm, false), some (.tup (cs.map .int), false), some (kd ks, false), some (.tup (t.cls.map Cl.d), false), none, none, none, none, none, none], mh⟩ = some o := e1
  rcases h1 with ⟨x, s', h1, rfl, h2⟩ | ⟨h1, o5, rfl⟩
  · simp [c_term_outcome, e0, hn', e1', h2]
    unfold outT
    rw [h1]
  · have e2 := w_to_vals (G := G) (mh := mh) T (k := k + 59) (o5 := o5)
    obtain ⟨b, e3⟩ := w_to_sp (G := G) (mh := mh) T (k := k + 37) (o5 := o5) h1
    have hl : t.cls.length ≤ 24 := T.K.cl t T.tm
    have nd := (T.K.ok t T.tm).nd
    have e4 := w_decided (G := G) (mh := mh) (cls := t.cls) (ks := t.cls.map fun a => (.inr a.lab, .bl (spf c cs ks t a.lab))) (sp := spf c cs ks t) (by omega) (fun a ha => by
      have := getD_map (f := D.bl) (ks := t.cls.map fun a => (a.lab, spf c cs ks t a.lab)) (x := a.lab)
      rw [List.map_map] at this
      refine this.trans ?_
      rw [List.find?_map]
      have h2 : t.cls.find? ((fun p : Str × Bool => p.1 == a.lab) ∘ fun a => (a.lab, spf c cs ks t a.lab)) = some a := clOf_mem nd ha
      rw [h2]
      rfl) t.cls.length (ht_all (T.K.ok t T.tm)) (k + 56 - 2 * t.cls.length)
    rw [show k + 56 - 2 * t.cls.length + 2 * t.cls.length + 3 = k + 59 by omega] at e4
    simp [c_term_outcome, e0, hn', e1']
    have un : outT c cs ks t = ocOf (amf c cs ks t) (hear t.cls (spf c cs ks t) (t.cls.length + 1) none) := by unfold outT; rw [h1]
    rw [un]
    have h5 := fun L => hear_one (sp := spf c cs ks t) (T.K.ok t T.tm) t.cls.length none L (ht_all (T.K.ok t T.tm))
    have hle := hear_le (cls := t.cls) (sp := spf c cs ks t) (t.cls.length + 1) none
    generalize hear t.cls (spf c cs ks t) (t.cls.length + 1) none = hh at e4 h5 hle
    match hh, e4, h5, hle with
    | [], e4, _, _ => simp [e2, e3, e4, hD, ocOf, Oc.d, wGap]
    | [l], e4, h5, _ =>
      obtain ⟨d, hd, e, _⟩ := h5 l rfl
      subst e
      obtain ⟨r, e5⟩ := w_to_pick (G := G) (mh := mh) T (F := evF G pT (k + 59)) (o5 := o5) (o7 := some (vd (vkn ks), b)) (o8 := some (.dct (t.cls.map fun a => (.inr a.lab, .bl (spf c cs ks t a.lab))), false)) (b := false) (clOf_mem nd hd)
      have e6 := w_to_am (G := G) (mh := mh) T (k := k + 37) hd h1
      cases b <;> simp [e2, e3, e4, hD, ocOf, Oc.d, wTold, e5, e6]
    | [x, y], e4, _, _ => cases b <;> simp [e2, e3, e4, hD, ocOf, Oc.d, wClash]
    | x :: y :: z :: r, _, _, hle => simp at hle
end
end E3
set_option linter.all false
set_option maxRecDepth 100000
set_option maxHeartbeats 2000000
namespace E3
open PySem L2
/-! ### all outcomes -/
theorem Tr.am_congr {cv cv' kv kv' : Str → Int} : ∀ (t : Tr), (∀ x ∈ t.facts, cv x = cv' x) → (∀ x ∈ t.terms, kv x = kv' x) → t.am cv kv = t.am cv' kv' := by
  intro t
  induction t with
  | num i => intro _ _; rfl
  | fact x => intro h _; exact h x (by simp [Tr.facts])
  | term x => intro _ h; exact h x (by simp [Tr.terms])
  | tru => intro _ _; rfl
  | times i a ih => intro h g; simp only [Tr.am]; rw [ih h g]
  | part a i ih => intro h g; simp only [Tr.am]; rw [ih h g]
  | nt a ih => intro h g; rfl
  | bin o a b iha ihb =>
    intro h g
    have ea := iha (fun x q => h x (List.mem_append_left _ q)) (fun x q => g x (List.mem_append_left _ q))
    have eb := ihb (fun x q => h x (List.mem_append_right _ q)) (fun x q => g x (List.mem_append_right _ q))
    cases o <;> simp only [Tr.am, ea, eb]
theorem Tr.cn_congr {cv cv' kv kv' : Str → Int} : ∀ (t : Tr), (∀ x ∈ t.facts, cv x = cv' x) → (∀ x ∈ t.terms, kv x = kv' x) → t.cn cv kv = t.cn cv' kv' := by
  intro t
  induction t with
  | nt a ih => intro h g; simp only [Tr.cn]; rw [ih h g]
  | bin o a b iha ihb =>
    intro h g
    have ha := (fun x (q : x ∈ a.facts) => h x (List.mem_append_left b.facts q))
    have hb := (fun x (q : x ∈ b.facts) => h x (List.mem_append_right a.facts q))
    have ga := (fun x (q : x ∈ a.terms) => g x (List.mem_append_left b.terms q))
    have gb := (fun x (q : x ∈ b.terms) => g x (List.mem_append_right a.terms q))
    cases o <;> simp only [Tr.cn, iha ha ga, ihb hb gb, Tr.am_congr a ha ga, Tr.am_congr b hb gb]
  | _ => intro _ _; rfl
theorem outT_congr {c : Cd} {cs : List Int} {ks ks' : Kn} {t : Tm} (h : ∀ y ∈ useT t, kn ks y = kn ks' y) : outT c cs ks t = outT c cs ks' t := by
  have e1 : lacks ks t = lacks ks' t := by
    funext o
    unfold lacks isTold
    by_cases q : o ∈ useT t
    · rw [h o q]
    · simp [q]
  have hv : ∀ y ∈ useT t, vl ks y = vl ks' y := fun y hy => by unfold vl; rw [h y hy]
  have e2 : spf c cs ks t = spf c cs ks' t := by
    funext l
    unfold spf
    cases hl : clOf t.cls l with
    | none => rfl
    | some a => exact Tr.cn_congr _ (fun _ _ => rfl) fun x hx => hv x (List.mem_flatMap.mpr ⟨a, (clOf_lab hl).1, List.mem_append_left _ hx⟩)
  have e3 : amf c cs ks t = amf c cs ks' t := by
    funext l
    unfold amf
    cases hl : clOf t.cls l with
    | none => rfl
    | some a => exact Tr.am_congr _ (fun _ _ => rfl) fun x hx => hv x (List.mem_flatMap.mpr ⟨a, (clOf_lab hl).1, List.mem_append_right _ hx⟩)
  unfold outT
  rw [e1, e2, e3]
theorem outsA_keys {c : Cd} {cs : List Int} : ∀ {ts : List Tm} {ks : Kn}, (outsA c cs ts ks).map (·.1) = ks.map (·.1) ++ ts.map (·.nm)
  | [], ks => by simp [outsA]
  | t :: ts, ks => by
    show (outsA c cs ts (ks ++ [(t.nm, outT c cs ks t)])).map (·.1) = _
    rw [outsA_keys]
    simp
theorem outs_keys {c : Cd} {cs : List Int} : (outs c cs).map (·.1) = c.nms := by
  unfold outs
  rw [outsA_keys]
  rfl
theorem kn_app {ks ms : Kn} {x : Str} (h : x ∈ ks.map (·.1)) : kn (ks ++ ms) x = kn ks x := by
  unfold kn
  rw [List.find?_append]
  have : (ks.find? fun p => p.1 == x).isSome = true := by
    rw [List.find?_isSome]
    obtain ⟨p, hp, e⟩ := List.mem_map.mp h
    exact ⟨p, hp, by simpa using e⟩
  cases e : ks.find? fun p => p.1 == x with
  | none => rw [e] at this; cases this
  | some p => rfl
theorem kn_isSome {ks : Kn} {x : Str} (h : x ∈ ks.map (·.1)) : ∃ o, kn ks x = some o := by
  have : (ks.find? fun p => p.1 == x).isSome = true := by
    rw [List.find?_isSome]
    obtain ⟨p, hp, e⟩ := List.mem_map.mp h
    exact ⟨p, hp, by simpa using e⟩
  unfold kn
  cases e : ks.find? fun p => p.1 == x with
  | none => rw [e] at this; cases this
  | some p => exact ⟨p.2, rfl⟩
theorem outsA_ext {c : Cd} {cs : List Int} : ∀ {ts : List Tm} {ks : Kn}, ∃ ms, outsA c cs ts ks = ks ++ ms
  | [], ks => ⟨[], by simp [outsA]⟩
  | t :: ts, ks => by
    obtain ⟨ms, e⟩ := outsA_ext (c := c) (cs := cs) (ts := ts) (ks := ks ++ [(t.nm, outT c cs ks t)])
    exact ⟨(t.nm, outT c cs ks t) :: ms, by show outsA c cs ts _ = _; rw [e]; simp⟩
/-- each outcome, by all of them -/
theorem outs_fix {c : Cd} (K : CdOk c) (cs : List Int) {t : Tm} (ht : t ∈ c.ts) : kn (outs c cs) t.nm = some (outT c cs (outs c cs) t) := by
  have go : ∀ (as : List Tm) (done : List Tm) (ks : Kn), c.ts = done ++ as → ks.map (·.1) = done.map (·.nm) → outsA c cs as ks = outs c cs → ∀ t ∈ as, kn (outs c cs) t.nm = some (outT c cs (outs c cs) t) := by
    intro as
    induction as with
    | nil => intro _ _ _ _ _ t h; cases h
    | cons a as ih =>
      intro done ks h1 h2 h3 t ht
      have h4 : outsA c cs as (ks ++ [(a.nm, outT c cs ks a)]) = outs c cs := h3
      rcases List.mem_cons.mp ht with e | ht
      · subst e
        obtain ⟨ms, e⟩ := outsA_ext (c := c) (cs := cs) (ts := as) (ks := ks ++ [(t.nm, outT c cs ks t)])
        rw [h4] at e
        have nt : t.nm ∉ ks.map (·.1) := by
          rw [h2]
          have := K.tn
          unfold Cd.nms at this
          rw [h1, List.map_append, List.nodup_append] at this
          exact fun q => this.2.2 _ q _ (by simp) rfl
        have e1 : kn (outs c cs) t.nm = some (outT c cs ks t) := by
          rw [e, kn_app (by simp)]
          unfold kn
          rw [List.find?_append]
          have : ks.find? (fun p => p.1 == t.nm) = none := List.find?_eq_none.mpr fun p hp q => nt (List.mem_map.mpr ⟨p, hp, by simpa using q⟩)
          rw [this]
          simp
        rw [e1, outT_congr fun y hy => ?_]
        have hi : c.ts[done.length]? = some t := by rw [h1]; simp
        have hb := K.before hi hy
        rw [show c.ts.take done.length = done by rw [h1]; simp, ← h2] at hb
        rw [e, List.append_assoc, kn_app hb]
      · refine ih (done ++ [a]) (ks ++ [(a.nm, outT c cs ks a)]) (by rw [h1]; simp) (by rw [List.map_append, List.map_append, h2]; rfl) h4 t ht
  exact go c.ts [] [] rfl rfl rfl t ht
variable {G : Nat → Option D} {mh : List (List D)}
theorem w_outcomes {c : Cd} (K : CdOk c) {cs : List Int} (hcs : cs.length = c.fs.length) {k : Nat} : evF G pT (k + 61) i_outcomes [c.d, .tup (cs.map .int)] mh = some (kd (outs c cs), mh) := by
  rw [r_outcomes]
  have hn := w_names (G := G) (mh := mh) (k := k + 59) (c := c) (by have := K.tl; omega)
  obtain ⟨o, e1, o3, h1⟩ := for_ind (bd := bdN (.nm 3)) (e := fun t : Tm => D.str t.nm) (body := cm G (evF G pT (k + 60)) c_outcomes_1)
    (fun as s => ∃ (done : List Tm) (ks : Kn) (o3 : Option (D × Bool)), c.ts = done ++ as ∧ ks.map (·.1) = done.map (·.nm) ∧ outsA c cs as ks = outs c cs ∧ s = ⟨[some (c.d, false), some (.tup (cs.map .int), false), some (kd ks, true), o3], mh⟩)
    (fun o => ∃ o3, o = .nx ⟨[some (c.d, false), some (.tup (cs.map .int), false), some (kd (outs c cs), true), o3], mh⟩)
    (fun s ⟨done, ks, o3, h1, h2, h3, h4⟩ => ⟨o3, by rw [h4, ← h3]; rfl⟩)
    (fun t as s P ⟨done, ks, o3, h1, h2, h3, h4⟩ hP => by
      subst h4
      have hi : c.ts[done.length]? = some t := by rw [h1]; simp
      have nd : ((ks.map (·.1)) ++ (t :: as).map (·.nm)).Nodup := by
        rw [h2, ← List.map_append, ← h1]
        exact K.tn
      have hl : ks.length ≤ 8 := by
        have h5 := K.tl
        have h6 : ks.length = done.length := by have := congrArg List.length h2; simpa using this
        rw [h1] at h5
        simp only [List.length_append] at h5
        omega
      have T : TOk c cs ks t := ⟨K, List.mem_of_getElem? hi, hcs, (List.nodup_append.mp nd).1, hl, fun y hy => kn_isSome (by
        have hb := K.before hi hy
        rw [show c.ts.take done.length = done by rw [h1]; simp, ← h2] at hb
        exact hb)⟩
      have e := w_term_outcome (G := G) (mh := []) T (k := k)
      have nt : t.nm ∉ ks.map (·.1) := fun q => (List.nodup_append.mp nd).2.2 _ q _ (by simp) rfl
      have hr : rmO ks.length = some () := rmO_of (by omega)
      have nk : noRef (.dct (ks.map fun p => (.inr p.1, p.2.d))) = true := nr_kd ks
      have e' : evF G pT (k + 60) i_term_outcome [c.d, .str t.nm, .tup (cs.map .int), .dct (ks.map fun p => (.inr p.1, p.2.d))] [] = _ := e
      have hp : putD (ks.map fun p => ((.inr p.1 : Key), p.2.d)) (.inr t.nm) (outT c cs ks t).d = (ks ++ [(t.nm, outT c cs ks t)]).map fun p => ((.inr p.1 : Key), p.2.d) := by
        rw [putD_new nt]; simp
      simp [c_outcomes_1, kd, nk, e', hr, hp]
      exact hP _ ⟨done ++ [t], ks ++ [(t.nm, outT c cs ks t)], _, by rw [h1]; simp, by rw [List.map_append, List.map_append, h2]; rfl, h3, by simp [kd]; rfl⟩)
    c.ts ⟨[some (c.d, false), some (.tup (cs.map .int), false), some (kd [], true), none], mh⟩ ⟨[], [], none, rfl, rfl, rfl, rfl⟩
  subst h1
  simp [c_outcomes, hn]
  have e2 : forLoop (bdN (.nm 3)) (cm G (evF G pT (k + 60)) c_outcomes_1) (c.ts.map fun t => D.str t.nm) ⟨[some (c.d, false), some (.tup (cs.map .int), false), some (.dct [], true), none], mh⟩ = _ := e1
  simp [e2]
end E3
set_option linter.all false
set_option maxRecDepth 100000
set_option maxHeartbeats 2000000
namespace E3
open PySem L2
variable {G : Nat → Option D} {mh : List (List D)}
/-! ### readings: over_all, way_to, silent_for -/
@[simp] theorem z_inNon {ys : List Str} : copD .inn .non (.lst (ys.map D.str)) = some false := mem_non
@[simp] theorem z_inNonC {y : Str} {ys : List Str} : copD .inn .non (.lst (.str y :: ys.map D.str)) = some false := mem_non (ys := y :: ys)
@[simp] theorem z_inSC {x y : Str} {ys : List Str} : copD .inn (.str x) (.lst (.str y :: ys.map D.str)) = some (decide (x ∈ y :: ys)) := z_inS (ys := y :: ys)
theorem anc_none {cls : List Cl} {c : Cl} (h : c.over = none) : anc cls c = [] := by unfold anc; rw [h]
section
variable {cls : List Cl} (O : OkL cls)
include O
theorem w_over_all {l : Str} (hl : cls.length ≤ 1000000) {k : Nat} : evF G pT (k + 1) i_over_all [.tup (cls.map Cl.d), .str l] mh = some (.lst ((ovAll cls l).map .str), mh) := by
  rw [r_over_all]
  obtain ⟨o, e1, o3, h1⟩ := for_ind (bd := bdN (.nm 3)) (e := Cl.d) (body := cm G (evF G pT k) c_over_all_1)
    (fun as s => ∃ (done : List Cl) (o3 : Option (D × Bool)), cls = done ++ as ∧ s = ⟨[some (.tup (cls.map Cl.d), false), some (.str l, false), some (.lst (.str l :: ((done.filter fun c => decide (l ∈ anc cls c)).map (·.lab)).map .str), true), o3], mh⟩)
    (fun o => ∃ o3, o = .nx ⟨[some (.tup (cls.map Cl.d), false), some (.str l, false), some (.lst (.str l :: (ovAll cls l).map .str), true), o3], mh⟩)
    (fun s ⟨done, o3, h1, h2⟩ => ⟨o3, by rw [h2]; rw [List.append_nil] at h1; rw [← h1]; rfl⟩)
    (fun c as s P ⟨done, o3, h1, h2⟩ hP => by
      subst h2
      have hc : c ∈ cls := by rw [h1]; simp
      have hi : cls[done.length]? = some c := by rw [h1]; simp
      have hd : (done.filter fun c => decide (l ∈ anc cls c)).length ≤ cls.length := Nat.le_trans (List.length_filter_le _ _) (by rw [h1]; simp)
      have hr : rmO ((done.filter fun c => decide (l ∈ anc cls c)).length + 1) = some () := rmO_of (by omega)
      have key : copD .inn (ovD c.over) (.lst (.str l :: ((done.filter fun c => decide (l ∈ anc cls c)).map (·.lab)).map .str)) = some (decide (l ∈ anc cls c)) := by
        cases ho : c.over with
        | none => rw [anc_none ho]; exact z_inNonC
        | some p =>
          obtain ⟨j, d, hj, hd, e⟩ := O.ov _ c hi p ho
          subst e
          have hdm : d ∈ cls := List.mem_of_getElem? hd
          have hdd : d ∈ done := by
            rw [h1, List.getElem?_append_left hj] at hd
            exact List.mem_of_getElem? hd
          rw [anc_some O ho hdm, way_eq O hdm]
          show copD .inn (.str d.lab) _ = _
          rw [z_inSC]
          congr 1
          rw [Bool.eq_iff_iff]
          simp only [decide_eq_true_eq, List.mem_cons, List.mem_map, List.mem_filter, List.mem_append, List.not_mem_nil, or_false]
          constructor
          · rintro (h | ⟨d', ⟨h2, h3⟩, h4⟩)
            · exact .inr h.symm
            · rw [nd_eq O.nd (by rw [h1]; exact List.mem_append_left _ h2) hdm h4] at h3
              exact .inl h3
          · rintro (h | h)
            · exact .inr ⟨d, ⟨hdd, h⟩, rfl⟩
            · exact .inl h.symm
      by_cases q : l ∈ anc cls c
      · simp [c_over_all_1, key, q, hr, -List.map_map]
        exact hP _ ⟨done ++ [c], some (c.d, false), by rw [h1]; simp, by rw [List.filter_append]; simp [q]⟩
      · simp [c_over_all_1, key, q, -List.map_map]
        exact hP _ ⟨done ++ [c], some (c.d, false), by rw [h1]; simp, by rw [List.filter_append]; simp [q]⟩)
    cls ⟨[some (.tup (cls.map Cl.d), false), some (.str l, false), some (.lst [.str l], true), none], mh⟩ ⟨[], none, rfl, rfl⟩
  subst h1
  simp [c_over_all, e1]
omit O in
theorem up_len : ∀ (n : Nat) (l : Str), (up cls n l).length ≤ n + 1
  | 0, l => by simp [up]
  | n + 1, l => by
    unfold up
    split
    · simp
    · rename_i p _
      have := up_len n p
      rw [List.length_append]
      simp only [List.length_cons, List.length_nil]
      omega
omit O in
theorem way_len {l : Str} : (way cls l).length ≤ cls.length + 1 := up_len _ _
theorem w_homes {F : Fn} {a : Option (D × Bool)} (hl : cls.length ≤ 1000000) : (sm G F e_way_to_1).v ⟨[some (.tup (cls.map Cl.d), false), a, none, none, none], mh⟩ = some (.dct (cls.map fun c => (.inr c.lab, ovD c.over)), .fr, ⟨[some (.tup (cls.map Cl.d), false), a, none, none, none], mh⟩) := by
  rw [e_way_to_1, y_dc]
  have e := putD_fold (f := ovD) (xs := cls.map fun c => (c.lab, c.over)) (ks := []) (by
    rw [List.nil_append, List.map_map]
    exact O.nd)
  rw [List.nil_append, List.map_map] at e
  refine (dcF_gen (own := [3]) (tg := .nm 3) (e := Cl.d) (ds := cls) ⟨[some (.tup (cls.map Cl.d), false), a, none, none, none], mh⟩ (fun c => ⟨[some (.tup (cls.map Cl.d), false), a, none, some (c.d, false), none], mh⟩) (fun _ => true) (fun c => .inr c.lab) (fun c => ovD c.over) (by simp) (fun _ _ => rfl) (fun _ _ => rfl) (fun _ _ => rfl) (fun _ _ _ => by simp) (fun _ _ _ => by simp) (by omega)).trans ?_
  rw [filter_t]
  rw [show (cls.map fun c => ((.inr c.lab : Key), ovD c.over)).foldl (fun a k => putD a k.1 k.2) [] = cls.map fun c => ((.inr c.lab : Key), ovD c.over) from e]
theorem homes_get {c : Cl} (hc : c ∈ cls) : getD (cls.map fun c => (.inr c.lab, ovD c.over)) (.inr c.lab) = some (ovD c.over) := by
  have := getD_map (f := ovD) (ks := cls.map fun c => (c.lab, c.over)) (x := c.lab)
  rw [List.map_map] at this
  refine this.trans ?_
  rw [List.find?_map]
  have h2 : cls.find? ((fun p : Str × Option Str => p.1 == c.lab) ∘ fun a => (a.lab, a.over)) = some c := clOf_mem O.nd hc
  rw [h2]
  rfl
omit O in
theorem ovD_some {x : Str} : ovD (some x) = .str x := rfl
omit O in
@[simp] theorem isN_ov {o : Option Str} : isN (ovD o) = o.isNone := by cases o <;> rfl
theorem w_way_to {d : Cl} (hd : d ∈ cls) (hl : cls.length ≤ 1000000) {k : Nat} : evF G pT (k + 1) i_way_to [.tup (cls.map Cl.d), .str d.lab] mh = some (.tup ((way cls d.lab).map .str), mh) := by
  rw [r_way_to]
  have e0 := w_homes (G := G) (mh := mh) O (F := evF G pT k) (a := some (.str d.lab, false)) hl
  obtain ⟨o, e1, h1⟩ := whl_ind (c := toC (sm G (evF G pT k) (.ntn (.ix (.v 2) (.ix (.v 4) (.cint 0))))).v) (body := cm G (evF G pT k) c_way_to_1)
    (fun (x : Cl × List Str) s => x.1 ∈ cls ∧ way cls d.lab = anc cls x.1 ++ x.1.lab :: x.2 ∧ s = ⟨[some (.tup (cls.map Cl.d), false), some (.str d.lab, false), some (.dct (cls.map fun c => (.inr c.lab, ovD c.over)), true), none, some (.lst (.str x.1.lab :: x.2.map .str), true)], mh⟩)
    (fun x => (anc cls x.1).length) (fun o => o = .nx ⟨[some (.tup (cls.map Cl.d), false), some (.str d.lab, false), some (.dct (cls.map fun c => (.inr c.lab, ovD c.over)), true), none, some (.lst ((way cls d.lab).map .str), true)], mh⟩)
    (fun x s P ⟨hx, hw, hs⟩ hP => by
      subst hs
      obtain ⟨y, t⟩ := x
      have hg := homes_get O hx
      cases ho : y.over with
      | none =>
        simp only [ho] at hg
        simp [hg]
        refine hP (.bk _) ?_
        rw [hw, anc_none ho]
        rfl
      | some p =>
        obtain ⟨z, hz, e⟩ := over_mem O hx ho
        subst e
        have ha := anc_some O ho hz
        have lw := way_len (cls := cls) (l := d.lab)
        have hr : rmO (t.length + 1) = some () := rmO_of (by
          rw [hw, List.length_append] at lw
          simp only [List.length_cons] at lw
          omega)
        simp only [ho] at hg
        simp [hg, c_way_to_1, ovD_some, hr]
        refine hP _ ⟨(z, y.lab :: t), ⟨hz, ?_, rfl⟩, ?_⟩
        · rw [hw, ha, way_eq O hz]; simp
        · show (anc cls z).length < (anc cls y).length
          rw [ha, way_eq O hz]; simp)
    _ (d, []) ⟨[some (.tup (cls.map Cl.d), false), some (.str d.lab, false), some (.dct (cls.map fun c => (.inr c.lab, ovD c.over)), true), none, some (.lst [.str d.lab], true)], mh⟩ (Nat.le_refl _) ⟨hd, way_eq O hd, rfl⟩
  subst h1
  simp at e1
  simp [c_way_to, e0, e1]
/-! silent_for -/
def silL (cls : List Cl) (l : Str) : List Str := (cls.map (·.lab)).filter fun x => decide (x ∉ way cls l)
def Sil (cls : List Cl) (l x : Str) : Prop := ∃ c ∈ cls, c.lab = l ∧ ∃ y ∈ cls, y.over = c.over ∧ y.lab ≠ l ∧ (x = y.lab ∨ x ∈ ovAll cls y.lab)
theorem mem_ovAll {c : Cl} (hc : c ∈ cls) {l : Str} : c.lab ∈ ovAll cls l ↔ l ∈ anc cls c := by
  unfold ovAll
  simp only [List.mem_map, List.mem_filter, decide_eq_true_eq]
  constructor
  · rintro ⟨d, ⟨h1, h2⟩, h3⟩
    rw [nd_eq O.nd h1 hc h3] at h2
    exact h2
  · exact fun h => ⟨c, ⟨hc, h⟩, rfl⟩
omit O in
theorem ovAll_len {l : Str} : (ovAll cls l).length ≤ cls.length := by
  unfold ovAll
  rw [List.length_map]
  exact List.length_filter_le _ _
abbrev sst (cls : List Cl) (W found : List Str) (o3 o4 o5 : Option (D × Bool)) (mh : List (List D)) : S := ⟨[some (.tup (cls.map Cl.d), false), some (.tup (W.map .str), false), some (.lst (found.map .str), true), o3, o4, o5], mh⟩
theorem w_sil_in {W found : List Str} {c : Cl} (hc : c ∈ cls) (hl : cls.length ≤ 100) (hf : found.length ≤ 15000000) {k : Nat} (o5 : Option (D × Bool)) :
    ∃ o, forLoop (bdN (.nm 5)) (cm G (evF G pT (k + 1)) c_silent_for_2) ((excs cls c.over).map Cl.d) (sst cls W found (some (.str c.lab, false)) (some (ovD c.over, false)) o5 mh) = some o ∧
      ∃ (more : List Str) (o5 : Option (D × Bool)), o = .nx (sst cls W (found ++ more) (some (.str c.lab, false)) (some (ovD c.over, false)) o5 mh) ∧ (∀ x, x ∈ more ↔ Sil cls c.lab x) ∧ more.length ≤ 101 * 101 := by
  refine for_ind (bd := bdN (.nm 5)) (e := Cl.d) (fun as s => ∃ (done : List Cl) (more : List Str) (o5 : Option (D × Bool)), excs cls c.over = done ++ as ∧ s = sst cls W (found ++ more) (some (.str c.lab, false)) (some (ovD c.over, false)) o5 mh ∧ (∀ x, x ∈ more ↔ ∃ y ∈ done, y.lab ≠ c.lab ∧ (x = y.lab ∨ x ∈ ovAll cls y.lab)) ∧ more.length ≤ 101 * done.length) _ ?_ ?_ (excs cls c.over) _ ⟨[], [], o5, rfl, by rw [List.append_nil], by simp, by simp⟩
  · rintro s ⟨done, more, o5, h1, rfl, h3, h4⟩
    rw [List.append_nil] at h1
    have hd : done.length ≤ cls.length := by rw [← h1]; exact excs_len
    refine ⟨more, o5, rfl, fun x => ?_, by omega⟩
    rw [h3, ← h1]
    constructor
    · rintro ⟨y, hy, h5⟩
      obtain ⟨h6, h7⟩ := List.mem_filter.mp hy
      exact ⟨c, hc, rfl, y, h6, by simpa using h7, h5⟩
    · rintro ⟨c', hc', e, y, hy, h5, h6⟩
      have := nd_eq O.nd hc' hc e
      subst this
      exact ⟨y, List.mem_filter.mpr ⟨hy, by simp [h5]⟩, h6⟩
  · rintro y as s P ⟨done, more, o5, h1, rfl, h3, h4⟩ hP
    have hy : y ∈ cls := (List.mem_filter.mp (show y ∈ excs cls c.over by rw [h1]; simp)).1
    have hd : (done ++ y :: as).length ≤ cls.length := by rw [← h1]; exact excs_len
    simp only [List.length_append, List.length_cons] at hd
    have e := w_over_all (G := G) (mh := mh) O (l := y.lab) (by omega) (k := k)
    have lo := ovAll_len (cls := cls) (l := y.lab)
    have r1 : rmE (1 + (ovAll cls y.lab).length) = some () := rmE_of (by omega)
    have r1' : rmE ((ovAll cls y.lab).length + 1) = some () := rmE_of (by omega)
    have r2 : rmE (found.length + more.length + ((ovAll cls y.lab).length + 1)) = some () := rmE_of (by omega)
    by_cases q : y.lab = c.lab
    · simp [c_silent_for_2, q]
      refine hP _ ⟨done ++ [y], more, some (y.d, false), by rw [h1]; simp, by simp [sst], fun x => ?_, by simp; omega⟩
      rw [h3]
      constructor
      · rintro ⟨z, hz, h5⟩; exact ⟨z, List.mem_append_left _ hz, h5⟩
      · rintro ⟨z, hz, h5, h6⟩
        rcases List.mem_append.mp hz with hz | hz
        · exact ⟨z, hz, h5, h6⟩
        · rw [List.mem_singleton.mp hz] at h5; exact absurd q h5
    · have q' : (y.lab == c.lab) = false := by simpa using q
      simp [c_silent_for_2, q, e, r1, r1', r2]
      refine hP _ ⟨done ++ [y], more ++ (y.lab :: ovAll cls y.lab), some (y.d, false), by rw [h1]; simp, by simp [sst], fun x => ?_, by simp; omega⟩
      rw [List.mem_append, h3]
      constructor
      · rintro (⟨z, hz, h5⟩ | h5)
        · exact ⟨z, List.mem_append_left _ hz, h5⟩
        · exact ⟨y, by simp, q, by simpa using h5⟩
      · rintro ⟨z, hz, h5, h6⟩
        rcases List.mem_append.mp hz with hz | hz
        · exact .inl ⟨z, hz, h5, h6⟩
        · rw [List.mem_singleton.mp hz] at h6
          exact .inr (by simpa using h6)
theorem w_sil_over {W found : List Str} {c : Cl} (hc : c ∈ cls) (hl : cls.length ≤ 100) {F : Fn} (o4 o5 : Option (D × Bool)) : ∃ r, (sm G F e_silent_for_1).v (sst cls W found (some (.str c.lab, false)) o4 o5 mh) = some (.lst (ovD c.over :: r), .fr, sst cls W found (some (.str c.lab, false)) o4 o5 mh) := by
  obtain ⟨r, hr⟩ := head_find (clOf_mem O.nd hc)
  refine ⟨r.map fun a => ovD a.over, ?_⟩
  rw [e_silent_for_1, y_lc]
  have := lcF_gen (e := Cl.d) (own := [5]) (tg := .nm 5) (it := (sm G F (.v 0)).i) (cd := (sm G F (.cmp .eq (.ix (.v 5) (.cint 0)) (.v 3))).c) (el := (sm G F (.ix (.v 5) (.cint 3))).v) (s0 := sst cls W found (some (.str c.lab, false)) o4 o5 mh) (sst cls W found (some (.str c.lab, false)) o4 o5 mh) (ds := cls)
    (fun a => sst cls W found (some (.str c.lab, false)) o4 (some (a.d, false)) mh) (fun a => a.lab == c.lab) (fun a => ovD a.over) (by simp) (fun _ _ => rfl) (fun _ _ => rfl) (fun _ _ => by simp) (fun _ _ _ => by simp) (by omega)
  rw [hr] at this
  exact this
theorem w_silent_for {d : Cl} (hd : d ∈ cls) (hl : cls.length ≤ 100) {k : Nat} : evF G pT (k + 2) i_silent_for [.tup (cls.map Cl.d), .tup ((way cls d.lab).map .str)] mh = some (.tup ((silL cls d.lab).map .str), mh) := by
  rw [r_silent_for]
  have lw := way_len (cls := cls) (l := d.lab)
  have hW := fun x hx => way_pre O d hd x hx
  have e0 : atI ((way cls d.lab).map D.str) (-1) = some (.str d.lab) := by
    rw [way_eq O hd, List.map_append]
    exact at_last
  have e1 := w_over_all (G := G) (mh := mh) O (l := d.lab) (by omega) (k := k)
  have e2 := fun c (hc : c ∈ cls) => (show evF G pT (k + 1) i_exceptions_of [.tup (cls.map Cl.d), ovD c.over] mh = some (.lst ((excs cls c.over).map Cl.d), mh) from w_exc (by omega))
  generalize hw : way cls d.lab = W at e0 lw hW
  have lo := ovAll_len (cls := cls) (l := d.lab)
  obtain ⟨o, e3, found, o3, o4, o5, h1, h2⟩ := for_ind (bd := bdN (.nm 3)) (e := D.str) (body := cm G (evF G pT (k + 1)) c_silent_for_1)
    (fun as s => ∃ (done found : List Str) (o3 o4 o5 : Option (D × Bool)), W = done ++ as ∧ s = sst cls W found o3 o4 o5 mh ∧ (∀ x, x ∈ found ↔ x ∈ ovAll cls d.lab ∨ ∃ l ∈ done, Sil cls l x) ∧ found.length ≤ 100 + 10201 * done.length)
    (fun o => ∃ (found : List Str) (o3 o4 o5 : Option (D × Bool)), o = .nx (sst cls W found o3 o4 o5 mh) ∧ ∀ x, x ∈ found ↔ x ∈ ovAll cls d.lab ∨ ∃ l ∈ W, Sil cls l x)
    (by
      rintro s ⟨done, found, o3, o4, o5, h1, rfl, h3, h4⟩
      rw [List.append_nil] at h1
      exact ⟨found, o3, o4, o5, rfl, by rw [h1]; exact h3⟩)
    (by
      rintro l as s P ⟨done, found, o3, o4, o5, h1, rfl, h3, h4⟩ hP
      obtain ⟨c, hc, e, _⟩ := hW l (by rw [h1]; simp)
      subst e
      have hd : (done ++ c.lab :: as).length ≤ cls.length + 1 := by rw [← h1]; exact lw
      simp only [List.length_append, List.length_cons] at hd
      obtain ⟨r, f1⟩ := w_sil_over (G := G) (mh := mh) O (W := W) (found := found) hc hl (F := evF G pT (k + 1)) o4 o5
      obtain ⟨o, f2, more, o5', h5, h6, h7⟩ := w_sil_in (G := G) (mh := mh) O (W := W) (found := found) hc hl (by omega) (k := k) o5
      subst h5
      simp [c_silent_for_1, f1, e2 c hc, f2]
      refine hP _ ⟨done ++ [c.lab], found ++ more, some (.str c.lab, false), some (ovD c.over, false), o5', by rw [h1]; simp, rfl, fun x => ?_, by simp; omega⟩
      rw [List.mem_append, h3, h6]
      constructor
      · rintro ((h | ⟨l, hl, h⟩) | h)
        · exact .inl h
        · exact .inr ⟨l, List.mem_append_left _ hl, h⟩
        · exact .inr ⟨c.lab, by simp, h⟩
      · rintro (h | ⟨l, hl, h⟩)
        · exact .inl (.inl h)
        · rcases List.mem_append.mp hl with hl | hl
          · exact .inl (.inr ⟨l, hl, h⟩)
          · rw [List.mem_singleton.mp hl] at h; exact .inr h)
    W (sst cls W (ovAll cls d.lab) none none none mh) ⟨[], ovAll cls d.lab, none, none, none, rfl, rfl, by simp, by omega⟩
  subst h1
  simp [c_silent_for, e0, e1]
  rw [e3]
  have e4 : (sm G (evF G pT (k + 1)) e_silent_for_2).v (sst cls W found o3 o4 o5 mh) = some (.lst ((cls.filter fun c => decide (c.lab ∈ found)).map fun c => .str c.lab), .fr, sst cls W found o3 o4 o5 mh) := by
    rw [e_silent_for_2, y_lc]
    exact lcF_gen (e := Cl.d) (own := [5]) (tg := .nm 5) (sst cls W found o3 o4 o5 mh) (fun a => sst cls W found o3 o4 (some (a.d, false)) mh) (fun c => decide (c.lab ∈ found)) (fun c => .str c.lab) (by simp) (fun _ _ => rfl) (fun _ _ => rfl) (fun _ _ => by simp) (fun _ _ _ => by simp) (by omega)
  simp [e4]
  unfold silL
  rw [List.filter_map, List.map_map, hw]
  refine congrArg (List.map _) (List.filter_congr fun c hc => ?_)
  rw [Bool.eq_iff_iff]
  simp only [decide_eq_true_eq, Function.comp]
  rw [h2, ← hw, ← silent_iff O hd hc, mem_ovAll O hc]
  constructor
  · rintro (h | ⟨l, hl, c', hc', rfl, y, hy, h3, h4, h5⟩)
    · exact .inl h
    · refine .inr ⟨c', hc', hl, y, hy, h3, h4, ?_⟩
      rw [way_eq O hc]
      rcases h5 with h5 | h5
      · rw [h5]; simp
      · exact List.mem_append_left _ ((mem_ovAll O hc).mp h5)
  · rintro (h | ⟨c', hc', hl, y, hy, h3, h4, h5⟩)
    · exact .inl h
    · refine .inr ⟨c'.lab, hl, c', hc', rfl, y, hy, h3, h4, ?_⟩
      rw [way_eq O hc] at h5
      rcases List.mem_append.mp h5 with h5 | h5
      · exact .inr ((mem_ovAll O hc).mpr h5)
      · exact .inl (List.mem_singleton.mp h5).symm
end
end E3
set_option linter.all false
set_option maxRecDepth 100000
set_option maxHeartbeats 4000000
namespace E3
open PySem L2
variable {G : Nat → Option D} {mh : List (List D)}
structure Row where
  nm : Str
  v : Int
  way : List Str
  sil : List Str
  deriving DecidableEq
def Row.d (r : Row) : D := .tup [.str r.nm, .int r.v, .tup (r.way.map .str), .tup (r.sil.map .str)]
@[simp] theorem Row.d0 {r : Row} : itemD r.d (.int 0) = some (.str r.nm) := by simp [Row.d]
@[simp] theorem Row.d1 {r : Row} : itemD r.d (.int 1) = some (.int r.v) := by simp [Row.d]
@[simp] theorem Row.d2 {r : Row} : itemD r.d (.int 2) = some (.tup (r.way.map .str)) := by simp [Row.d]
@[simp] theorem Row.d3 {r : Row} : itemD r.d (.int 3) = some (.tup (r.sil.map .str)) := by simp [Row.d]
@[simp] theorem Row.ty {r : Row} : tyD .tuple r.d = some true := id rfl
@[simp] theorem Row.len {r : Row} : b1D .len r.d = some (.int 4, .st) := id rfl
@[simp] theorem Row.s2 {r : Row} : sliceD r.d (some 2) none = some (.tup [.tup (r.way.map .str), .tup (r.sil.map .str)], .st) := by simp [Row.d]
@[simp] theorem nr_row (r : Row) : noRef r.d = true := by
  show (true && (true && (noRef.noRefL (r.way.map .str) && (noRef.noRefL (r.sil.map .str) && true)))) = true
  rw [noRef_map fun _ _ => rfl, noRef_map fun _ _ => rfl]
  rfl
/-! == of tuples of texts -/
theorem eqL_str : ∀ {xs ys : List Str}, eqD.eqL (xs.map .str) (ys.map .str) = decide (xs = ys)
  | [], [] => by simp [eqD.eqL]
  | [], _ :: _ => by simp [eqD.eqL]
  | _ :: _, [] => by simp [eqD.eqL]
  | x :: xs, y :: ys => by
    show (eqD (.str x) (.str y) && eqD.eqL (xs.map .str) (ys.map .str)) = _
    rw [eqL_str]
    show ((x == y) && decide (xs = ys)) = _
    rw [Bool.eq_iff_iff]
    simp
theorem dk_strs {n : Nat} {xs : List Str} (h : ∀ x ∈ xs, PyData.strOk x = true) : dataOk (n + 1) (.tup (xs.map .str)) = true := by
  show (xs.map D.str).all (dataOk n) = true
  rw [List.all_map, List.all_eq_true]
  intro x hx
  have := h x hx
  cases n <;> exact this
theorem ne_strs {xs ys : List Str} (hx : ∀ x ∈ xs, PyData.strOk x = true) (hy : ∀ x ∈ ys, PyData.strOk x = true) : copD .ne (.tup (xs.map .str)) (.tup (ys.map .str)) = some (!decide (xs = ys)) := by
  show (deq _ _).map (!·) = _
  unfold deq
  rw [if_neg (by simp [scalD]), dk_strs hx, dk_strs hy]
  show some (!(eqD.eqL (xs.map .str) (ys.map .str))) = _
  rw [eqL_str]
/-! ### rows -/
def rowOf (t : Tm) (v : Int) (l : Str) : Row := ⟨t.nm, v, way t.cls l, silL t.cls l⟩
theorem w_row_for {c : Cd} (K : CdOk c) {t : Tm} (ht : t ∈ c.ts) {d : Cl} (hd : d ∈ t.cls) {v : Int} {k : Nat} : evF G pT (k + 3) i_row_for [c.d, .str t.nm, (Oc.told v d.lab).d] mh = some ((rowOf t v d.lab).d, mh) := by
  rw [r_row_for]
  have hl := K.cl t ht
  have e0 := w_clauses (G := G) (mh := mh) (k := k + 1) (K.tm ht)
  have e1 := w_way_to (G := G) (mh := mh) (K.ok t ht) hd (by omega) (k := k + 1)
  have e2 := w_silent_for (G := G) (mh := mh) (K.ok t ht) hd (by omega) (k := k)
  have g1 : itemD (Oc.told v d.lab).d (.int 1) = some (.int v) := by simp [Oc.d]
  have g2 : itemD (Oc.told v d.lab).d (.int 2) = some (.str d.lab) := by simp [Oc.d]
  simp [c_row_for, e0, e1, e2, g1, g2]
  rfl
/-- what is told, by the clause that counts -/
theorem told_of {c : Cd} {cs : List Int} {ks : Kn} {t : Tm} {v : Int} {l : Str} (O : OkL t.cls) (h : outT c cs ks t = .told v l) : c.nms.find? (lacks ks t) = none ∧ Cnt t.cls (spf c cs ks t) l ∧ v = amf c cs ks t l := by
  unfold outT at h
  cases hf : c.nms.find? (lacks ks t) with
  | some x => rw [hf] at h; cases h
  | none =>
    rw [hf] at h
    have h' : ocOf (amf c cs ks t) (hear t.cls (spf c cs ks t) (t.cls.length + 1) none) = .told v l := h
    have hc := fun L => cnt_of (sp := spf c cs ks t) (L := L) O
    generalize hear t.cls (spf c cs ks t) (t.cls.length + 1) none = hh at h' hc
    match hh, h', hc with
    | [], h', _ => cases h'
    | [L], h', hc =>
      cases h'
      exact ⟨rfl, hc _ rfl, rfl⟩
    | _ :: _ :: _, h', _ => cases h'
/-- x is told, with v by the clause l -/
def Told (c : Cd) (cs : List Int) (x : Str) (v : Int) (l : Str) : Prop := kn (outs c cs) x = some (.told v l)
theorem Told.get {c : Cd} (K : CdOk c) {cs : List Int} {t : Tm} (ht : t ∈ c.ts) {v : Int} {l : Str} (h : Told c cs t.nm v l) : outT c cs (outs c cs) t = .told v l := by
  unfold Told at h
  rw [outs_fix K cs ht] at h
  exact Option.some.inj h
theorem told_rch {c : Cd} (K : CdOk c) {cs : List Int} {x y : Str} (hx : x ∈ c.nms) (r : Rch (us c) x y) : (∃ v l, Told c cs x v l) → ∃ v l, Told c cs y v l := by
  induction r with
  | rfl => exact id
  | step h h' ih =>
    rename_i a b d
    rintro ⟨v, l, ht⟩
    obtain ⟨t, htm⟩ := Cd.tm_mem hx
    obtain ⟨h1, h2⟩ := Cd.tm_some htm
    subst h2
    unfold us at h
    rw [htm] at h
    have hb := K.used h1 h
    refine ih hb ?_
    have h3 := (told_of (K.ok t h1) (ht.get K h1)).1
    have h4 := List.find?_eq_none.mp h3 b hb
    have hu : decide (b ∈ useT t) = true := decide_eq_true h
    unfold lacks isTold at h4
    rw [hu, Bool.true_and] at h4
    unfold Told
    cases e : kn (outs c cs) b with
    | none => rw [e] at h4; exact absurd rfl h4
    | some o =>
      rw [e] at h4
      cases o with
      | told v l => exact ⟨v, l, rfl⟩
      | _ => exact absurd rfl h4
/-- the row of a term that is told -/
def rowAt (c : Cd) (cs : List Int) (x : Str) : Row := match c.tm x, kn (outs c cs) x with
  | some t, some (.told v l) => rowOf t v l
  | _, _ => ⟨x, 0, [], []⟩
theorem rowAt_told {c : Cd} (K : CdOk c) {cs : List Int} {t : Tm} (ht : t ∈ c.ts) {v : Int} {l : Str} (h : Told c cs t.nm v l) : rowAt c cs t.nm = rowOf t v l := by
  unfold rowAt
  unfold Told at h
  rw [K.tm ht, h]
theorem rowAt_nm {c : Cd} {cs : List Int} {x : Str} : (rowAt c cs x).nm = x := by
  unfold rowAt
  cases ht : c.tm x with
  | none => rfl
  | some t =>
    cases kn (outs c cs) x with
    | none => rfl
    | some o => cases o <;> first | rfl | exact (Cd.tm_some ht).2
noncomputable def rdg (c : Cd) (cs : List Int) (x : Str) : List Row := (usd c x).map (rowAt c cs)
theorem usd_len {c : Cd} {x : Str} : (usd c x).length ≤ c.ts.length := by
  classical
  unfold usd
  refine Nat.le_trans (List.length_filter_le _ _) ?_
  simp [Cd.nms]
theorem w_reading {c : Cd} (K : CdOk c) {cs : List Int} (hcs : cs.length = c.fs.length) {x : Str} (hx : x ∈ c.nms) (ht : ∃ v l, Told c cs x v l) {k : Nat} : evF G pT (k + 62) i_reading [c.d, .str x, .tup (cs.map .int)] mh = some (.tup ((rdg c cs x).map Row.d), mh) := by
  rw [r_reading]
  have e0 := w_outcomes (G := G) (mh := mh) K hcs (k := k)
  have e1 := w_used_by (G := G) (mh := mh) K hx (k + 59)
  have hl := usd_len (c := c) (x := x)
  have e2 : (sm G (evF G pT (k + 61)) e_reading_1).v ⟨[some (c.d, false), some (.str x, false), some (.tup (cs.map .int), false), some (kd (outs c cs), false), none], mh⟩ = some (.lst (((usd c x).filter fun _ => true).map fun y => (rowAt c cs y).d), .fr, ⟨[some (c.d, false), some (.str x, false), some (.tup (cs.map .int), false), some (kd (outs c cs), false), none], mh⟩) := by
    rw [e_reading_1, y_lc]
    refine lcF_gen (own := [4]) (tg := .nm 4) (e := D.str) (ds := usd c x) ⟨[some (c.d, false), some (.str x, false), some (.tup (cs.map .int), false), some (kd (outs c cs), false), none], mh⟩ (fun y => ⟨[some (c.d, false), some (.str x, false), some (.tup (cs.map .int), false), some (kd (outs c cs), false), some (.str y, false)], mh⟩) (fun _ => true) (fun y => (rowAt c cs y).d) (by simp [e1]) (fun _ _ => rfl) (fun _ _ => rfl) (fun _ _ => rfl) (fun y hy _ => ?_) (by have := K.tl; omega)
    have hr := (mem_usd K hx).mp hy
    obtain ⟨v, l, hv⟩ := told_rch K (cs := cs) hx hr ht
    obtain ⟨t, htm⟩ := Cd.tm_mem (K.rch hx hr)
    obtain ⟨h1, h2⟩ := Cd.tm_some htm
    subst h2
    obtain ⟨_, ⟨⟨d, hd, e⟩, _⟩, _⟩ := told_of (K.ok t h1) (hv.get K h1)
    subst e
    have g : itemD (kd (outs c cs)) (.str t.nm) = some (Oc.told v d.lab).d := by
      show getD _ (.inr t.nm) = _
      unfold Told at hv
      rw [kn_get, hv]; rfl
    have e3 := w_row_for (G := G) (mh := mh) K h1 hd (v := v) (k := k + 58)
    simp [g, e3]
    rw [rowAt_told K h1 hv]
  rw [filter_t] at e2
  simp [c_reading, e0, e2]
  unfold rdg
  rw [List.map_map]
  rfl
end E3
set_option linter.all false
set_option maxRecDepth 100000
set_option maxHeartbeats 4000000
namespace E3
open PySem L2
variable {G : Nat → Option D} {mh : List (List D)}
@[simp] theorem nr_vd (ks : List (Str × Int)) : noRef (vd ks) = true := noRefK_map fun _ _ => rfl
theorem w_are_labels {xs : List Str} (h : xs.length ≤ 1000000) {k : Nat} : evF G pT (k + 1) i_are_labels [.tup (xs.map .str)] mh = some (.bl true, mh) := by
  rw [r_are_labels]
  have e : (sm G (evF G pT k) e_are_labels_1).v ⟨[some (.tup (xs.map .str), false), none], mh⟩ = some (.lst ((xs.filter fun _ => true).map fun _ => .bl true), .fr, ⟨[some (.tup (xs.map .str), false), none], mh⟩) := by
    rw [e_are_labels_1, y_lc]
    exact lcF_gen (own := [1]) (tg := .nm 1) (e := D.str) ⟨[some (.tup (xs.map .str), false), none], mh⟩ (fun y => ⟨[some (.tup (xs.map .str), false), some (.str y, false)], mh⟩) (fun _ => true) (fun _ => .bl true) (by simp) (fun _ _ => rfl) (fun _ _ => rfl) (fun _ _ => rfl) (fun _ _ _ => by simp) (by omega)
  rw [filter_t] at e
  have ez : b1D .all (.lst (xs.map fun _ => .bl true)) = some (.bl true, .st) := by rw [z_all (p := fun _ => true)]; simp
  simp [c_are_labels, e, ez]
/-- slots of is_row -/
abbrev rst (c : Cd) (t : Tm) (cs : List Int) (r : Row) (vs : List (Str × Int)) (o6 o7 o9 o10 : Option (D × Bool)) (mh : List (List D)) : S := ⟨[some (c.d, false), some (.str t.nm, false), some (.tup (cs.map .int), false), some (r.d, false), some (vd vs, false), none, o6, o7, none, o9, o10, none], mh⟩
structure ROk (c : Cd) (cs : List Int) (ks : Kn) (t : Tm) (vs : List (Str × Int)) : Prop where
  K : CdOk c
  tm : t ∈ c.ts
  cs : cs.length = c.fs.length
  us : ∀ y ∈ useT t, getD (vs.map fun p => ((.inr p.1 : Key), D.int p.2)) (.inr y) = some (.int (vl ks y))
section
variable {c : Cd} {cs : List Int} {ks : Kn} {t : Tm} {vs : List (Str × Int)} (T : ROk c cs ks t vs)
include T
theorem w_ro_cond {k : Nat} {a : Cl} (ha : a ∈ t.cls) : evF G pT (k + 22) i_truth_in [a.cond.d, .tup (c.fs.map Fact.d), .tup (cs.map .int), vd vs] mh = some (.bl (spf c cs ks t a.lab), mh) := by
  obtain ⟨i, hi⟩ := List.mem_iff_getElem?.mp T.tm
  have o := T.K.cs i t hi a ha
  have e := w_truth (G := G) (mh := mh) (fs := c.fs) (cs := cs) (ks := vs.map fun p => (.inr p.1, .int p.2)) (cv := fv c.fs cs) (kv := vl ks) (by have := T.K.fl; omega) a.cond o.cc (fun x hx => fv_ok T.cs (o.cf x hx)) (fun x hx => T.us x (List.mem_flatMap.mpr ⟨a, ha, List.mem_append_left _ hx⟩)) (k + 20 - a.cond.depth)
  rw [show k + 20 - a.cond.depth + a.cond.depth + 2 = k + 22 by have := o.cd; omega] at e
  rw [show spf c cs ks t a.lab = a.cond.cn (fv c.fs cs) (vl ks) by unfold spf; rw [clOf_mem (T.K.ok t T.tm).nd ha]]
  exact e
theorem w_ro_am {k : Nat} {a : Cl} (ha : a ∈ t.cls) : evF G pT (k + 22) i_amount_in [a.am.d, .tup (c.fs.map Fact.d), .tup (cs.map .int), vd vs] mh = some (.int (amf c cs ks t a.lab), mh) := by
  obtain ⟨i, hi⟩ := List.mem_iff_getElem?.mp T.tm
  have o := T.K.cs i t hi a ha
  have e := w_amount (G := G) (mh := mh) (fs := c.fs) (cs := cs) (ks := vs.map fun p => (.inr p.1, .int p.2)) (cv := fv c.fs cs) (kv := vl ks) (by have := T.K.fl; omega) a.am o.ca (fun x hx => fv_ok T.cs (o.af x hx)) (fun x hx => T.us x (List.mem_flatMap.mpr ⟨a, ha, List.mem_append_right _ hx⟩)) (k + 20 - a.am.depth)
  rw [show k + 20 - a.am.depth + a.am.depth + 2 = k + 22 by have := o.ad; omega] at e
  rw [show amf c cs ks t a.lab = a.am.am (fv c.fs cs) (vl ks) by unfold amf; rw [clOf_mem (T.K.ok t T.tm).nd ha]]
  exact e
theorem w_is_row_nm {r : Row} (h : r.nm ≠ t.nm) {k : Nat} : evF G pT (k + 1) i_is_row [c.d, .str t.nm, .tup (cs.map .int), r.d, vd vs] mh = some (.bl false, mh) := by
  rw [r_is_row]
  simp [c_is_row, h]
def rdk (t : Tm) : D := .dct (t.cls.map fun a => (.inr a.lab, a.d))
omit T in
theorem rdk_get {t : Tm} (O : OkL t.cls) {a : Cl} (ha : a ∈ t.cls) : itemD (rdk t) (.str a.lab) = some a.d := by
  show getD _ (.inr a.lab) = _
  have := getD_map (f := Cl.d) (ks := t.cls.map fun a => (a.lab, a)) (x := a.lab)
  rw [List.map_map] at this
  refine this.trans ?_
  rw [List.find?_map]
  have h2 : t.cls.find? ((fun p : Str × Cl => p.1 == a.lab) ∘ fun a => (a.lab, a)) = some a := clOf_mem O.nd ha
  rw [h2]
  rfl
/-- is_row of a row with a way and what is silent beside it -/
theorem w_is_row {r : Row} {d : Cl} (hd : d ∈ t.cls) (hn : r.nm = t.nm) (hw : r.way = way t.cls d.lab) (hs : r.sil = silL t.cls d.lab) {k : Nat} : evF G pT (k + 24) i_is_row [c.d, .str t.nm, .tup (cs.map .int), r.d, vd vs] mh = some (.bl (spf c cs ks t d.lab && (amf c cs ks t d.lab == r.v) && !((silL t.cls d.lab).any (spf c cs ks t))), mh) := by
  rw [r_is_row]
  have hl := T.K.cl t T.tm
  have O := T.K.ok t T.tm
  obtain ⟨i, hi⟩ := List.mem_iff_getElem?.mp T.tm
  have lk : ∀ a ∈ t.cls, PyData.strOk a.lab = true := fun a ha => (T.K.cs i t hi a ha).lk
  have lw := way_len (cls := t.cls) (l := d.lab)
  have ls : (silL t.cls d.lab).length ≤ t.cls.length := by unfold silL; refine Nat.le_trans (List.length_filter_le _ _) ?_; simp
  have e1 : (sm G (evF G pT (k + 23)) e_is_row_1).v (rst c t cs r vs none none none none mh) = some (.lst [.bl true, .bl true], .fr, rst c t cs r vs none none none none mh) := by
    rw [e_is_row_1, y_lc]
    have := lcF_gen (own := [5]) (tg := .nm 5) (e := fun xs : List Str => D.tup (xs.map .str)) (ds := [r.way, r.sil]) (it := (sm G (evF G pT (k + 23)) (.sl (.v 3) (.cint 2) .nop)).i) (cd := (sm G (evF G pT (k + 23)) .nop).c) (el := (sm G (evF G pT (k + 23)) (.call i_are_labels false (.cons (.v 5) .nil))).v) (s0 := rst c t cs r vs none none none none mh) (rst c t cs r vs none none none none mh) (fun xs => ⟨[some (c.d, false), some (.str t.nm, false), some (.tup (cs.map .int), false), some (r.d, false), some (vd vs, false), some (.tup (xs.map .str), false), none, none, none, none, none, none], mh⟩) (fun _ => true) (fun _ => .bl true) (by simp) (fun _ _ => rfl) (fun _ _ => rfl) (fun _ _ => rfl) (fun xs hx _ => by
      have hxs : xs.length ≤ 1000000 := by
        rcases List.mem_cons.mp hx with e | hx
        · rw [e, hw]; omega
        · rw [List.mem_singleton.mp hx, hs]; omega
      have := w_are_labels (G := G) (mh := mh) hxs (k := k + 22)
      simp [this]) (by simp)
    rw [filter_t] at this
    exact this
  have ea : b1D .all (.lst [.bl true, .bl true]) = some (.bl true, .st) := id rfl
  have wn : r.way ≠ [] := by rw [hw]; exact way_ne O hd
  have w0 : ((r.way.length : Int) == 0) = false := by
    have : 0 < r.way.length := List.length_pos_iff.mpr wn
    simpa using wn
  have e2 := w_clauses (G := G) (mh := mh) (k := k + 22) (T.K.tm T.tm)
  have e3 : (sm G (evF G pT (k + 23)) e_is_row_2).v (rst c t cs r vs (some (.tup (t.cls.map Cl.d), false)) none none none mh) = some (.lst ((t.cls.map (·.lab)).map .str), .fr, rst c t cs r vs (some (.tup (t.cls.map Cl.d), false)) none none none mh) := by
    rw [e_is_row_2, y_lc]
    have := lcF_gen (own := [8]) (tg := .nm 8) (e := Cl.d) (ds := t.cls) (it := (sm G (evF G pT (k + 23)) (.v 6)).i) (cd := (sm G (evF G pT (k + 23)) .nop).c) (el := (sm G (evF G pT (k + 23)) (.ix (.v 8) (.cint 0))).v) (s0 := rst c t cs r vs (some (.tup (t.cls.map Cl.d), false)) none none none mh) (rst c t cs r vs (some (.tup (t.cls.map Cl.d), false)) none none none mh) (fun a => ⟨[some (c.d, false), some (.str t.nm, false), some (.tup (cs.map .int), false), some (r.d, false), some (vd vs, false), none, some (.tup (t.cls.map Cl.d), false), none, some (a.d, false), none, none, none], mh⟩) (fun _ => true) (fun a => .str a.lab) (by simp) (fun _ _ => rfl) (fun _ _ => rfl) (fun _ _ => rfl) (fun _ _ _ => by simp) (by omega)
    rw [filter_t] at this
    rw [List.map_map]
    exact this
  have gl : atI (r.way.map D.str) (-1) = some (.str d.lab) := by
    rw [hw, way_eq O hd, List.map_append]
    exact at_last
  have e4 := w_way_to (G := G) (mh := mh) O hd (by omega) (k := k + 22)
  have e5 : evF G pT (k + 23) i_silent_for [.tup (t.cls.map Cl.d), .tup (r.way.map .str)] mh = some (.tup ((silL t.cls d.lab).map .str), mh) := by rw [hw]; exact w_silent_for O hd (by omega) (k := k + 21)
  have okw : ∀ x ∈ way t.cls d.lab, PyData.strOk x = true := fun x hx => by
    obtain ⟨a, ha, e, _⟩ := way_pre O d hd x hx
    rw [← e]; exact lk a ha
  have oks : ∀ x ∈ silL t.cls d.lab, PyData.strOk x = true := fun x hx => by
    obtain ⟨a, ha, e⟩ := List.mem_map.mp (List.mem_filter.mp hx).1
    rw [← e]; exact lk a ha
  have n1 : copD .ne (.tup (r.way.map .str)) (.tup ((way t.cls d.lab).map .str)) = some false := by rw [hw, ne_strs okw okw]; simp
  have n2 : copD .ne (.tup (r.sil.map .str)) (.tup ((silL t.cls d.lab).map .str)) = some false := by rw [hs, ne_strs oks oks]; simp
  have e6 : (sm G (evF G pT (k + 23)) e_is_row_3).v (rst c t cs r vs (some (.tup (t.cls.map Cl.d), false)) (some (.lst ((t.cls.map (·.lab)).map .str), true)) none none mh) = some (rdk t, .fr, rst c t cs r vs (some (.tup (t.cls.map Cl.d), false)) (some (.lst ((t.cls.map (·.lab)).map .str), true)) none none mh) := by
    rw [e_is_row_3, y_dc]
    have e := putD_fold (f := Cl.d) (xs := t.cls.map fun c => (c.lab, c)) (ks := []) (by
      rw [List.nil_append, List.map_map]
      exact O.nd)
    rw [List.nil_append, List.map_map] at e
    refine (dcF_gen (own := [8]) (tg := .nm 8) (e := Cl.d) (ds := t.cls) (rst c t cs r vs (some (.tup (t.cls.map Cl.d), false)) (some (.lst ((t.cls.map (·.lab)).map .str), true)) none none mh) (fun a => ⟨[some (c.d, false), some (.str t.nm, false), some (.tup (cs.map .int), false), some (r.d, false), some (vd vs, false), none, some (.tup (t.cls.map Cl.d), false), some (.lst ((t.cls.map (·.lab)).map .str), true), some (a.d, false), none, none, none], mh⟩) (fun _ => true) (fun c => .inr c.lab) Cl.d (by simp) (fun _ _ => rfl) (fun _ _ => rfl) (fun _ _ => rfl) (fun _ _ _ => by simp) (fun _ _ _ => by simp) (by omega)).trans ?_
    rw [filter_t]
    rw [show (t.cls.map fun c => ((.inr c.lab : Key), c.d)).foldl (fun a k => putD a k.1 k.2) [] = t.cls.map fun c => ((.inr c.lab : Key), c.d) from e]
    rfl
  have g2 := rdk_get O hd
  have e7 := w_ro_cond (G := G) (mh := mh) T hd (k := k + 1)
  have e8 := w_ro_am (G := G) (mh := mh) T hd (k := k + 1)
  have hmem : d.lab ∈ t.cls.map (·.lab) := List.mem_map.mpr ⟨d, hd, rfl⟩
  have e9 : (sm G (evF G pT (k + 23)) e_is_row_4).v (rst c t cs r vs (some (.tup (t.cls.map Cl.d), false)) (some (.lst ((t.cls.map (·.lab)).map .str), true)) (some (rdk t, true)) (some (d.d, false)) mh) = some (.lst ((silL t.cls d.lab).map fun x => .bl (spf c cs ks t x)), .fr, rst c t cs r vs (some (.tup (t.cls.map Cl.d), false)) (some (.lst ((t.cls.map (·.lab)).map .str), true)) (some (rdk t, true)) (some (d.d, false)) mh) := by
    rw [e_is_row_4, y_lc]
    have := lcF_gen (own := [11]) (tg := .nm 11) (e := D.str) (ds := silL t.cls d.lab) (it := (sm G (evF G pT (k + 23)) (.ix (.v 3) (.cint 3))).i) (cd := (sm G (evF G pT (k + 23)) .nop).c) (el := (sm G (evF G pT (k + 23)) (.call i_truth_in false (.cons (.ix (.ix (.v 9) (.v 11)) (.cint 1)) (.cons (.ix (.v 0) (.cint 0)) (.cons (.v 2) (.cons (.v 4) .nil)))))).v) (s0 := rst c t cs r vs (some (.tup (t.cls.map Cl.d), false)) (some (.lst ((t.cls.map (·.lab)).map .str), true)) (some (rdk t, true)) (some (d.d, false)) mh) (rst c t cs r vs (some (.tup (t.cls.map Cl.d), false)) (some (.lst ((t.cls.map (·.lab)).map .str), true)) (some (rdk t, true)) (some (d.d, false)) mh) (fun x => ⟨[some (c.d, false), some (.str t.nm, false), some (.tup (cs.map .int), false), some (r.d, false), some (vd vs, false), none, some (.tup (t.cls.map Cl.d), false), some (.lst ((t.cls.map (·.lab)).map .str), true), none, some (rdk t, true), some (d.d, false), some (.str x, false)], mh⟩) (fun _ => true) (fun x => .bl (spf c cs ks t x)) (by simp [hs]) (fun _ _ => rfl) (fun _ _ => rfl) (fun _ _ => rfl) (fun x hx _ => by
      obtain ⟨a, ha, e⟩ := List.mem_map.mp (List.mem_filter.mp hx).1
      subst e
      have g3 := rdk_get O ha
      have e7 := w_ro_cond (G := G) (mh := mh) T ha (k := k + 1)
      simp [g3, e7]) (by omega)
    rw [filter_t] at this
    exact this
  have en : b1D .any (.lst ((silL t.cls d.lab).map fun x => .bl (spf c cs ks t x))) = some (.bl ((silL t.cls d.lab).any (spf c cs ks t)), .st) := z_any
  simp only [rst] at e1 e3 e6 e9
  cases h1 : spf c cs ks t d.lab with
  | false =>
    rw [h1] at e7
    simp [c_is_row, hn, w_isint, e1, ea, w0, wn, e2, e3, gl, hmem, e4, n1, e5, n2, e6, g2, e7, -List.map_map]
  | true =>
    rw [h1] at e7
    by_cases h2 : amf c cs ks t d.lab = r.v
    · simp [c_is_row, hn, w_isint, e1, ea, w0, wn, e2, e3, gl, hmem, e4, n1, e5, n2, e6, g2, e7, e8, h2, e9, en, -List.map_map]
    · simp [c_is_row, hn, w_isint, e1, ea, w0, wn, e2, e3, gl, hmem, e4, n1, e5, n2, e6, g2, e7, e8, h2, -List.map_map]
end
end E3
set_option linter.all false
set_option maxRecDepth 100000
set_option maxHeartbeats 4000000
namespace E3
open PySem L2
variable {G : Nat → Option D} {mh : List (List D)}
theorem spf_out {c : Cd} {cs : List Int} {ks : Kn} {t : Tm} {l : Str} : (∀ a ∈ t.cls, a.lab ≠ l) → spf c cs ks t l = false := fun h => by
  unfold spf
  cases e : clOf t.cls l with
  | none => rfl
  | some a => exact absurd (clOf_lab e).2 (h a (clOf_lab e).1)
/-- a row that has a way and what is silent beside it, or another name -/
def Cand (t : Tm) (r : Row) : Prop := r.nm ≠ t.nm ∨ ∃ d ∈ t.cls, r.way = way t.cls d.lab ∧ r.sil = silL t.cls d.lab
theorem w_is_row_cand {c : Cd} {cs : List Int} {t : Tm} {vs : List (Str × Int)} (T : ROk c cs (outs c cs) t vs) {v : Int} {l : Str} (hv : Told c cs t.nm v l) {r : Row} (hr : Cand t r) {k : Nat} : evF G pT (k + 24) i_is_row [c.d, .str t.nm, .tup (cs.map .int), r.d, vd vs] mh = some (.bl (decide (r = rowOf t v l)), mh) := by
  obtain ⟨_, hc, hva⟩ := told_of (T.K.ok t T.tm) (hv.get T.K T.tm)
  have O := T.K.ok t T.tm
  by_cases hn : r.nm = t.nm
  · rcases hr with h | ⟨d, hd, hw, hs⟩
    · exact absurd hn h
    · rw [w_is_row T hd hn hw hs]
      congr 3
      rw [Bool.eq_iff_iff]
      simp only [Bool.and_eq_true, beq_iff_eq, Bool.not_eq_true', List.any_eq_false, decide_eq_true_eq]
      constructor
      · rintro ⟨⟨h1, h2⟩, h3⟩
        have hcd : Cnt t.cls (spf c cs (outs c cs) t) d.lab := ⟨⟨d, hd, rfl⟩, h1, fun a ha hn => by
          have := h3 a.lab (List.mem_filter.mpr ⟨List.mem_map.mpr ⟨a, ha, rfl⟩, by simpa using hn⟩)
          simpa using this⟩
        have e := cnt_one O hcd hc
        subst e
        unfold rowOf
        rw [← hw, ← hs, ← hn, hva, h2]
      · intro h
        have e1 : r.way = way t.cls l := by rw [h]; rfl
        have e2 : r.v = v := by rw [h]; rfl
        obtain ⟨⟨d', hd', el⟩, s1, s2⟩ := hc
        have : d = d' := way_inj O hd hd' (by rw [← hw, e1, el])
        subst this
        subst el
        refine ⟨⟨s1, by rw [e2, hva]⟩, fun x hx => ?_⟩
        obtain ⟨h3, h4⟩ := List.mem_filter.mp hx
        obtain ⟨a, ha, e⟩ := List.mem_map.mp h3
        subst e
        rw [s2 a ha (by simpa using h4)]
        exact Bool.false_ne_true
  · rw [show k + 24 = (k + 23) + 1 from rfl, w_is_row_nm T hn]
    have : r ≠ rowOf t v l := fun e => hn (by rw [e]; rfl)
    simp [this]
theorem split_nd : ∀ {a a' b b' : List Str} {y : Str}, (a ++ y :: b).Nodup → a ++ y :: b = a' ++ y :: b' → a = a'
  | [], [], _, _, _, _, _ => rfl
  | [], z :: a', b, b', y, nd, e => by
    injection e with e1 e2
    subst e1
    rw [List.nil_append, List.nodup_cons] at nd
    exact absurd (by rw [e2]; simp) nd.1
  | z :: a, [], b, b', y, nd, e => by
    injection e with e1 e2
    subst e1
    rw [List.cons_append, List.nodup_cons] at nd
    exact absurd (by simp) nd.1
  | z :: a, z' :: a', b, b', y, nd, e => by
    injection e with e1 e2
    subst e1
    rw [List.cons_append, List.nodup_cons] at nd
    rw [split_nd nd.2 e2]
theorem usd_nd {c : Cd} (K : CdOk c) {x : Str} : (usd c x).Nodup := by
  classical
  unfold usd
  exact K.tn.sublist List.filter_sublist
/-- what a term uses stands ahead of it among what is needed -/
theorem usd_before {c : Cd} (K : CdOk c) {x : Str} (hx : x ∈ c.nms) {t : Tm} (ht : t ∈ c.ts) {done as : List Str} (h : usd c x = done ++ t.nm :: as) {z : Str} (hz : z ∈ useT t) : z ∈ done := by
  classical
  obtain ⟨i, hi⟩ := List.mem_iff_getElem?.mp ht
  have hb := K.before hi hz
  have hr : Rch (us c) x t.nm := (mem_usd K hx).mp (by rw [h]; simp)
  have hu : z ∈ us c t.nm := by unfold us; rw [K.tm ht]; exact hz
  have hrz := hr.snoc hu
  have li : i < c.ts.length := (List.getElem?_eq_some_iff.mp hi).1
  have e : c.nms = (c.ts.take i).map (·.nm) ++ t.nm :: (c.ts.drop (i + 1)).map (·.nm) := by
    unfold Cd.nms
    conv => lhs; rw [← List.take_append_drop i c.ts, List.drop_eq_getElem_cons li]
    have : c.ts[i] = t := by rw [List.getElem?_eq_getElem li] at hi; exact Option.some.inj hi
    rw [this]
    simp
  have e2 : usd c x = ((c.ts.take i).map (·.nm)).filter (fun y => decide (Rch (us c) x y)) ++ t.nm :: ((c.ts.drop (i + 1)).map (·.nm)).filter fun y => decide (Rch (us c) x y) := by
    unfold usd
    rw [e, List.filter_append, List.filter_cons_of_pos (by simpa using hr)]
  have nd : (done ++ t.nm :: as).Nodup := h ▸ usd_nd K
  rw [split_nd nd (h.symm.trans e2)]
  exact List.mem_filter.mpr ⟨hb, by simpa using hrz⟩
theorem zip_map {β : Type} {f : Str → β} : ∀ {ns : List Str} {rs : List β}, rs.length = ns.length → (rs = ns.map f ↔ ∀ p ∈ ns.zip rs, p.2 = f p.1)
  | [], [], _ => by simp
  | n :: ns, r :: rs, h => by
    rw [List.map_cons, List.zip_cons_cons]
    constructor
    · intro e
      injection e with e1 e2
      intro p hp
      rcases List.mem_cons.mp hp with q | q
      · rw [q]; exact e1
      · exact (zip_map (by simpa using h)).mp e2 p q
    · intro hp
      have e1 : r = f n := hp (n, r) List.mem_cons_self
      have e2 : rs = ns.map f := (zip_map (by simpa using h)).mpr fun p q => hp p (List.mem_cons_of_mem _ q)
      exact List.cons_eq_cons.mpr ⟨e1, e2⟩
  | [], _ :: _, h => by cases h
  | _ :: _, [], h => by cases h
/-- slots of is_reading -/
noncomputable abbrev irst (c : Cd) (x : Str) (cs : List Int) (rs : List Row) (vs : List (Str × Int)) (o6 o7 : Option (D × Bool)) (mh : List (List D)) : S := ⟨[some (c.d, false), some (.str x, false), some (.tup (cs.map .int), false), some (.tup (rs.map Row.d), false), some (.lst ((usd c x).map .str), false), some (vd vs, true), o6, o7], mh⟩
def vsOf (c : Cd) (cs : List Int) (done : List Str) : List (Str × Int) := done.map fun y => (y, (rowAt c cs y).v)
theorem vs_get {c : Cd} {cs : List Int} {done : List Str} {y : Str} (h : y ∈ done) : getD ((vsOf c cs done).map fun p => ((.inr p.1 : Key), D.int p.2)) (.inr y) = some (.int (rowAt c cs y).v) := by
  rw [getD_map]
  unfold vsOf
  rw [List.find?_map]
  have : done.find? ((fun p : Str × Int => p.1 == y) ∘ fun y => (y, (rowAt c cs y).v)) = some y := by
    cases e : done.find? ((fun p : Str × Int => p.1 == y) ∘ fun y => (y, (rowAt c cs y).v)) with
    | none =>
      have := List.find?_eq_none.mp e y h
      simp at this
    | some z =>
      have := List.find?_some e
      have : z = y := by simpa using this
      rw [this]
  rw [this]
  rfl
theorem w_is_reading {c : Cd} (K : CdOk c) {cs : List Int} (hcs : cs.length = c.fs.length) {x : Str} (hx : x ∈ c.nms) (ht : ∃ v l, Told c cs x v l) {rs : List Row} (hl : rs.length = (usd c x).length) (hc : ∀ p ∈ (usd c x).zip rs, ∀ t ∈ c.ts, t.nm = p.1 → Cand t p.2) {k : Nat} :
    evF G pT (k + 25) i_is_reading [c.d, .str x, .tup (cs.map .int), .tup (rs.map Row.d)] mh = some (.bl (decide (rs = rdg c cs x)), mh) := by
  rw [r_is_reading]
  have e0 := w_used_by (G := G) (mh := mh) K hx (k + 22)
  have ul := usd_len (c := c) (x := x)
  have tl := K.tl
  have ez : zipD ((usd c x).map .str) (rs.map Row.d) = ((usd c x).zip rs).map fun p => D.tup [.str p.1, p.2.d] := by
    unfold zipD
    rw [List.zip_map, List.map_map]
    rfl
  obtain ⟨o, e1, h1⟩ := for_ind (bd := bdN (.tp (.cons (.nm 6) (.cons (.nm 7) .nil)))) (e := fun p : Str × Row => D.tup [.str p.1, p.2.d]) (body := cm G (evF G pT (k + 24)) c_is_reading_1)
    (fun as s => ∃ (done : List Str) (o6 o7 : Option (D × Bool)), (usd c x).zip rs = (done.map fun y => (y, rowAt c cs y)) ++ as ∧ s = irst c x cs rs (vsOf c cs done) o6 o7 mh)
    (fun o => (∃ s', o = .rt (.bl false) s' ∧ s'.mh = mh ∧ rs ≠ rdg c cs x) ∨ (∃ s', o = .nx s' ∧ s'.mh = mh ∧ rs = rdg c cs x))
    (by
      rintro s ⟨done, o6, o7, h1, rfl⟩
      refine .inr ⟨_, rfl, rfl, (zip_map hl).mpr fun p hp => ?_⟩
      rw [h1, List.append_nil] at hp
      obtain ⟨y, _, e⟩ := List.mem_map.mp hp
      rw [← e])
    (by
      rintro ⟨y, r⟩ as s P ⟨done, o6, o7, h1, rfl⟩ hP
      have hp : (y, r) ∈ (usd c x).zip rs := by rw [h1]; simp
      have hy : y ∈ usd c x := (List.of_mem_zip hp).1
      have hu : usd c x = done ++ y :: as.map (·.1) := by
        have := congrArg (List.map Prod.fst) h1
        rw [List.map_fst_zip (by omega)] at this
        rw [this]
        simp [Function.comp_def]
      have hr := (mem_usd K hx).mp hy
      obtain ⟨v, l, hv⟩ := told_rch K (cs := cs) hx hr ht
      obtain ⟨t, htm⟩ := Cd.tm_mem (K.rch hx hr)
      obtain ⟨h2, h3⟩ := Cd.tm_some htm
      subst h3
      have T : ROk c cs (outs c cs) t (vsOf c cs done) := ⟨K, h2, hcs, fun z hz => by
        have hzd := usd_before K hx h2 hu hz
        rw [vs_get hzd]
        have hzr := (mem_usd K hx).mp (show z ∈ usd c x by rw [hu]; exact List.mem_append_left _ hzd)
        obtain ⟨v', l', hv'⟩ := told_rch K (cs := cs) hx hzr ht
        obtain ⟨t', htm'⟩ := Cd.tm_mem (K.rch hx hzr)
        obtain ⟨h4, h5⟩ := Cd.tm_some htm'
        subst h5
        rw [rowAt_told K h4 hv']
        unfold Told at hv'
        unfold vl
        rw [hv']
        rfl⟩
      have e2 := w_is_row_cand (G := G) (mh := []) T hv (hc _ hp t h2 rfl) (k := k)
      have ra := rowAt_told K h2 hv
      have nk : noRef (vd (vsOf c cs done)) = true := nr_vd _
      have fb : ∀ b, flat (.bl b) = true := fun _ => rfl
      by_cases q : r = rowOf t v l
      · rw [decide_eq_true q] at e2
        have nn : t.nm ∉ (vsOf c cs done).map (·.1) := by
          have := usd_nd K (x := x)
          rw [hu, List.nodup_append] at this
          intro hm
          unfold vsOf at hm
          rw [List.map_map] at hm
          obtain ⟨z, hz, e⟩ := List.mem_map.mp hm
          exact this.2.2 z hz t.nm (by simp) e
        have dl : done.length ≤ c.ts.length := by
          have := congrArg List.length hu
          rw [List.length_append] at this
          omega
        have hr : rmO (vsOf c cs done).length = some () := rmO_of (by unfold vsOf; rw [List.length_map]; omega)
        have hr' : rmO ((vsOf c cs done).map fun p => ((.inr p.1 : Key), D.int p.2)).length = some () := by rw [List.length_map]; exact hr
        have hp := putD_new (f := D.int) (ks := vsOf c cs done) (x := t.nm) (d := .int r.v) nn
        have e2' : evF G pT (k + 24) i_is_row [c.d, .str t.nm, .tup (cs.map .int), r.d, .dct ((vsOf c cs done).map fun p => ((.inr p.1 : Key), D.int p.2))] [] = _ := e2
        have nk' : noRef (.dct ((vsOf c cs done).map fun p => ((.inr p.1 : Key), D.int p.2))) = true := nk
        simp only [irst, vd]
        simp [c_is_reading_1, e2', nk', fb, hr, hp, -List.map_map]
        refine hP _ ⟨done ++ [t.nm], some (.str t.nm, false), some (r.d, false), by rw [h1, q, ← ra]; simp, ?_⟩
        unfold irst vd vsOf
        rw [List.map_append, List.map_append]
        simp [ra, q]
      · rw [decide_eq_false q] at e2
        have e2' : evF G pT (k + 24) i_is_row [c.d, .str t.nm, .tup (cs.map .int), r.d, .dct ((vsOf c cs done).map fun p => ((.inr p.1 : Key), D.int p.2))] [] = _ := e2
        have nk' : noRef (.dct ((vsOf c cs done).map fun p => ((.inr p.1 : Key), D.int p.2))) = true := nk
        simp only [irst, vd]
        simp [c_is_reading_1, e2', nk', fb, -List.map_map]
        refine hP _ (.inl ⟨_, rfl, rfl, fun e => q ?_⟩)
        have := (zip_map hl).mp e _ hp
        rw [← ra]
        exact this)
    ((usd c x).zip rs) (irst c x cs rs (vsOf c cs []) none none mh) ⟨[], none, none, rfl, rfl⟩
  have lq : ((rs.length : Int) == ((usd c x).length : Int)) = true := by rw [hl]; simp
  have hl' : (rs.length : Int) = ((usd c x).length : Int) := by rw [hl]
  have e1' : forLoop (bdN (.tp (.cons (.nm 6) (.cons (.nm 7) .nil)))) (cm G (evF G pT (k + 24)) c_is_reading_1) (((usd c x).zip rs).map fun p => D.tup [.str p.1, p.2.d]) ⟨[some (c.d, false), some (.str x, false), some (.tup (cs.map .int), false), some (.tup (rs.map Row.d), false), some (.lst ((usd c x).map .str), false), some (.dct [], true), none, none], mh⟩ = some o := e1
  simp [c_is_reading, e0, hl, ez]
  rw [e1']
  rcases h1 with ⟨s', rfl, h2, h3⟩ | ⟨s', rfl, h2, h3⟩
  · simp [h2, h3]
  · simp [h2, h3]
theorem w_is_reading_len {c : Cd} (K : CdOk c) {cs : List Int} {x : Str} (hx : x ∈ c.nms) {rs : List Row} (hl : rs.length ≠ (usd c x).length) {k : Nat} :
    evF G pT (k + 25) i_is_reading [c.d, .str x, .tup (cs.map .int), .tup (rs.map Row.d)] mh = some (.bl false, mh) := by
  rw [r_is_reading]
  have e0 := w_used_by (G := G) (mh := mh) K hx (k + 22)
  have hl' : ¬ (rs.length : Int) = ((usd c x).length : Int) := by omega
  simp [c_is_reading, e0, hl']
end E3
set_option linter.all false
set_option maxRecDepth 100000
set_option maxHeartbeats 4000000
namespace E3
open PySem L2
variable {G : Nat → Option D} {mh : List (List D)}
/-! ### the law's own reckoning -/
theorem z_forN {bd : D → S → Option S} {body : S → Option Out} {s : S} : forLoop bd body [] s = some (.nx s) := id rfl
theorem z_forC {bd : D → S → Option S} {body : S → Option Out} {s : S} {d : D} {ds : List D} : forLoop bd body (d :: ds) s = (bd d s).bind fun s1 => (body s1).bind fun o => match o with
    | .nx s2 => forLoop bd body ds s2
    | .ct s2 => forLoop bd body ds s2
    | .bk s2 => some (.nx s2)
    | .rt d s2 => some (.rt d s2)
    | .rf d s2 => some (.rf d s2) := id rfl
theorem w_law_names : ∀ (t : Tr), t.size ≤ 15000000 → ∀ (k : Nat), evF G pT (k + t.depth + 1) i_law_names [t.d, .str wTerm] mh = some (.lst (t.terms.map .str), mh) := by
  intro t
  have len : ∀ (t : Tr), t.terms.length ≤ t.size := fun t => t.nms_len true
  induction t with
  | num i => intro _ k; rw [r_law_names]; simp -implicitDefEqProofs [c_law_names, c_law_names_1, Tr.d, wNum, wTerm, Tr.terms, z_forN, z_forC, rmE_of]
  | fact x => intro _ k; rw [r_law_names]; simp -implicitDefEqProofs [c_law_names, c_law_names_1, Tr.d, wFact, wTerm, Tr.terms, z_forN, z_forC, rmE_of]
  | term x => intro _ k; rw [r_law_names]; simp -implicitDefEqProofs [c_law_names, c_law_names_1, Tr.d, wTerm, Tr.terms, z_forN, z_forC, rmE_of]
  | tru => intro _ k; rw [r_law_names]; simp -implicitDefEqProofs [c_law_names, c_law_names_1, Tr.d, wTrue, wTerm, Tr.terms, z_forN, z_forC, rmE_of]
  | times i a ih =>
    intro hz k
    have e := ih (by simp only [Tr.size] at hz; omega) k
    have la : rmE a.terms.length = some () := rmE_of (by have := len a; simp only [Tr.size] at hz; omega)
    show evF G pT ((k + a.depth + 1) + 1) i_law_names _ mh = _
    rw [r_law_names]
    simp only [wTerm] at e
    simp -implicitDefEqProofs [c_law_names, c_law_names_1, Tr.d, wTimes, wTerm, Tr.terms, z_forN, z_forC, rmE_of, e, la]
  | part a i ih =>
    intro hz k
    have e := ih (by simp only [Tr.size] at hz; omega) k
    have la : rmE a.terms.length = some () := rmE_of (by have := len a; simp only [Tr.size] at hz; omega)
    show evF G pT ((k + a.depth + 1) + 1) i_law_names _ mh = _
    rw [r_law_names]
    simp only [wTerm] at e
    simp -implicitDefEqProofs [c_law_names, c_law_names_1, Tr.d, wPart, wTerm, Tr.terms, z_forN, z_forC, rmE_of, e, la]
  | nt a ih =>
    intro hz k
    have e := ih (by simp only [Tr.size] at hz; omega) k
    have la : rmE a.terms.length = some () := rmE_of (by have := len a; simp only [Tr.size] at hz; omega)
    show evF G pT ((k + a.depth + 1) + 1) i_law_names _ mh = _
    rw [r_law_names]
    simp only [wTerm] at e
    simp -implicitDefEqProofs [c_law_names, c_law_names_1, Tr.d, wNot, wTerm, Tr.terms, z_forN, z_forC, rmE_of, e, la]
  | bin o a b iha ihb =>
    intro hz k
    have ea := iha (by simp only [Tr.size] at hz; omega) (k + (max a.depth b.depth - a.depth))
    have eb := ihb (by simp only [Tr.size] at hz; omega) (k + (max a.depth b.depth - b.depth))
    rw [show k + (max a.depth b.depth - a.depth) + a.depth + 1 = k + max a.depth b.depth + 1 by omega] at ea
    rw [show k + (max a.depth b.depth - b.depth) + b.depth + 1 = k + max a.depth b.depth + 1 by omega] at eb
    have la : rmE a.terms.length = some () := rmE_of (by have := len a; simp only [Tr.size] at hz; omega)
    have lb : rmE (a.terms.length + b.terms.length) = some () := rmE_of (by have := len a; have := len b; simp only [Tr.size] at hz; omega)
    show evF G pT ((k + max a.depth b.depth + 1) + 1) i_law_names _ mh = _
    rw [r_law_names]
    simp only [wTerm] at ea eb
    cases o <;> simp -implicitDefEqProofs [c_law_names, c_law_names_1, Tr.d, Bn.w, wTerm, Tr.terms, z_forN, z_forC, rmE_of, ea, eb, la, lb]
theorem at0_head {α : Type} {l : List α} {x : α} (h : ∃ r, l = x :: r) : atI l 0 = some x := by
  obtain ⟨r, rfl⟩ := h
  exact at_0
theorem w_law_place {k : Nat} {fs : List Fact} {x : Str} {j : Nat} (hl : fs.length ≤ 16000000) (h3 : ∀ (m : Nat) f, m < j → fs[m]? = some f → f.nm ≠ x) (h4 : ∃ f, fs[j]? = some f ∧ f.nm = x) :
    evF G pT (k + 1) i_law_place [.tup (fs.map Fact.d), .str x] mh = some (.int (j : Nat), mh) := by
  rw [r_law_place]
  let p : Nat → Bool := fun m => match fs[m]? with | some f => f.nm == x | none => false
  obtain ⟨f, h4, h5⟩ := h4
  have hj : j < fs.length := (List.getElem?_eq_some_iff.mp h4).1
  have hf : (List.range fs.length).find? p = some j := by
    rw [List.find?_range_eq_some]
    refine ⟨?_, by simpa using hj, fun m hm => ?_⟩
    · show (match fs[j]? with | some f => f.nm == x | none => false) = true
      rw [h4]; simpa using h5
    · show (!(match fs[m]? with | some f => f.nm == x | none => false)) = true
      have hm' : m < fs.length := by omega
      rw [List.getElem?_eq_getElem hm']
      simpa using h3 m _ hm (List.getElem?_eq_getElem hm')
  obtain ⟨r, hr⟩ := head_find hf
  have e : (sm G (evF G pT k) e_law_place_1).v ⟨[some (.tup (fs.map Fact.d), false), some (.str x, false), none], mh⟩ = some (.lst (((List.range fs.length).filter p).map fun m : Nat => .int m), .fr, ⟨[some (.tup (fs.map Fact.d), false), some (.str x, false), none], mh⟩) := by
    rw [e_law_place_1, y_lc]
    refine lcF_gen (own := [2]) (tg := .nm 2) (e := fun m : Nat => D.int m) (ds := List.range fs.length) ⟨[some (.tup (fs.map Fact.d), false), some (.str x, false), none], mh⟩ (fun m => ⟨[some (.tup (fs.map Fact.d), false), some (.str x, false), some (.int m, false)], mh⟩) p (fun m => .int m) (by simp -implicitDefEqProofs [rgO_len (l := fs) (by omega)]) (fun _ _ => rfl) (fun _ _ => rfl) (fun m hm => ?_) (fun _ _ _ => by simp) (by simpa using hl)
    have hm' : m < fs.length := by simpa using hm
    have g1 : fs[m]? = some fs[m] := List.getElem?_eq_getElem hm'
    have ha : atI (fs.map Fact.d) (m : Int) = some fs[m].d := by rw [at_map, at_nat g1]; rfl
    have hp : p m = (fs[m].nm == x) := by show (match fs[m]? with | some f => f.nm == x | none => false) = _; rw [g1]
    have g2 : itemD fs[m].d (.int 0) = some (.str fs[m].nm) := by simp [Fact.d]
    simp -implicitDefEqProofs [ha, hp, g2]
  rw [hr] at e
  simp -implicitDefEqProofs [c_law_place, e]
theorem w_law_worked {fs : List Fact} {cs : List Int} {ks : List (Key × D)} {cv kv : Str → Int} (hl : fs.length ≤ 16000000) : ∀ (t : Tr), t.isA → (∀ x ∈ t.facts, FOk fs cs cv x) → (∀ x ∈ t.terms, getD ks (.inr x) = some (.int (kv x))) → ∀ k,
    evF G pT (k + t.depth + 2) i_law_worked [t.d, .tup (fs.map Fact.d), .tup (cs.map .int), .dct ks] mh = some (.int (t.am cv kv), mh) := by
  intro t
  induction t with
  | num i =>
    intro _ _ _ k
    rw [r_law_worked]
    simp -implicitDefEqProofs [c_law_worked, Tr.d, wNum, Tr.am]
  | fact x =>
    intro _ hf _ k
    obtain ⟨j, h1, h2, h3⟩ := hf x List.mem_cons_self
    have e := fun k => w_law_place (G := G) (mh := mh) (k := k) hl h1 h2
    rw [r_law_worked]
    simp -implicitDefEqProofs [c_law_worked, Tr.d, wFact, Tr.am, e, at_ints h3]
  | term x =>
    intro _ _ ht k
    have e := ht x List.mem_cons_self
    rw [r_law_worked]
    simp -implicitDefEqProofs [c_law_worked, Tr.d, wTerm, Tr.am, e]
  | tru => intro h; exact h.elim
  | nt a _ => intro h; exact h.elim
  | times i a ih =>
    intro hA hf ht k
    obtain ⟨h1, h2⟩ := hA
    have e := ih h2 hf ht k
    show evF G pT ((k + a.depth + 2) + 1) i_law_worked _ mh = _
    rw [r_law_worked]
    simp -implicitDefEqProofs [c_law_worked, Tr.d, wTimes, Tr.am, e, z_mul h1]
  | part a n ih =>
    intro hA hf ht k
    obtain ⟨h1, h2, h3⟩ := hA
    have e := ih h3 hf ht k
    show evF G pT ((k + a.depth + 2) + 1) i_law_worked _ mh = _
    rw [r_law_worked]
    simp -implicitDefEqProofs [c_law_worked, Tr.d, wPart, Tr.am, e, z_fdv h1 h2]
  | bin o a b iha ihb =>
    intro hA hf ht k
    obtain ⟨h1, h2, h3⟩ := hA
    have hf' : (∀ x ∈ a.facts, FOk fs cs cv x) ∧ ∀ x ∈ b.facts, FOk fs cs cv x := ⟨fun x h => hf x (List.mem_append_left _ h), fun x h => hf x (List.mem_append_right _ h)⟩
    have ht' : (∀ x ∈ a.terms, getD ks (.inr x) = some (.int (kv x))) ∧ ∀ x ∈ b.terms, getD ks (.inr x) = some (.int (kv x)) := ⟨fun x h => ht x (List.mem_append_left _ h), fun x h => ht x (List.mem_append_right _ h)⟩
    have ea := iha h2 hf'.1 ht'.1 (k + (max a.depth b.depth - a.depth))
    have eb := ihb h3 hf'.2 ht'.2 (k + (max a.depth b.depth - b.depth))
    rw [show k + (max a.depth b.depth - a.depth) + a.depth + 2 = k + max a.depth b.depth + 2 by omega] at ea
    rw [show k + (max a.depth b.depth - b.depth) + b.depth + 2 = k + max a.depth b.depth + 2 by omega] at eb
    have mn : ∀ x y : Int, b1D .min1 (.lst [.int x, .int y]) = some (.int (if y < x then y else x), .st) := fun x y => rfl
    have mx : ∀ x y : Int, b1D .max1 (.lst [.int x, .int y]) = some (.int (if x < y then y else x), .st) := fun x y => rfl
    show evF G pT ((k + max a.depth b.depth + 2) + 1) i_law_worked _ mh = _
    rw [r_law_worked]
    cases o with
    | plus => simp -implicitDefEqProofs [c_law_worked, Tr.d, Bn.w, Tr.am, ea, eb]
    | less => simp -implicitDefEqProofs [c_law_worked, Tr.d, Bn.w, Tr.am, ea, eb]
    | least => simp -implicitDefEqProofs [c_law_worked, Tr.d, Bn.w, Tr.am, ea, eb, mn]
    | most => simp -implicitDefEqProofs [c_law_worked, Tr.d, Bn.w, Tr.am, ea, eb, mx]
    | _ => cases h1
theorem w_law_truth {fs : List Fact} {cs : List Int} {ks : List (Key × D)} {cv kv : Str → Int} (hl : fs.length ≤ 16000000) : ∀ (t : Tr), t.isC → (∀ x ∈ t.facts, FOk fs cs cv x) → (∀ x ∈ t.terms, getD ks (.inr x) = some (.int (kv x))) → ∀ k,
    evF G pT (k + t.depth + 2) i_law_truth [t.d, .tup (fs.map Fact.d), .tup (cs.map .int), .dct ks] mh = some (.bl (t.cn cv kv), mh) := by
  intro t
  induction t with
  | num i => intro h; exact h.elim
  | fact i => intro h; exact h.elim
  | term i => intro h; exact h.elim
  | times i a _ => intro h; exact h.elim
  | part a i _ => intro h; exact h.elim
  | tru =>
    intro _ _ _ k
    rw [r_law_truth]
    simp -implicitDefEqProofs [c_law_truth, Tr.d, wTrue, Tr.cn]
  | nt a ih =>
    intro hA hf ht k
    have e := ih hA hf ht k
    show evF G pT ((k + a.depth + 2) + 1) i_law_truth _ mh = _
    rw [r_law_truth]
    simp -implicitDefEqProofs [c_law_truth, Tr.d, wNot, Tr.cn, e]
  | bin o a b iha ihb =>
    intro hA hf ht k
    have hf' : (∀ x ∈ a.facts, FOk fs cs cv x) ∧ ∀ x ∈ b.facts, FOk fs cs cv x := ⟨fun x h => hf x (List.mem_append_left _ h), fun x h => hf x (List.mem_append_right _ h)⟩
    have ht' : (∀ x ∈ a.terms, getD ks (.inr x) = some (.int (kv x))) ∧ ∀ x ∈ b.terms, getD ks (.inr x) = some (.int (kv x)) := ⟨fun x h => ht x (List.mem_append_left _ h), fun x h => ht x (List.mem_append_right _ h)⟩
    have e1 : k + (max a.depth b.depth - a.depth) + a.depth + 2 = k + max a.depth b.depth + 2 := by omega
    have e2 : k + (max a.depth b.depth - b.depth) + b.depth + 2 = k + max a.depth b.depth + 2 := by omega
    show evF G pT ((k + max a.depth b.depth + 2) + 1) i_law_truth _ mh = _
    rw [r_law_truth]
    cases o with
    | is =>
      have ea := w_law_worked (G := G) (mh := mh) hl a hA.1 hf'.1 ht'.1 (k + (max a.depth b.depth - a.depth))
      have eb := w_law_worked (G := G) (mh := mh) hl b hA.2 hf'.2 ht'.2 (k + (max a.depth b.depth - b.depth))
      rw [e1] at ea
      rw [e2] at eb
      simp -implicitDefEqProofs [c_law_truth, Tr.d, Bn.w, Tr.cn, ea, eb]
    | below =>
      have ea := w_law_worked (G := G) (mh := mh) hl a hA.1 hf'.1 ht'.1 (k + (max a.depth b.depth - a.depth))
      have eb := w_law_worked (G := G) (mh := mh) hl b hA.2 hf'.2 ht'.2 (k + (max a.depth b.depth - b.depth))
      rw [e1] at ea
      rw [e2] at eb
      simp -implicitDefEqProofs [c_law_truth, Tr.d, Bn.w, Tr.cn, ea, eb]
    | both =>
      have ea := iha hA.1 hf'.1 ht'.1 (k + (max a.depth b.depth - a.depth))
      have eb := ihb hA.2 hf'.2 ht'.2 (k + (max a.depth b.depth - b.depth))
      rw [e1] at ea
      rw [e2] at eb
      cases h : a.cn cv kv <;> rw [h] at ea <;> simp -implicitDefEqProofs [c_law_truth, Tr.d, Bn.w, Tr.cn, ea, eb, h]
    | either =>
      have ea := iha hA.1 hf'.1 ht'.1 (k + (max a.depth b.depth - a.depth))
      have eb := ihb hA.2 hf'.2 ht'.2 (k + (max a.depth b.depth - b.depth))
      rw [e1] at ea
      rw [e2] at eb
      cases h : a.cn cv kv <;> rw [h] at ea <;> simp -implicitDefEqProofs [c_law_truth, Tr.d, Bn.w, Tr.cn, ea, eb, h]
    | _ => exact hA.elim
@[simp] theorem sl_to2 {xs : List D} : sliceD (.lst xs) none (some 2) = some (.lst (xs.take 2), .fr) := by
  show some (D.lst (cutD xs none (some ((2 : Nat) : Int))), Tg.fr) = _
  rw [cut_to]
theorem w_law_heard {cls : List Cl} {ks : List (Key × D)} {sp : Str → Bool} (hl : cls.length ≤ 1000000) (hs : ∀ c ∈ cls, getD ks (.inr c.lab) = some (.bl (sp c.lab))) : ∀ (n : Nat) (l : Option Str), Ht cls n l → ∀ k,
    evF G pT (k + n + 1) i_law_heard [.tup (cls.map Cl.d), ovD l, .dct ks] mh = some (.tup ((hear cls sp (n + 1) l).map .str), mh) := by
  have step : ∀ (k n : Nat) (l : Option Str), (∀ c ∈ excs cls l, evF G pT k i_law_heard [.tup (cls.map Cl.d), .str c.lab, .dct ks] mh = some (.tup ((hear cls sp n (some c.lab)).map .str), mh)) →
      evF G pT (k + 1) i_law_heard [.tup (cls.map Cl.d), ovD l, .dct ks] mh = some (.tup ((hear cls sp (n + 1) l).map .str), mh) := by
    intro k n l h
    rw [r_law_heard]
    obtain ⟨o, e1, e2⟩ := for_ind (bd := bdN (.nm 4)) (body := cm G (evF G pT k) c_law_heard_1) (e := Cl.d)
      (fun as s => ∃ (acc : List Str) (o1 o2 : Option (D × Bool)), (∀ c ∈ as, c ∈ cls) ∧ acc.length + as.length ≤ 16000000 ∧ s = ⟨[some (.tup (cls.map Cl.d), false), some (ovD l, false), some (.dct ks, false), some (.lst (acc.map .str), true), o1, o2], mh⟩ ∧ hear cls sp (n + 1) l = hrL ((as.filter fun c => c.over == l).map (spk cls sp n)) acc)
      (fun o => (∃ s', o = .rt (.tup ((hear cls sp (n + 1) l).map .str)) s' ∧ s'.mh = mh) ∨ ∃ (acc : List Str) (o1 o2 : Option (D × Bool)), o = .nx ⟨[some (.tup (cls.map Cl.d), false), some (ovD l, false), some (.dct ks, false), some (.lst (acc.map .str), true), o1, o2], mh⟩ ∧ hear cls sp (n + 1) l = acc.take 2)
      (fun s ⟨acc, o1, o2, _, _, h3, h4⟩ => .inr ⟨acc, o1, o2, by rw [h3], h4⟩)
      (fun a as s P ⟨acc, o1, o2, hm, hn, h3, h4⟩ hP => by
        subst h3
        have ha := hm a List.mem_cons_self
        by_cases q : a.over = l
        · have q' : (a.over == l) = true := by simpa using q
          rw [List.filter_cons_of_pos (p := fun c : Cl => c.over == l) q', List.map_cons] at h4
          have hc := h a (List.mem_filter.mpr ⟨ha, q'⟩)
          have h2 := hear_le (cls := cls) (sp := sp) n (some a.lab)
          have hsp := hs a ha
          rw [show spk cls sp n a = if hear cls sp n (some a.lab) = [] then (if sp a.lab then [a.lab] else []) else hear cls sp n (some a.lab) from rfl] at h4
          generalize hear cls sp n (some a.lab) = x at hc h2 h4
          have hz : rmE (acc.length + 1) = some () := rmE_of (by simp only [List.length_cons] at hn; omega)
          have hz' : rmE acc.length = some () := rmE_of (by simp only [List.length_cons] at hn; omega)
          match x, hc, h2, h4 with
          | [], hc, _, h4 =>
            cases hp : sp a.lab with
            | true =>
              rw [hp] at hsp h4
              simp [c_law_heard_1, q, hc, hsp, hz]
              exact hP _ ⟨acc ++ [a.lab], some (a.d, false), some (.tup [.str a.lab], false), fun c hc => hm c (List.mem_cons_of_mem _ hc), by simp only [List.length_cons, List.length_append, List.length_nil] at hn ⊢; omega, by simp, by simpa [hrL] using h4⟩
            | false =>
              rw [hp] at hsp h4
              simp [c_law_heard_1, q, hc, hsp, hz']
              exact hP _ ⟨acc, some (a.d, false), some (.tup [], false), fun c hc => hm c (List.mem_cons_of_mem _ hc), by simp only [List.length_cons] at hn; omega, by simp, by simpa [hrL] using h4⟩
          | [x], hc, _, h4 =>
            simp [c_law_heard_1, q, hc, hz]
            exact hP _ ⟨acc ++ [x], some (a.d, false), some (.tup [.str x], false), fun c hc => hm c (List.mem_cons_of_mem _ hc), by simp only [List.length_cons, List.length_append, List.length_nil] at hn ⊢; omega, by simp, by simpa [hrL] using h4⟩
          | [x, y], hc, _, h4 =>
            simp [c_law_heard_1, q, hc]
            exact hP _ (.inl ⟨_, by rw [h4]; rfl, rfl⟩)
        · have q' : (a.over == l) = false := by simpa using q
          rw [List.filter_cons_of_neg (p := fun c : Cl => c.over == l) (by simpa using q)] at h4
          simp [c_law_heard_1, q']
          exact hP _ ⟨acc, some (a.d, false), o2, fun c hc => hm c (List.mem_cons_of_mem _ hc), by simp only [List.length_cons] at hn; omega, rfl, h4⟩)
      cls ⟨[some (.tup (cls.map Cl.d), false), some (ovD l, false), some (.dct ks, false), some (.lst [], true), none, none], mh⟩ ⟨[], none, none, fun _ h => h, by simp; omega, rfl, rfl⟩
    rcases e2 with ⟨s', rfl, e3⟩ | ⟨acc, o1, o2, rfl, e3⟩
    · simp [c_law_heard, e1, e3]
    · simp [c_law_heard, e1, e3, List.map_take]
  intro n
  induction n with
  | zero =>
    intro l h k
    refine step k 0 l fun c hc => ?_
    rw [show excs cls l = [] from h] at hc
    cases hc
  | succ n ih =>
    intro l h k
    exact step (k + n + 1) (n + 1) l fun c hc => ih (some c.lab) (h c hc) k
end E3
set_option linter.all false
set_option maxRecDepth 100000
set_option maxHeartbeats 4000000
namespace E3
open PySem L2
variable {G : Nat → Option D} {mh : List (List D)}
/-! ### law_term_in -/
abbrev lst_ (c : Cd) (t : Tm) (cs : List Int) (ks : Kn) (used : List Str) (o6 o7 o8 o9 o10 o11 : Option (D × Bool)) (mh : List (List D)) : S := ⟨[some (c.d, false), some (.str t.nm, false), some (.tup (cs.map .int), false), some (kd ks, false), some (.tup (t.cls.map Cl.d), false), some (.lst (used.map .str), true), o6, o7, o8, o9, o10, o11, none], mh⟩
theorem pairs_tm : ∀ {ts : List Tm}, pairsD (ts.map Tm.d) = some (ts.map fun t => ((.inr t.nm : Key), D.tup (t.cls.map Cl.d)))
  | [] => rfl
  | t :: ts => by
    show (match keyD (.str t.nm), pairsD (ts.map Tm.d) with | some k, some r => some ((k, D.tup (t.cls.map Cl.d)) :: r) | _, _ => none) = _
    rw [pairs_tm]
    rfl
theorem pairs_of {α : Type} {n : α → Str} {f : α → D} : ∀ {xs : List α}, pairsD (xs.map fun x => D.tup [.str (n x), f x]) = some (xs.map fun x => ((.inr (n x) : Key), f x))
  | [] => rfl
  | x :: xs => by
    show (match keyD (.str (n x)), pairsD (xs.map fun x => D.tup [.str (n x), f x]) with | some k, some r => some ((k, f x) :: r) | _, _ => none) = _
    rw [pairs_of]
    rfl
theorem dict_of {α : Type} {n : α → Str} {f : α → D} {xs : List α} (nd : (xs.map n).Nodup) : b1D .dict (.lst (xs.map fun x => D.tup [.str (n x), f x])) = some (.dct (xs.map fun x => (.inr (n x), f x)), .fr) := by
  show (pairsD _).map _ = _
  rw [pairs_of]
  have e := putD_fold (f := f) (xs := xs.map fun x => (n x, x)) (ks := []) (by rw [List.nil_append, List.map_map]; exact nd)
  rw [List.nil_append, List.map_map] at e
  show some (D.dct _, Tg.fr) = _
  rw [show (xs.map fun x => ((.inr (n x) : Key), f x)).foldl (fun a k => putD a k.1 k.2) [] = xs.map fun x => ((.inr (n x) : Key), f x) from e]
theorem dict_tm {c : Cd} (K : CdOk c) : b1D .dict (.tup (c.ts.map Tm.d)) = some (.dct (c.ts.map fun t => (.inr t.nm, .tup (t.cls.map Cl.d))), .fr) := by
  show (pairsD _).map _ = _
  rw [pairs_tm]
  have e := putD_fold (f := fun t : Tm => D.tup (t.cls.map Cl.d)) (xs := c.ts.map fun t => (t.nm, t)) (ks := []) (by rw [List.nil_append, List.map_map]; exact K.tn)
  rw [List.nil_append, List.map_map] at e
  show some (D.dct _, Tg.fr) = _
  rw [show (c.ts.map fun t => ((.inr t.nm : Key), D.tup (t.cls.map Cl.d))).foldl (fun a k => putD a k.1 k.2) [] = c.ts.map fun t => ((.inr t.nm : Key), D.tup (t.cls.map Cl.d)) from e]
theorem dict_tm_get {c : Cd} (K : CdOk c) {t : Tm} (ht : t ∈ c.ts) : getD (c.ts.map fun t => (.inr t.nm, .tup (t.cls.map Cl.d))) (.inr t.nm) = some (.tup (t.cls.map Cl.d)) := by
  have := getD_map (f := fun t : Tm => D.tup (t.cls.map Cl.d)) (ks := c.ts.map fun t => (t.nm, t)) (x := t.nm)
  rw [List.map_map] at this
  refine this.trans ?_
  rw [List.find?_map]
  have h2 : c.ts.find? ((fun p : Str × Tm => p.1 == t.nm) ∘ fun t => (t.nm, t)) = some t := K.tm ht
  rw [h2]
  rfl
section
variable {c : Cd} {cs : List Int} {ks : Kn} {t : Tm} (T : TOk c cs ks t)
include T
theorem w_li_used {k : Nat} : ∃ o6, forLoop (bdN (.nm 6)) (cm G (evF G pT (k + 21)) c_law_term_in_1) (t.cls.map Cl.d) (lst_ c t cs ks [] none none none none none none mh) = some (.nx (lst_ c t cs ks (useT t) o6 none none none none none mh)) := by
  obtain ⟨b, hb⟩ := T.cl
  have hl := T.K.cl t T.tm
  obtain ⟨o, e, o6, rfl⟩ := for_ind (bd := bdN (.nm 6)) (e := Cl.d) (body := cm G (evF G pT (k + 21)) c_law_term_in_1)
    (fun as s => ∃ (done : List Cl) (o6 : Option (D × Bool)), t.cls = done ++ as ∧ (done.flatMap fun c => c.cond.terms ++ c.am.terms).length ≤ 120 * done.length ∧ s = lst_ c t cs ks (done.flatMap fun c => c.cond.terms ++ c.am.terms) o6 none none none none none mh)
    (fun o => ∃ o6, o = .nx (lst_ c t cs ks (useT t) o6 none none none none none mh))
    (by
      rintro s ⟨done, o6, h1, _, rfl⟩
      rw [List.append_nil] at h1
      exact ⟨o6, by unfold useT; rw [h1]⟩)
    (by
      rintro a as s P ⟨done, o6, h1, h2, rfl⟩ hP
      have o := hb a (by rw [h1]; simp)
      have e1 := w_law_names (G := G) (mh := mh) a.cond o.cz.z (k + 20 - a.cond.depth)
      have e2 := w_law_names (G := G) (mh := mh) a.am o.az.z (k + 20 - a.am.depth)
      rw [show k + 20 - a.cond.depth + a.cond.depth + 1 = k + 21 by have := o.cd; omega] at e1
      rw [show k + 20 - a.am.depth + a.am.depth + 1 = k + 21 by have := o.ad; omega] at e2
      simp only [wTerm] at e1 e2
      have l1 : a.cond.terms.length ≤ 60 := o.cz.n true
      have l2 : a.am.terms.length ≤ 60 := o.az.n true
      have ld : done.length ≤ 24 := by rw [h1, List.length_append] at hl; omega
      have r1 : rmE ((done.flatMap fun c => c.cond.terms ++ c.am.terms).length + a.cond.terms.length) = some () := rmE_of (by omega)
      have r2 : rmE ((done.flatMap fun c => c.cond.terms ++ c.am.terms).length + a.cond.terms.length + a.am.terms.length) = some () := rmE_of (by omega)
      generalize hu : (done.flatMap fun c => c.cond.terms ++ c.am.terms) = used at h2 r1 r2
      simp -implicitDefEqProofs [c_law_term_in_1, e1, e2, r1, r2]
      refine hP _ ⟨done ++ [a], some (a.d, false), by rw [h1]; simp, ?_, ?_⟩
      · rw [List.flatMap_append, hu]
        simp
        omega
      · unfold lst_
        rw [List.flatMap_append, hu]
        simp)
    t.cls (lst_ c t cs ks [] none none none none none none mh) ⟨[], none, rfl, by simp, rfl⟩
  exact ⟨o6, e⟩
theorem w_li_loop {F : Fn} {o6 : Option (D × Bool)} : ∃ o, forLoop (bdN (.tp (.cons (.nm 7) (.cons (.nm 8) .nil)))) (cm G F c_law_term_in_2) (c.ts.map Tm.d) (lst_ c t cs ks (useT t) o6 none none none none none mh) = some o ∧
    ((∃ x s', c.nms.find? (lacks ks t) = some x ∧ o = .rt (Oc.waits x).d s' ∧ s'.mh = mh) ∨ (c.nms.find? (lacks ks t) = none ∧ ∃ o7 o8, o = .nx (lst_ c t cs ks (useT t) o6 o7 o8 none none none mh))) := by
  refine for_ind (bd := bdN (.tp (.cons (.nm 7) (.cons (.nm 8) .nil)))) (e := Tm.d) (fun as s => c.nms.find? (lacks ks t) = (as.map (·.nm)).find? (lacks ks t) ∧ ∃ o7 o8, s = lst_ c t cs ks (useT t) o6 o7 o8 none none none mh) _ ?_ ?_ c.ts _ ⟨rfl, none, none, rfl⟩
  · rintro s ⟨h, o7, o8, rfl⟩
    exact .inr ⟨h, o7, o8, rfl⟩
  · rintro u as s P ⟨h, o7, o8, rfl⟩ hP
    have bt : bdN (.tp (.cons (.nm 7) (.cons (.nm 8) .nil))) u.d (lst_ c t cs ks (useT t) o6 o7 o8 none none none mh) = some (lst_ c t cs ks (useT t) o6 (some (.str u.nm, false)) (some (.tup (u.cls.map Cl.d), false)) none none none mh) := by
      show bdN _ (.tup [.str u.nm, .tup (u.cls.map Cl.d)]) _ = _
      simp -implicitDefEqProofs
    rw [List.map_cons] at h
    rw [bt]
    by_cases hu : u.nm ∈ useT t
    · obtain ⟨o, ho⟩ := T.us u.nm hu
      have hg : itemD (kd ks) (.str u.nm) = some o.d := by
        show getD _ (.inr u.nm) = _
        rw [kn_get, ho]; rfl
      have ew : (o.w == (⟨#[116, 111, 108, 100]⟩ : Str)) = o.isT := Oc.wT
      have it : isTold ks u.nm = o.isT := by unfold isTold; rw [ho]
      cases hT : o.isT with
      | true =>
        rw [hT] at ew it
        simp -implicitDefEqProofs [c_law_term_in_2, hu, hg, ew]
        refine hP _ ⟨?_, _, _, rfl⟩
        rw [h, List.find?_cons_of_neg (by simp [lacks, it])]
      | false =>
        rw [hT] at ew it
        simp -implicitDefEqProofs [c_law_term_in_2, hu, hg, ew]
        refine hP _ (.inl ⟨u.nm, _, ?_, rfl, rfl⟩)
        rw [h, List.find?_cons_of_pos (by simp [lacks, it, hu])]
    · simp -implicitDefEqProofs [c_law_term_in_2, hu]
      refine hP _ ⟨?_, _, _, rfl⟩
      rw [h, List.find?_cons_of_neg (by simp [lacks, hu])]
theorem w_li_vals {F : Fn} {o6 o7 o8 : Option (D × Bool)} : (sm G F e_law_term_in_1).v (lst_ c t cs ks (useT t) o6 o7 o8 none none none mh) = some (.lst ((vkn ks).map fun p => .tup [.str p.1, .int p.2]), .fr, lst_ c t cs ks (useT t) o6 o7 o8 none none none mh) := by
  rw [e_law_term_in_1, y_lc]
  refine (lcF_gen (own := [7]) (tg := .nm 7) (e := fun p : Str × Oc => D.str p.1) (ds := ks) (lst_ c t cs ks (useT t) o6 o7 o8 none none none mh) (fun p => lst_ c t cs ks (useT t) o6 (some (.str p.1, false)) o8 none none none mh) (fun p => p.2.isT) (fun p => .tup [.str p.1, .int p.2.val]) (by simp [kd]) (fun _ _ => rfl) (fun _ _ => rfl) (fun p hp => ?_) (fun p hp h => ?_) (by have := T.kl; omega)).trans ?_
  · have hg : itemD (kd ks) (.str p.1) = some p.2.d := by
      show getD _ (.inr p.1) = _
      rw [kn_get, kn_mem T.nd hp]; rfl
    have ew : (p.2.w == (⟨#[116, 111, 108, 100]⟩ : Str)) = p.2.isT := Oc.wT
    simp [hg, ew]
  · have hg : itemD (kd ks) (.str p.1) = some p.2.d := by
      show getD _ (.inr p.1) = _
      rw [kn_get, kn_mem T.nd hp]; rfl
    simp [hg, Oc.d1 h]
  · unfold vkn
    rw [List.map_map]
    rfl
theorem w_li_cond {k : Nat} {a : Cl} (ha : a ∈ t.cls) (hn : c.nms.find? (lacks ks t) = none) : evF G pT (k + 22) i_law_truth [a.cond.d, .tup (c.fs.map Fact.d), .tup (cs.map .int), vd (vkn ks)] mh = some (.bl (spf c cs ks t a.lab), mh) := by
  obtain ⟨b, hb⟩ := T.cl
  have o := hb a ha
  have e := w_law_truth (G := G) (mh := mh) (fs := c.fs) (cs := cs) (ks := (vkn ks).map fun p => (.inr p.1, .int p.2)) (cv := fv c.fs cs) (kv := vl ks) (by have := T.K.fl; omega) a.cond o.cc (fun x hx => fv_ok T.cs (o.cf x hx)) (fun x hx => vkn_get T.nd (by
    have hu : x ∈ useT t := List.mem_flatMap.mpr ⟨a, ha, List.mem_append_left _ hx⟩
    have := List.find?_eq_none.mp hn x (T.K.used T.tm hu)
    unfold lacks at this
    simpa [hu] using this)) (k + 20 - a.cond.depth)
  rw [show k + 20 - a.cond.depth + a.cond.depth + 2 = k + 22 by have := o.cd; omega] at e
  rw [show spf c cs ks t a.lab = a.cond.cn (fv c.fs cs) (vl ks) by unfold spf; rw [clOf_mem (T.K.ok t T.tm).nd ha]]
  exact e
theorem w_li_am {k : Nat} {a : Cl} (ha : a ∈ t.cls) (hn : c.nms.find? (lacks ks t) = none) : evF G pT (k + 22) i_law_worked [a.am.d, .tup (c.fs.map Fact.d), .tup (cs.map .int), vd (vkn ks)] mh = some (.int (amf c cs ks t a.lab), mh) := by
  obtain ⟨b, hb⟩ := T.cl
  have o := hb a ha
  have e := w_law_worked (G := G) (mh := mh) (fs := c.fs) (cs := cs) (ks := (vkn ks).map fun p => (.inr p.1, .int p.2)) (cv := fv c.fs cs) (kv := vl ks) (by have := T.K.fl; omega) a.am o.ca (fun x hx => fv_ok T.cs (o.af x hx)) (fun x hx => vkn_get T.nd (by
    have hu : x ∈ useT t := List.mem_flatMap.mpr ⟨a, ha, List.mem_append_right _ hx⟩
    have := List.find?_eq_none.mp hn x (T.K.used T.tm hu)
    unfold lacks at this
    simpa [hu] using this)) (k + 20 - a.am.depth)
  rw [show k + 20 - a.am.depth + a.am.depth + 2 = k + 22 by have := o.ad; omega] at e
  rw [show amf c cs ks t a.lab = a.am.am (fv c.fs cs) (vl ks) by unfold amf; rw [clOf_mem (T.K.ok t T.tm).nd ha]]
  exact e
theorem w_li_sp {k : Nat} {o6 o7 o8 : Option (D × Bool)} (hn : c.nms.find? (lacks ks t) = none) : ∃ b, (sm G (evF G pT (k + 22)) e_law_term_in_2).v (lst_ c t cs ks (useT t) o6 o7 o8 (some (vd (vkn ks), true)) none none mh) = some (.lst (t.cls.map fun a => .tup [.str a.lab, .bl (spf c cs ks t a.lab)]), .fr, lst_ c t cs ks (useT t) o6 o7 o8 (some (vd (vkn ks), b)) none none mh) := by
  rw [e_law_term_in_2, y_lc]
  obtain ⟨w, ⟨b, rfl⟩, h⟩ := lcF_inv (own := [6]) (tg := .nm 6) (e := Cl.d) (ds := t.cls) (it := (sm G (evF G pT (k + 22)) (.v 4)).i) (cd := (sm G (evF G pT (k + 22)) .nop).c) (el := (sm G (evF G pT (k + 22)) (.tup (.cons (.ix (.v 6) (.cint 0)) (.cons (.call i_law_truth false (.cons (.ix (.v 6) (.cint 1)) (.cons (.ix (.v 0) (.cint 0)) (.cons (.v 2) (.cons (.v 9) .nil))))) .nil)))).v)
    (s0 := lst_ c t cs ks (useT t) o6 o7 o8 (some (vd (vkn ks), true)) none none mh) (lst_ c t cs ks (useT t) o6 o7 o8 (some (vd (vkn ks), true)) none none mh) (fun w => ∃ b, w = lst_ c t cs ks (useT t) none o7 o8 (some (vd (vkn ks), b)) none none mh) (fun _ => true) (fun a => .tup [.str a.lab, .bl (spf c cs ks t a.lab)]) (by simp) ⟨true, rfl⟩ (by
      rintro a ha w ⟨b, rfl⟩
      have ec := w_li_cond (G := G) (mh := mh) T (k := k) ha hn
      refine ⟨_, _, rfl, rfl, (fun h => by cases h), fun _ => ⟨lst_ c t cs ks (useT t) (some (a.d, false)) o7 o8 (some (vd (vkn ks), false)) none none mh, ?_, false, rfl⟩⟩
      cases b <;> simp -implicitDefEqProofs [ec]) (by have := T.K.cl t T.tm; omega)
  rw [filter_t] at h
  exact ⟨b, h⟩
theorem w_li_pick {F : Fn} {l : Str} {a : Cl} {o6 o7 o8 o9 o10 : Option (D × Bool)} (h : clOf t.cls l = some a) : ∃ r, (sm G F e_law_term_in_3).v (lst_ c t cs ks (useT t) o6 o7 o8 o9 o10 (some (.tup [.str l], false)) mh) = some (.lst (a.am.d :: r), .fr, lst_ c t cs ks (useT t) o6 o7 o8 o9 o10 (some (.tup [.str l], false)) mh) := by
  obtain ⟨r, hr⟩ := head_find h
  refine ⟨r.map fun a => a.am.d, ?_⟩
  rw [e_law_term_in_3, y_lc]
  have := lcF_gen (e := Cl.d) (own := [6]) (tg := .nm 6) (it := (sm G F (.v 4)).i) (cd := (sm G F (.cmp .eq (.ix (.v 6) (.cint 0)) (.ix (.v 11) (.cint 0)))).c) (el := (sm G F (.ix (.v 6) (.cint 2))).v) (s0 := lst_ c t cs ks (useT t) o6 o7 o8 o9 o10 (some (.tup [.str l], false)) mh) (lst_ c t cs ks (useT t) o6 o7 o8 o9 o10 (some (.tup [.str l], false)) mh) (ds := t.cls)
    (fun a => lst_ c t cs ks (useT t) (some (a.d, false)) o7 o8 o9 o10 (some (.tup [.str l], false)) mh) (fun a => a.lab == l) (fun a => a.am.d) (by simp) (fun _ _ => rfl) (fun _ _ => rfl) (fun _ _ => by simp) (fun _ _ _ => by simp) (by have := T.K.cl t T.tm; omega)
  rw [hr] at this
  exact this
theorem w_law_term_in {k : Nat} : evF G pT (k + 60) i_law_term_in [c.d, .str t.nm, .tup (cs.map .int), kd ks] mh = some ((outT c cs ks t).d, mh) := by
  rw [r_law_term_in]
  have d1 := dict_tm T.K
  have d2 := dict_tm_get T.K T.tm
  obtain ⟨o6, e1⟩ := w_li_used (G := G) (mh := mh) T (k := k + 38)
  obtain ⟨o, e2, h1⟩ := w_li_loop (G := G) (mh := mh) T (F := evF G pT (k + 59)) (o6 := o6)
  have e1' : forLoop (bdN (.nm 6)) (cm G (evF G pT (k + 59)) c_law_term_in_1) (t.cls.map Cl.d) ⟨[some (c.d, false), some (.str t.nm, false), some (.tup (cs.map .int), false), some (kd ks, false), some (.tup (t.cls.map Cl.d), false), some (.lst [], true), none, none, none, none, none, none, none], mh⟩ = _ := e1
  rcases h1 with ⟨x, s', h1, rfl, h2⟩ | ⟨h1, o7, o8, rfl⟩
  · simp -implicitDefEqProofs [c_law_term_in, d1, d2, e1', e2, h2]
    unfold outT
    rw [h1]
  · have e3 := w_li_vals (G := G) (mh := mh) T (F := evF G pT (k + 59)) (o6 := o6) (o7 := o7) (o8 := o8)
    have d3 : b1D .dict (.lst ((vkn ks).map fun p => D.tup [.str p.1, .int p.2])) = some (vd (vkn ks), .fr) := dict_of (n := fun p : Str × Int => p.1) (f := fun p : Str × Int => .int p.2) (by
      unfold vkn
      rw [List.map_map]
      exact T.nd.sublist ((List.filter_sublist).map _))
    obtain ⟨b, e4⟩ := w_li_sp (G := G) (mh := mh) T (k := k + 37) (o6 := o6) (o7 := o7) (o8 := o8) h1
    have nd := (T.K.ok t T.tm).nd
    have d4 : b1D .dict (.lst (t.cls.map fun a => D.tup [.str a.lab, .bl (spf c cs ks t a.lab)])) = some (.dct (t.cls.map fun a => (.inr a.lab, .bl (spf c cs ks t a.lab))), .fr) := dict_of (n := fun a : Cl => a.lab) (f := fun a => .bl (spf c cs ks t a.lab)) nd
    have hl : t.cls.length ≤ 24 := T.K.cl t T.tm
    have e5 := w_law_heard (G := G) (mh := mh) (cls := t.cls) (ks := t.cls.map fun a => (.inr a.lab, .bl (spf c cs ks t a.lab))) (sp := spf c cs ks t) (by omega) (fun a ha => by
      have := getD_map (f := D.bl) (ks := t.cls.map fun a => (a.lab, spf c cs ks t a.lab)) (x := a.lab)
      rw [List.map_map] at this
      refine this.trans ?_
      rw [List.find?_map]
      have h2 : t.cls.find? ((fun p : Str × Bool => p.1 == a.lab) ∘ fun a => (a.lab, spf c cs ks t a.lab)) = some a := clOf_mem nd ha
      rw [h2]
      rfl) t.cls.length none (ht_all (T.K.ok t T.tm)) (k + 58 - t.cls.length)
    rw [show k + 58 - t.cls.length + t.cls.length + 1 = k + 59 by omega] at e5
    have e5' : evF G pT (k + 59) i_law_heard [.tup (t.cls.map Cl.d), .non, .dct (t.cls.map fun a => (.inr a.lab, .bl (spf c cs ks t a.lab)))] mh = _ := e5
    simp -implicitDefEqProofs [c_law_term_in, d1, d2, e1', e2]
    have un : outT c cs ks t = ocOf (amf c cs ks t) (hear t.cls (spf c cs ks t) (t.cls.length + 1) none) := by unfold outT; rw [h1]
    rw [un]
    have h5 := fun L => hear_one (sp := spf c cs ks t) (T.K.ok t T.tm) t.cls.length none L (ht_all (T.K.ok t T.tm))
    have hle := hear_le (cls := t.cls) (sp := spf c cs ks t) (t.cls.length + 1) none
    generalize hear t.cls (spf c cs ks t) (t.cls.length + 1) none = hh at e5' h5 hle
    match hh, e5', h5, hle with
    | [], e5', _, _ => simp -implicitDefEqProofs [e3, d3, e4, d4, e5', ocOf, Oc.d, wGap]
    | [l], e5', h5, _ =>
      obtain ⟨d, hd, e, _⟩ := h5 l rfl
      subst e
      obtain ⟨r, e6⟩ := w_li_pick (G := G) (mh := mh) T (F := evF G pT (k + 59)) (o6 := o6) (o7 := o7) (o8 := o8) (o9 := some (vd (vkn ks), b)) (o10 := some (.dct (t.cls.map fun a => (.inr a.lab, .bl (spf c cs ks t a.lab))), false)) (clOf_mem nd hd)
      have e7 := w_li_am (G := G) (mh := mh) T (k := k + 37) hd h1
      cases b <;> simp -implicitDefEqProofs [e3, d3, e4, d4, e5', ocOf, Oc.d, wTold, e6, e7]
    | [x, y], e5', _, _ => simp -implicitDefEqProofs [e3, d3, e4, d4, e5', ocOf, Oc.d, wClash, rmE_of]
    | x :: y :: z :: r, _, _, hle => simp at hle
end
theorem w_law_all_in {c : Cd} (K : CdOk c) {cs : List Int} (hcs : cs.length = c.fs.length) {k : Nat} : evF G pT (k + 61) i_law_all_in [c.d, .tup (cs.map .int)] mh = some (kd (outs c cs), mh) := by
  rw [r_law_all_in]
  obtain ⟨o, e1, o3, o4, h1⟩ := for_ind (bd := bdN (.tp (.cons (.nm 3) (.cons (.nm 4) .nil)))) (e := Tm.d) (body := cm G (evF G pT (k + 60)) c_law_all_in_1)
    (fun as s => ∃ (done : List Tm) (ks : Kn) (o3 o4 : Option (D × Bool)), c.ts = done ++ as ∧ ks.map (·.1) = done.map (·.nm) ∧ outsA c cs as ks = outs c cs ∧ s = ⟨[some (c.d, false), some (.tup (cs.map .int), false), some (kd ks, true), o3, o4], mh⟩)
    (fun o => ∃ o3 o4, o = .nx ⟨[some (c.d, false), some (.tup (cs.map .int), false), some (kd (outs c cs), true), o3, o4], mh⟩)
    (fun s ⟨done, ks, o3, o4, h1, h2, h3, h4⟩ => ⟨o3, o4, by rw [h4, ← h3]; rfl⟩)
    (fun t as s P ⟨done, ks, o3, o4, h1, h2, h3, h4⟩ hP => by
      subst h4
      have hi : c.ts[done.length]? = some t := by rw [h1]; simp
      have nd : ((ks.map (·.1)) ++ (t :: as).map (·.nm)).Nodup := by
        rw [h2, ← List.map_append, ← h1]
        exact K.tn
      have hl : ks.length ≤ 8 := by
        have h5 := K.tl
        have h6 : ks.length = done.length := by have := congrArg List.length h2; simpa using this
        rw [h1] at h5
        simp only [List.length_append] at h5
        omega
      have T : TOk c cs ks t := ⟨K, List.mem_of_getElem? hi, hcs, (List.nodup_append.mp nd).1, hl, fun y hy => kn_isSome (by
        have hb := K.before hi hy
        rw [show c.ts.take done.length = done by rw [h1]; simp, ← h2] at hb
        exact hb)⟩
      have e := w_law_term_in (G := G) (mh := []) T (k := k)
      have nt : t.nm ∉ ks.map (·.1) := fun q => (List.nodup_append.mp nd).2.2 _ q _ (by simp) rfl
      have hr : rmO ks.length = some () := rmO_of (by omega)
      have nk : noRef (.dct (ks.map fun p => (.inr p.1, p.2.d))) = true := nr_kd ks
      have e' : evF G pT (k + 60) i_law_term_in [c.d, .str t.nm, .tup (cs.map .int), .dct (ks.map fun p => (.inr p.1, p.2.d))] [] = _ := e
      have hp : putD (ks.map fun p => ((.inr p.1 : Key), p.2.d)) (.inr t.nm) (outT c cs ks t).d = (ks ++ [(t.nm, outT c cs ks t)]).map fun p => ((.inr p.1 : Key), p.2.d) := by
        rw [putD_new nt]; simp
      have bt : bdN (.tp (.cons (.nm 3) (.cons (.nm 4) .nil))) t.d ⟨[some (c.d, false), some (.tup (cs.map .int), false), some (kd ks, true), o3, o4], mh⟩ = some ⟨[some (c.d, false), some (.tup (cs.map .int), false), some (kd ks, true), some (.str t.nm, false), some (.tup (t.cls.map Cl.d), false)], mh⟩ := by
        show bdN _ (.tup [.str t.nm, .tup (t.cls.map Cl.d)]) _ = _
        simp -implicitDefEqProofs
      rw [bt]
      simp -implicitDefEqProofs [c_law_all_in_1, kd, nk, e', hr, hp]
      exact hP _ ⟨done ++ [t], ks ++ [(t.nm, outT c cs ks t)], some (.str t.nm, false), some (.tup (t.cls.map Cl.d), false), by rw [h1]; simp, by rw [List.map_append, List.map_append, h2]; rfl, h3, by simp [kd]⟩)
    c.ts ⟨[some (c.d, false), some (.tup (cs.map .int), false), some (kd [], true), none, none], mh⟩ ⟨[], [], none, none, rfl, rfl, rfl, rfl⟩
  subst h1
  have e2 : forLoop (bdN (.tp (.cons (.nm 3) (.cons (.nm 4) .nil)))) (cm G (evF G pT (k + 60)) c_law_all_in_1) (c.ts.map Tm.d) ⟨[some (c.d, false), some (.tup (cs.map .int), false), some (.dct [], true), none, none], mh⟩ = _ := e1
  simp [c_law_all_in, e2]
theorem w_law_in {c : Cd} (K : CdOk c) {cs : List Int} (hcs : cs.length = c.fs.length) {x : Str} {o : Oc} (h : kn (outs c cs) x = some o) {k : Nat} : evF G pT (k + 62) i_law_in [c.d, .str x, .tup (cs.map .int)] mh = some (o.d, mh) := by
  rw [r_law_in]
  have e := w_law_all_in (G := G) (mh := mh) K hcs (k := k)
  have g : itemD (kd (outs c cs)) (.str x) = some o.d := by
    show getD _ (.inr x) = _
    rw [kn_get, h]; rfl
  simp [c_law_in, e, g]
end E3
set_option linter.all false
set_option maxRecDepth 100000
set_option maxHeartbeats 4000000
namespace E3
open PySem L2
variable {G : Nat → Option D} {mh : List (List D)}
/-! ### law_same -/
def Pl : Nat → D → Prop
  | _, .int _ => True
  | _, .str _ => True
  | n + 1, .tup xs => xs.length ≤ 1000000 ∧ ∀ x ∈ xs, Pl n x
  | n + 1, .lst xs => xs.length ≤ 1000000 ∧ ∀ x ∈ xs, Pl n x
  | _, _ => False
theorem eqL_iff : ∀ {xs ys : List D}, eqD.eqL xs ys = true ↔ xs.length = ys.length ∧ ∀ (i : Nat) x y, xs[i]? = some x → ys[i]? = some y → eqD x y = true
  | [], [] => by simp [eqD.eqL]
  | [], _ :: _ => by simp [eqD.eqL]
  | _ :: _, [] => by simp [eqD.eqL]
  | x :: xs, y :: ys => by
    show (eqD x y && eqD.eqL xs ys) = true ↔ _
    rw [Bool.and_eq_true, eqL_iff]
    constructor
    · rintro ⟨h1, h2, h3⟩
      refine ⟨by simp [h2], fun i a b ha hb => ?_⟩
      cases i with
      | zero => simp at ha hb; rw [← ha, ← hb]; exact h1
      | succ i => exact h3 i a b (by simpa using ha) (by simpa using hb)
    · rintro ⟨h1, h2⟩
      exact ⟨h2 0 x y rfl rfl, by simpa using h1, fun i a b ha hb => h2 (i + 1) a b (by simpa using ha) (by simpa using hb)⟩
def isSeq : D → Option (List D)
  | .tup xs => some xs
  | .lst xs => some xs
  | _ => none
theorem w_same_seq {n k : Nat} {a d : D} {xs ys : List D} (ha : isSeq a = some xs) (hd : isSeq d = some ys) (ht : (∃ xs ys, a = .tup xs ∧ d = .tup ys) ∨ (∃ xs ys, a = .lst xs ∧ d = .lst ys)) (l1 : xs.length ≤ 1000000) (l2 : ys.length ≤ 1000000)
    (h : ∀ x ∈ xs, ∀ y ∈ ys, evF G pT k i_law_same [x, y] mh = some (.bl (eqD x y), mh)) : evF G pT (k + 1) i_law_same [a, d] mh = some (.bl (eqD.eqL xs ys), mh) := by
  rw [r_law_same]
  have i1 : ∀ m : Nat, itemD a (.int m) = xs[m]? := fun m => by
    cases a <;> cases ha <;> exact at_natD
  have i2 : ∀ m : Nat, itemD d (.int m) = ys[m]? := fun m => by
    cases d <;> cases hd <;> exact at_natD
  have n1 : b1D .len a = some (.int xs.length, .st) := by cases a <;> cases ha <;> rfl
  have n2 : b1D .len d = some (.int ys.length, .st) := by cases d <;> cases hd <;> rfl
  have t1 : ∃ b, tyD .tuple a = some b ∧ tyD .tuple d = some b ∧ tyD .list a = some (!b) ∧ tyD .list d = some (!b) := by
    rcases ht with ⟨_, _, rfl, rfl⟩ | ⟨_, _, rfl, rfl⟩
    · exact ⟨true, rfl, rfl, rfl, rfl⟩
    · exact ⟨false, rfl, rfl, rfl, rfl⟩
  obtain ⟨b, t1, t2, t3, t4⟩ := t1
  by_cases hl : xs.length = ys.length
  · have e : (sm G (evF G pT k) e_law_same_1).v ⟨[some (a, false), some (d, false), none], mh⟩ = some (.lst (((List.range ys.length).filter fun m => !(match xs[m]?, ys[m]? with | some x, some y => eqD x y | _, _ => true)).map fun m : Nat => .int m), .fr, ⟨[some (a, false), some (d, false), none], mh⟩) := by
      rw [e_law_same_1, y_lc]
      refine lcF_gen (own := [2]) (tg := .nm 2) (e := fun m : Nat => D.int m) (ds := List.range ys.length) ⟨[some (a, false), some (d, false), none], mh⟩ (fun m => ⟨[some (a, false), some (d, false), some (.int m, false)], mh⟩) (fun m => !(match xs[m]?, ys[m]? with | some x, some y => eqD x y | _, _ => true)) (fun m => .int m) (by simp -implicitDefEqProofs [n2, rgO_len (l := ys) (by omega)]) (fun _ _ => rfl) (fun _ _ => rfl) (fun m hm => ?_) (fun _ _ _ => by simp) (by simp; omega)
      have hm' : m < ys.length := by simpa using hm
      have g2 : ys[m]? = some ys[m] := List.getElem?_eq_getElem hm'
      have g1 : xs[m]? = some (xs[m]'(by omega)) := List.getElem?_eq_getElem (by omega)
      have es := h _ (List.getElem_mem (by omega : m < xs.length)) _ (List.getElem_mem hm')
      have j1 := i1 m
      have j2 := i2 m
      rw [g1] at j1
      rw [g2] at j2
      simp -implicitDefEqProofs [j1, j2, es, g1, g2]
    have fin : (((((List.range ys.length).filter fun m => !(match xs[m]?, ys[m]? with | some x, some y => eqD x y | _, _ => true)).map fun m : Nat => D.int m).length : Int) == 0) = eqD.eqL xs ys := by
      rw [Bool.eq_iff_iff, eqL_iff, List.length_map]
      simp only [beq_iff_eq]
      constructor
      · intro h0
        refine ⟨hl, fun i x y hx hy => ?_⟩
        have h1 : (List.range ys.length).filter (fun m => !(match xs[m]?, ys[m]? with | some x, some y => eqD x y | _, _ => true)) = [] := List.length_eq_zero_iff.mp (by omega)
        have h2 := List.filter_eq_nil_iff.mp h1 i (by simp; exact (List.getElem?_eq_some_iff.mp hy).1)
        rw [hx, hy] at h2
        simpa using h2
      · rintro ⟨_, h1⟩
        have : (List.range ys.length).filter (fun m => !(match xs[m]?, ys[m]? with | some x, some y => eqD x y | _, _ => true)) = [] := by
          rw [List.filter_eq_nil_iff]
          intro m hm
          have hm' : m < ys.length := by simpa using hm
          have g2 : ys[m]? = some ys[m] := List.getElem?_eq_getElem hm'
          have g1 : xs[m]? = some (xs[m]'(by omega)) := List.getElem?_eq_getElem (by omega)
          rw [g1, g2]
          simp [h1 m _ _ g1 g2]
        rw [this]
        rfl
    rw [← fin]
    cases b <;> simp -implicitDefEqProofs [c_law_same, t1, t2, t3, t4, n1, n2, hl, e]
  · have fin : eqD.eqL xs ys = false := by
      cases hq : eqD.eqL xs ys with
      | false => rfl
      | true => exact absurd (eqL_iff.mp hq).1 hl
    have hl' : ¬ (xs.length : Int) = (ys.length : Int) := by omega
    rw [fin]
    cases b <;> simp -implicitDefEqProofs [c_law_same, t1, t2, t3, t4, n1, n2, hl']
theorem w_law_same : ∀ (n : Nat) (a d : D), Pl n a → Pl n d → ∀ k, evF G pT (k + n + 1) i_law_same [a, d] mh = some (.bl (eqD a d), mh) := by
  have sc : ∀ (a d : D), (∀ n, Pl n a → Pl n d → (isSeq a = none ∨ isSeq d = none ∨ (∃ xs ys, a = .tup xs ∧ d = .lst ys) ∨ (∃ xs ys, a = .lst xs ∧ d = .tup ys)) → ∀ k, evF G pT (k + 1) i_law_same [a, d] mh = some (.bl (eqD a d), mh)) := by
    intro a d n pa pd hs k
    rw [r_law_same]
    cases a with
    | int i => cases d with
      | int j => simp [c_law_same, eqD]
      | str j => simp [c_law_same, eqD]
      | tup j => simp [c_law_same, eqD]
      | lst j => simp [c_law_same, eqD]
      | _ => cases n <;> exact pd.elim
    | str i => cases d with
      | int j => simp [c_law_same, eqD]
      | str j => simp [c_law_same, eqD]
      | tup j => simp [c_law_same, eqD]
      | lst j => simp [c_law_same, eqD]
      | _ => cases n <;> exact pd.elim
    | tup i => cases d with
      | int j => simp [c_law_same, eqD]
      | str j => simp [c_law_same, eqD]
      | tup j => rcases hs with h | h | ⟨_, _, _, h⟩ | ⟨_, _, h, _⟩ <;> cases h
      | lst j => simp [c_law_same, eqD]
      | _ => cases n <;> exact pd.elim
    | lst i => cases d with
      | int j => simp [c_law_same, eqD]
      | str j => simp [c_law_same, eqD]
      | tup j => simp [c_law_same, eqD]
      | lst j => rcases hs with h | h | ⟨_, _, h, _⟩ | ⟨_, _, _, h⟩ <;> cases h
      | _ => cases n <;> exact pd.elim
    | _ => cases n <;> exact pa.elim
  intro n
  induction n with
  | zero =>
    intro a d pa pd k
    refine sc a d 0 pa pd ?_ k
    cases a with
    | int i => exact .inl rfl
    | str i => exact .inl rfl
    | _ => exact pa.elim
  | succ n ih =>
    intro a d pa pd k
    cases a with
    | int i => exact sc _ d (n + 1) pa pd (.inl rfl) _
    | str i => exact sc _ d (n + 1) pa pd (.inl rfl) _
    | tup xs => cases d with
      | int i => exact sc _ _ (n + 1) pa pd (.inr (.inl rfl)) _
      | str i => exact sc _ _ (n + 1) pa pd (.inr (.inl rfl)) _
      | lst ys => exact sc _ _ (n + 1) pa pd (.inr (.inr (.inl ⟨_, _, rfl, rfl⟩))) _
      | tup ys => exact w_same_seq (n := n) rfl rfl (.inl ⟨_, _, rfl, rfl⟩) pa.1 pd.1 fun x hx y hy => ih x y (pa.2 x hx) (pd.2 y hy) k
      | _ => exact pd.elim
    | lst xs => cases d with
      | int i => exact sc _ _ (n + 1) pa pd (.inr (.inl rfl)) _
      | str i => exact sc _ _ (n + 1) pa pd (.inr (.inl rfl)) _
      | tup ys => exact sc _ _ (n + 1) pa pd (.inr (.inr (.inr ⟨_, _, rfl, rfl⟩))) _
      | lst ys => exact w_same_seq (n := n) rfl rfl (.inr ⟨_, _, rfl, rfl⟩) pa.1 pd.1 fun x hx y hy => ih x y (pa.2 x hx) (pd.2 y hy) k
      | _ => exact pd.elim
    | _ => exact pa.elim
/-! rows -/
theorem eqL_map {α : Type} [DecidableEq α] {e : α → D} (h : ∀ a b, eqD (e a) (e b) = decide (a = b)) : ∀ {xs ys : List α}, eqD.eqL (xs.map e) (ys.map e) = decide (xs = ys)
  | [], [] => by simp [eqD.eqL]
  | [], _ :: _ => by simp [eqD.eqL]
  | _ :: _, [] => by simp [eqD.eqL]
  | x :: xs, y :: ys => by
    show (eqD (e x) (e y) && eqD.eqL (xs.map e) (ys.map e)) = _
    rw [eqL_map h, h, Bool.eq_iff_iff]
    simp
theorem eqD_row (a b : Row) : eqD a.d b.d = decide (a = b) := by
  show ((a.nm == b.nm) && ((a.v == b.v) && (eqD.eqL (a.way.map .str) (b.way.map .str) && (eqD.eqL (a.sil.map .str) (b.sil.map .str) && true)))) = _
  rw [eqL_str, eqL_str, Bool.eq_iff_iff]
  obtain ⟨a1, a2, a3, a4⟩ := a
  obtain ⟨b1, b2, b3, b4⟩ := b
  simp
structure RowSz (r : Row) : Prop where
  w : r.way.length ≤ 1000000
  s : r.sil.length ≤ 1000000
theorem pl_strs {xs : List Str} (h : xs.length ≤ 1000000) (n : Nat) : Pl (n + 1) (.tup (xs.map .str)) := ⟨by simpa using h, fun x hx => by
  obtain ⟨y, _, e⟩ := List.mem_map.mp hx
  subst e
  cases n <;> trivial⟩
theorem pl_row {r : Row} (h : RowSz r) (n : Nat) : Pl (n + 2) r.d := ⟨by simp, fun x hx => by
  rcases List.mem_cons.mp hx with e | hx
  · subst e; trivial
  rcases List.mem_cons.mp hx with e | hx
  · subst e; trivial
  rcases List.mem_cons.mp hx with e | hx
  · subst e; exact pl_strs h.w n
  rcases List.mem_cons.mp hx with e | hx
  · subst e; exact pl_strs h.s n
  cases hx⟩
theorem w_same_rows {xs ys : List Row} (h1 : xs.length ≤ 1000000) (h2 : ys.length ≤ 1000000) (g1 : ∀ r ∈ xs, RowSz r) (g2 : ∀ r ∈ ys, RowSz r) {k : Nat} : evF G pT (k + 4) i_law_same [.tup (xs.map Row.d), .tup (ys.map Row.d)] mh = some (.bl (decide (xs = ys)), mh) := by
  have p1 : Pl 3 (.tup (xs.map Row.d)) := ⟨by simpa using h1, fun x hx => by
    obtain ⟨r, hr, e⟩ := List.mem_map.mp hx
    subst e
    exact pl_row (g1 r hr) 0⟩
  have p2 : Pl 3 (.tup (ys.map Row.d)) := ⟨by simpa using h2, fun x hx => by
    obtain ⟨r, hr, e⟩ := List.mem_map.mp hx
    subst e
    exact pl_row (g2 r hr) 0⟩
  rw [w_law_same 3 _ _ p1 p2 k]
  show some (D.bl (eqD.eqL (xs.map Row.d) (ys.map Row.d)), mh) = _
  rw [eqL_map eqD_row]
theorem w_same_strs {xs ys : List Str} (h1 : xs.length ≤ 1000000) (h2 : ys.length ≤ 1000000) {k : Nat} : evF G pT (k + 2) i_law_same [.lst (xs.map .str), .lst (ys.map .str)] mh = some (.bl (decide (xs = ys)), mh) := by
  have p : ∀ {xs : List Str}, xs.length ≤ 1000000 → Pl 1 (.lst (xs.map .str)) := fun h => ⟨by simpa using h, fun x hx => by
    obtain ⟨y, _, e⟩ := List.mem_map.mp hx
    subst e
    trivial⟩
  rw [w_law_same 1 _ _ (p h1) (p h2) k]
  show some (D.bl (eqD.eqL (xs.map .str) (ys.map .str)), mh) = _
  rw [eqL_str]
end E3
set_option linter.all false
set_option maxRecDepth 100000
set_option maxHeartbeats 4000000
namespace E3
open PySem L2
variable {G : Nat → Option D} {mh : List (List D)}
/-! ### the pool -/
structure PoolOk (P : List D) : Prop where
  ex : ∃ (xs : List Int) (i v c s : Int), P = [.lst (xs.map .int), .int i, .int v, .int c, .int s] ∧ 0 ≤ i
theorem z_mod {i j : Int} (h : 0 < j) : bopD .mod (.int i) (.int j) = some (.int (i % j), .st) := by
  show (if decide (0 < j) then some (D.int (i % j), Tg.st) else none) = _
  rw [if_pos (by simpa using h)]
theorem z_mulR {i j : Int} (h : small64 j = true) : bopD .mul (.int i) (.int j) = some (.int (i * j), .st) := by
  show (if small64 i || small64 j then some (D.int (i * j), Tg.st) else none) = _
  rw [h, Bool.or_true, if_pos rfl]
theorem w_spread {n : Int} {k : Nat} : ∃ r, evF G pT (k + 1) i_law_spread [.int n] mh = some (.int r, mh) := by
  rw [r_law_spread]
  obtain ⟨o, e, a, b, o3, rfl⟩ := for_ind (bd := bdN (.nm 3)) (e := fun j : Nat => D.int j) (body := cm G (evF G pT k) c_law_spread_1)
    (fun as s => ∃ (a b : Int) (o3 : Option (D × Bool)), s = ⟨[some (.int n, false), some (.int a, false), some (.int b, false), o3], mh⟩)
    (fun o => ∃ (a b : Int) (o3 : Option (D × Bool)), o = .nx ⟨[some (.int n, false), some (.int a, false), some (.int b, false), o3], mh⟩)
    (by rintro s ⟨a, b, o3, rfl⟩; exact ⟨a, b, o3, rfl⟩)
    (by
      rintro j as s P ⟨a, b, o3, rfl⟩ hP
      have m1 : ∀ x : Int, bopD .mul (.int x) (.int 48271) = some (.int (x * 48271), .st) := fun x => z_mulR (by decide)
      have m2 : ∀ x : Int, bopD .mul (.int x) (.int 2147483647) = some (.int (x * 2147483647), .st) := fun x => z_mulR (by decide)
      have m3 : ∀ x : Int, bopD .mod (.int x) (.int 2147483647) = some (.int (x % 2147483647), .st) := fun x => z_mod (by decide)
      simp -implicitDefEqProofs [c_law_spread_1, m1, m2, m3]
      exact hP _ ⟨_, _, _, rfl⟩)
    (List.range 4) ⟨[some (.int n, false), some (.int (n % 2147483647), false), some (.int 1, false), none], mh⟩ ⟨_, _, _, rfl⟩
  have m3 : bopD .mod (.int n) (.int 2147483647) = some (.int (n % 2147483647), .st) := z_mod (by decide)
  have hr := rgO_nat (n := 4) (by omega)
  refine ⟨b, ?_⟩
  have hr' : rgO 0 4 = some ((List.range 4).map fun j : Nat => D.int j) := hr
  simp -implicitDefEqProofs [c_law_spread, m3, hr', e, -List.map_cons]
theorem w_draw {P : List D} (hP : PoolOk P) {m : Int} (h1 : 1 ≤ m) (h2 : m ≤ 1000000) {k : Nat} : ∃ r P', evF G pT (k + 2) i_law_draw [.ref 0, .int m] [P] = some (.int r, [P']) ∧ PoolOk P' ∧ 0 ≤ r ∧ r < m := by
  obtain ⟨xs, i, v, c, s, rfl, hi⟩ := hP.ex
  rw [r_law_draw]
  have md : ∀ x : Int, bopD .mod (.int x) (.int m) = some (.int (x % m), .st) := fun x => z_mod (by omega)
  have fd : ∀ x : Int, bopD .fdv (.int x) (.int m) = some (.int (x / m), .st) := fun x => z_fdv (by omega) (by omega)
  have f5 : ∀ x : Int, bopD .fdv (.int x) (.int 5) = some (.int (x / 5), .st) := fun x => z_fdv (by omega) (by omega)
  have m1 : ∀ x : Int, bopD .mul (.int x) (.int 48271) = some (.int (x * 48271), .st) := fun x => z_mulR (by decide)
  have m2 : ∀ x : Int, bopD .mul (.int x) (.int 69621) = some (.int (x * 69621), .st) := fun x => z_mulR (by decide)
  have m4 : ∀ x : Int, bopD .mul (.int x) (.int 16807) = some (.int (x * 16807), .st) := fun x => z_mulR (by decide)
  have m3 : ∀ x : Int, bopD .mod (.int x) (.int 2147483647) = some (.int (x % 2147483647), .st) := fun x => z_mod (by decide)
  have m5 : ∀ x : Int, bopD .mod (.int x) (.int 2147483629) = some (.int (x % 2147483629), .st) := fun x => z_mod (by decide)
  have rng : ∀ x : Int, 0 ≤ x % m ∧ x % m < m := fun x => ⟨Int.emod_nonneg _ (by omega), Int.emod_lt_of_pos _ (by omega)⟩
  have tail : ∀ (i v : Int) (o : Option (D × Bool)), 0 ≤ i → ∃ r P', (cm G (evF G pT (k + 1)) (.seq (.setr 0 (.cint 3) (.bin .add (.rx 0 (.cint 3)) (.cint 1)))
    (.seq (.ite (.cmp .le (.rx 0 (.cint 2)) (.cint 0)) (.seq (.asg (.nm 3) (.bin .mod (.b1 .int (.bin .add (.bin .add (.bin .mul (.rx 0 (.cint 4)) (.cint 48271)) (.bin .mul (.rx 0 (.cint 3)) (.cint 69621))) (.cint 1))) (.cint 2147483647)))
    (.seq (.asg (.nm 3) (.bin .mod (.b1 .int (.bin .add (.bin .mul (.v 3) (.cint 16807)) (.rx 0 (.cint 3)))) (.cint 2147483629)))
    (.seq (.ret (.bin .mod (.bin .fdv (.v 3) (.cint 5)) (.v 1)))
    .skip))) .skip)
    (.seq (.asg (.nm 4) (.bin .mod (.b1 .int (.rx 0 (.cint 2))) (.v 1)))
    (.seq (.setr 0 (.cint 2) (.bin .fdv (.rx 0 (.cint 2)) (.v 1)))
    (.seq (.ret (.v 4))
    .skip))))) ⟨[some (.ref 0, false), some (.int m, false), o, none, none], [[.lst (xs.map .int), .int i, .int v, .int c, .int s]]⟩) = some (.rt (.int r) P') ∧ (∃ Q, P'.mh = [Q] ∧ PoolOk Q) ∧ 0 ≤ r ∧ r < m := fun i v o hi => by
    have j3 : ixN 5 3 = some 3 := by decide
    have j2 : ixN 5 2 = some 2 := by decide
    by_cases hv : v ≤ 0
    · simp -implicitDefEqProofs [j3, j2, hv, m1, m2, m3, m4, m5, f5, md]
      exact ⟨_, _, ⟨rfl, rfl⟩, ⟨_, rfl, ⟨xs, i, v, _, s, rfl, hi⟩⟩, rng _⟩
    · simp -implicitDefEqProofs [j3, j2, hv, m1, m2, m3, m4, m5, f5, md, fd]
      exact ⟨_, _, ⟨rfl, rfl⟩, ⟨_, rfl, ⟨xs, i, _, _, s, rfl, hi⟩⟩, rng _⟩
  have fin : ∀ {x : Option Out}, (∃ r P', x = some (.rt (.int r) P') ∧ (∃ Q, P'.mh = [Q] ∧ PoolOk Q) ∧ 0 ≤ r ∧ r < m) → ∃ r P', outR x = some (.int r, [P']) ∧ PoolOk P' ∧ 0 ≤ r ∧ r < m := by
    rintro x ⟨r, P', rfl, ⟨Q, h1, h2⟩, h3⟩
    exact ⟨r, Q, by simp [h1], h2, h3⟩
  have j1 : ixN 5 1 = some 1 := by decide
  have j2 : ixN 5 2 = some 2 := by decide
  unfold c_law_draw
  rw [z_seq]
  by_cases hv : v ≤ 0
  · by_cases hl : i < (xs.length : Int)
    · have hg : i.toNat < xs.length := by omega
      have ha : atI (xs.map D.int) i = some (.int xs[i.toNat]) := by
        have q := at_nat (l := xs) (List.getElem?_eq_getElem hg)
        rw [show (i.toNat : Int) = i by omega] at q
        rw [at_map, q]
        rfl
      obtain ⟨sp, es⟩ := w_spread (G := G) (mh := [[.lst (xs.map .int), .int (i + 1), .int xs[i.toNat], .int c, .int s]]) (n := xs[i.toNat]) (k := k)
      by_cases hc : xs[i.toNat] < 1000000000000000000
      · have e : cm G (evF G pT (k + 1)) (.ite (.and (.cmp .le (.rx 0 (.cint 2)) (.cint 0)) (.one (.cmp .lt (.rx 0 (.cint 1)) (.b1 .len (.rx 0 (.cint 0)))))) (.seq (.asg (.nm 2) (.ix (.rx 0 (.cint 0)) (.rx 0 (.cint 1))))
    (.seq (.setr 0 (.cint 1) (.bin .add (.rx 0 (.cint 1)) (.cint 1)))
    (.seq (.setr 0 (.cint 2) (.v 2))
    (.seq (.ite (.cmp .lt (.v 2) (.cint 1000000000000000000)) (.seq (.setr 0 (.cint 2) (.call i_law_spread false (.cons (.v 2) .nil)))
    .skip) .skip)
    .skip)))) .skip) ⟨[some (.ref 0, false), some (.int m, false), none, none, none], [[.lst (xs.map .int), .int i, .int v, .int c, .int s]]⟩ = some (.nx ⟨[some (.ref 0, false), some (.int m, false), some (.int xs[i.toNat], false), none, none], [[.lst (xs.map .int), .int (i + 1), .int sp, .int c, .int s]]⟩) := by
          simp -implicitDefEqProofs [hv, hl, ha, j1, j2, hc, es]
        rw [e]
        exact fin (tail _ _ _ (by omega))
      · have e : cm G (evF G pT (k + 1)) (.ite (.and (.cmp .le (.rx 0 (.cint 2)) (.cint 0)) (.one (.cmp .lt (.rx 0 (.cint 1)) (.b1 .len (.rx 0 (.cint 0)))))) (.seq (.asg (.nm 2) (.ix (.rx 0 (.cint 0)) (.rx 0 (.cint 1))))
    (.seq (.setr 0 (.cint 1) (.bin .add (.rx 0 (.cint 1)) (.cint 1)))
    (.seq (.setr 0 (.cint 2) (.v 2))
    (.seq (.ite (.cmp .lt (.v 2) (.cint 1000000000000000000)) (.seq (.setr 0 (.cint 2) (.call i_law_spread false (.cons (.v 2) .nil)))
    .skip) .skip)
    .skip)))) .skip) ⟨[some (.ref 0, false), some (.int m, false), none, none, none], [[.lst (xs.map .int), .int i, .int v, .int c, .int s]]⟩ = some (.nx ⟨[some (.ref 0, false), some (.int m, false), some (.int xs[i.toNat], false), none, none], [[.lst (xs.map .int), .int (i + 1), .int xs[i.toNat], .int c, .int s]]⟩) := by
          simp -implicitDefEqProofs [hv, hl, ha, j1, j2, hc]
        rw [e]
        exact fin (tail _ _ _ (by omega))
    · have e : cm G (evF G pT (k + 1)) (.ite (.and (.cmp .le (.rx 0 (.cint 2)) (.cint 0)) (.one (.cmp .lt (.rx 0 (.cint 1)) (.b1 .len (.rx 0 (.cint 0)))))) (.seq (.asg (.nm 2) (.ix (.rx 0 (.cint 0)) (.rx 0 (.cint 1))))
    (.seq (.setr 0 (.cint 1) (.bin .add (.rx 0 (.cint 1)) (.cint 1)))
    (.seq (.setr 0 (.cint 2) (.v 2))
    (.seq (.ite (.cmp .lt (.v 2) (.cint 1000000000000000000)) (.seq (.setr 0 (.cint 2) (.call i_law_spread false (.cons (.v 2) .nil)))
    .skip) .skip)
    .skip)))) .skip) ⟨[some (.ref 0, false), some (.int m, false), none, none, none], [[.lst (xs.map .int), .int i, .int v, .int c, .int s]]⟩ = some (.nx ⟨[some (.ref 0, false), some (.int m, false), none, none, none], [[.lst (xs.map .int), .int i, .int v, .int c, .int s]]⟩) := by
        simp -implicitDefEqProofs [hv, hl]
      rw [e]
      exact fin (tail _ _ _ hi)
  · have e : cm G (evF G pT (k + 1)) (.ite (.and (.cmp .le (.rx 0 (.cint 2)) (.cint 0)) (.one (.cmp .lt (.rx 0 (.cint 1)) (.b1 .len (.rx 0 (.cint 0)))))) (.seq (.asg (.nm 2) (.ix (.rx 0 (.cint 0)) (.rx 0 (.cint 1))))
    (.seq (.setr 0 (.cint 1) (.bin .add (.rx 0 (.cint 1)) (.cint 1)))
    (.seq (.setr 0 (.cint 2) (.v 2))
    (.seq (.ite (.cmp .lt (.v 2) (.cint 1000000000000000000)) (.seq (.setr 0 (.cint 2) (.call i_law_spread false (.cons (.v 2) .nil)))
    .skip) .skip)
    .skip)))) .skip) ⟨[some (.ref 0, false), some (.int m, false), none, none, none], [[.lst (xs.map .int), .int i, .int v, .int c, .int s]]⟩ = some (.nx ⟨[some (.ref 0, false), some (.int m, false), none, none, none], [[.lst (xs.map .int), .int i, .int v, .int c, .int s]]⟩) := by
      simp -implicitDefEqProofs [hv]
    rw [e]
    exact fin (tail _ _ _ hi)
end E3
set_option linter.all false
set_option maxRecDepth 100000
set_option maxHeartbeats 4000000
namespace E3
open PySem L2
variable {G : Nat → Option D}
/-! ### drawn amounts and conditions -/
structure AmOk (fs : List Fact) (ns : List Str) (n : Nat) (t : Tr) : Prop where
  a : t.isA
  f : ∀ x ∈ t.facts, x ∈ fs.map (·.nm)
  tt : ∀ x ∈ t.terms, x ∈ ns
  d : t.depth ≤ n
structure CnOk (fs : List Fact) (ns : List Str) (n : Nat) (t : Tr) : Prop where
  a : t.isC
  f : ∀ x ∈ t.facts, x ∈ fs.map (·.nm)
  tt : ∀ x ∈ t.terms, x ∈ ns
  d : t.depth ≤ n
def opAt : Nat → Bn
  | 8 => .plus
  | 9 => .less
  | 10 => .least
  | _ => .most
theorem w_law_amount {fs : List Fact} {ns : List Str} (hf : fs.length ≤ 1000000) (hn : ns.length ≤ 1000000) : ∀ (n : Nat) (P : List D), PoolOk P → ∀ k, ∃ t P', evF G pT (k + n + 3) i_law_amount [.ref 0, .tup (fs.map Fact.d), .lst (ns.map .str), .int (n : Nat)] [P] = some (t.d, [P']) ∧ PoolOk P' ∧ AmOk fs ns n t := by
  intro n
  induction n with
  | zero =>
    intro P hP k
    rw [r_law_amount]
    obtain ⟨tu, P1, e1, q1, u0, u1⟩ := w_draw (G := G) hP (m := 6) (by omega) (by omega) (k := k)
    by_cases c1 : tu < 2 ∨ (tu < 5 ∧ fs = []) ∨ (tu = 5 ∧ ns = [])
    · obtain ⟨r, P2, e2, q2, v0, v1⟩ := w_draw (G := G) q1 (m := 13) (by omega) (by omega) (k := k)
      refine ⟨.num (r - 4), P2, ?_, q2, ⟨trivial, fun x h => (by cases h), fun x h => (by cases h), by simp [Tr.depth]⟩⟩
      rcases c1 with c1 | ⟨c1, c2⟩ | ⟨c1, c2⟩
      · simp -implicitDefEqProofs [c_law_amount, e1, e2, c1, Tr.d, wNum]
      · subst c2
        by_cases c3 : tu < 2
        · simp -implicitDefEqProofs [c_law_amount, e1, e2, c3, Tr.d, wNum]
        · simp -implicitDefEqProofs [c_law_amount, e1, e2, c1, c3, Tr.d, wNum]
      · subst c1
        subst c2
        simp -implicitDefEqProofs [c_law_amount, e1, e2, Tr.d, wNum]
    · simp only [not_or, not_and] at c1
      obtain ⟨c1, c2, c3⟩ := c1
      by_cases c4 : tu < 5
      · have f0 := c2 c4
        have fl : 0 < fs.length := List.length_pos_iff.mpr f0
        obtain ⟨r, P2, e2, q2, v0, v1⟩ := w_draw (G := G) q1 (m := (fs.length : Int)) (by omega) (by omega) (k := k)
        have hr : r.toNat < fs.length := by omega
        have ha : atI (fs.map Fact.d) r = some fs[r.toNat].d := by
          have q := at_nat (l := fs) (List.getElem?_eq_getElem hr)
          rw [show (r.toNat : Int) = r by omega] at q
          rw [at_map, q]; rfl
        have hd : itemD fs[r.toNat].d (.int 0) = some (.str fs[r.toNat].nm) := by simp [Fact.d]
        have f1 : ¬ (fs.length : Int) = 0 := by omega
        have c5 : ¬ tu = 5 := by omega
        refine ⟨.fact fs[r.toNat].nm, P2, ?_, q2, ⟨trivial, fun x h => ?_, fun x h => (by cases h), by simp [Tr.depth]⟩⟩
        · simp -implicitDefEqProofs [c_law_amount, e1, e2, c1, c4, c5, f0, f1, ha, hd, Tr.d, wFact]
        · rw [List.mem_singleton.mp h]
          exact List.mem_map.mpr ⟨_, List.getElem_mem hr, rfl⟩
      · have c5 : tu = 5 := by omega
        subst c5
        have n0 := c3 rfl
        have nl : 0 < ns.length := List.length_pos_iff.mpr n0
        obtain ⟨r, P2, e2, q2, v0, v1⟩ := w_draw (G := G) q1 (m := (ns.length : Int)) (by omega) (by omega) (k := k)
        have hr : r.toNat < ns.length := by omega
        have ha : atI (ns.map D.str) r = some (.str ns[r.toNat]) := by
          have q := at_nat (l := ns) (List.getElem?_eq_getElem hr)
          rw [show (r.toNat : Int) = r by omega] at q
          rw [at_map, q]; rfl
        have n1 : ¬ (ns.length : Int) = 0 := by omega
        refine ⟨.term ns[r.toNat], P2, ?_, q2, ⟨trivial, fun x h => (by cases h), fun x h => ?_, by simp [Tr.depth]⟩⟩
        · simp -implicitDefEqProofs [c_law_amount, e1, e2, n0, n1, ha, Tr.d, wTerm]
        · rw [List.mem_singleton.mp h]
          exact List.getElem_mem hr
  | succ n ih =>
    intro P hP k
    rw [show k + (n + 1) + 3 = (k + n + 3) + 1 by omega, r_law_amount]
    have dp : (0 : Int) < (n : Int) + 1 := by omega
    have ds : (n : Int) + 1 - 1 = (n : Int) := by omega
    obtain ⟨tu, P1, e1, q1, u0, u1⟩ := w_draw (G := G) hP (m := 12) (by omega) (by omega) (k := k + n + 1)
    by_cases c1 : tu < 2 ∨ (tu < 5 ∧ fs = []) ∨ (tu = 5 ∧ ns = [])
    · obtain ⟨r, P2, e2, q2, v0, v1⟩ := w_draw (G := G) q1 (m := 13) (by omega) (by omega) (k := k + n + 1)
      refine ⟨.num (r - 4), P2, ?_, q2, ⟨trivial, fun x h => (by cases h), fun x h => (by cases h), by simp [Tr.depth]⟩⟩
      rcases c1 with c1 | ⟨c1, c2⟩ | ⟨c1, c2⟩
      · simp -implicitDefEqProofs [c_law_amount, dp, e1, e2, c1, Tr.d, wNum]
      · subst c2
        by_cases c3 : tu < 2
        · simp -implicitDefEqProofs [c_law_amount, dp, e1, e2, c3, Tr.d, wNum]
        · simp -implicitDefEqProofs [c_law_amount, dp, e1, e2, c1, c3, Tr.d, wNum]
      · subst c1
        subst c2
        simp -implicitDefEqProofs [c_law_amount, dp, e1, e2, Tr.d, wNum]
    · simp only [not_or, not_and] at c1
      obtain ⟨c1, c2, c3⟩ := c1
      by_cases c4 : tu < 5
      · have f0 := c2 c4
        have fl : 0 < fs.length := List.length_pos_iff.mpr f0
        obtain ⟨r, P2, e2, q2, v0, v1⟩ := w_draw (G := G) q1 (m := (fs.length : Int)) (by omega) (by omega) (k := k + n + 1)
        have hr : r.toNat < fs.length := by omega
        have ha : atI (fs.map Fact.d) r = some fs[r.toNat].d := by
          have q := at_nat (l := fs) (List.getElem?_eq_getElem hr)
          rw [show (r.toNat : Int) = r by omega] at q
          rw [at_map, q]; rfl
        have hd : itemD fs[r.toNat].d (.int 0) = some (.str fs[r.toNat].nm) := by simp [Fact.d]
        have f1 : ¬ (fs.length : Int) = 0 := by omega
        have c5 : ¬ tu = 5 := by omega
        refine ⟨.fact fs[r.toNat].nm, P2, ?_, q2, ⟨trivial, fun x h => ?_, fun x h => (by cases h), by simp [Tr.depth]⟩⟩
        · simp -implicitDefEqProofs [c_law_amount, dp, e1, e2, c1, c4, c5, f0, f1, ha, hd, Tr.d, wFact]
        · rw [List.mem_singleton.mp h]
          exact List.mem_map.mpr ⟨_, List.getElem_mem hr, rfl⟩
      · by_cases c5 : tu = 5
        · subst c5
          have n0 := c3 rfl
          have nl : 0 < ns.length := List.length_pos_iff.mpr n0
          obtain ⟨r, P2, e2, q2, v0, v1⟩ := w_draw (G := G) q1 (m := (ns.length : Int)) (by omega) (by omega) (k := k + n + 1)
          have hr : r.toNat < ns.length := by omega
          have ha : atI (ns.map D.str) r = some (.str ns[r.toNat]) := by
            have q := at_nat (l := ns) (List.getElem?_eq_getElem hr)
            rw [show (r.toNat : Int) = r by omega] at q
            rw [at_map, q]; rfl
          have n1 : ¬ (ns.length : Int) = 0 := by omega
          refine ⟨.term ns[r.toNat], P2, ?_, q2, ⟨trivial, fun x h => (by cases h), fun x h => ?_, by simp [Tr.depth]⟩⟩
          · simp -implicitDefEqProofs [c_law_amount, dp, e1, e2, n0, n1, ha, Tr.d, wTerm]
          · rw [List.mem_singleton.mp h]
            exact List.getElem_mem hr
        · obtain ⟨a, P2, e2, q2, oa⟩ := ih P1 q1 k
          by_cases c6 : tu = 6
          · subst c6
            obtain ⟨r, P3, e3, q3, v0, v1⟩ := w_draw (G := G) q2 (m := 6) (by omega) (by omega) (k := k + n + 1)
            refine ⟨.times (r - 2) a, P3, ?_, q3, ⟨⟨?_, oa.a⟩, oa.f, oa.tt, by have := oa.d; simp [Tr.depth]; omega⟩⟩
            · simp -implicitDefEqProofs [c_law_amount, dp, ds, e1, e2, e3, Tr.d, wTimes]
            · unfold small64
              rw [Bool.and_eq_true]
              exact ⟨decide_eq_true (by omega), decide_eq_true (by omega)⟩
          · by_cases c7 : tu = 7
            · subst c7
              obtain ⟨r, P3, e3, q3, v0, v1⟩ := w_draw (G := G) q2 (m := 4) (by omega) (by omega) (k := k + n + 1)
              refine ⟨.part a (1 + r), P3, ?_, q3, ⟨⟨by omega, by omega, oa.a⟩, oa.f, oa.tt, by have := oa.d; simp [Tr.depth]; omega⟩⟩
              simp -implicitDefEqProofs [c_law_amount, dp, ds, e1, e2, e3, Tr.d, wPart]
            · obtain ⟨b, P3, e3, q3, ob⟩ := ih P2 q2 k
              refine ⟨.bin (opAt tu.toNat) a b, P3, ?_, q3, ⟨⟨?_, oa.a, ob.a⟩, fun x h => ?_, fun x h => ?_, by have := oa.d; have := ob.d; simp [Tr.depth]; omega⟩⟩
              · have : tu = 8 ∨ tu = 9 ∨ tu = 10 ∨ tu = 11 := by omega
                rcases this with rfl | rfl | rfl | rfl <;> simp -implicitDefEqProofs [c_law_amount, dp, ds, e1, e2, e3, Tr.d, opAt, Bn.w]
              · have : tu = 8 ∨ tu = 9 ∨ tu = 10 ∨ tu = 11 := by omega
                rcases this with rfl | rfl | rfl | rfl <;> rfl
              · rcases List.mem_append.mp h with h | h
                · exact oa.f x h
                · exact ob.f x h
              · rcases List.mem_append.mp h with h | h
                · exact oa.tt x h
                · exact ob.tt x h
theorem w_law_condition {fs : List Fact} {ns : List Str} (hf : fs.length ≤ 1000000) (hn : ns.length ≤ 1000000) : ∀ (n : Nat) (P : List D), PoolOk P → ∀ k, ∃ t P', evF G pT (k + n + 5) i_law_condition [.ref 0, .tup (fs.map Fact.d), .lst (ns.map .str), .int (n : Nat)] [P] = some (t.d, [P']) ∧ PoolOk P' ∧ CnOk fs ns (n + 2) t := by
  have base : ∀ (k n : Nat) (P : List D) (tu : Int) (P1 : List D), evF G pT (k + 4) i_law_draw [.ref 0, .int (if (0 : Int) < n then 9 else 5)] [P] = some (.int tu, [P1]) → PoolOk P1 → 0 ≤ tu → tu < 5 → ∃ t P', evF G pT (k + 5) i_law_condition [.ref 0, .tup (fs.map Fact.d), .lst (ns.map .str), .int (n : Nat)] [P] = some (t.d, [P']) ∧ PoolOk P' ∧ CnOk fs ns 2 t := by
    intro k n P tu P1 e1 q1 u0 u1
    rw [r_law_condition]
    by_cases c0 : tu = 0
    · subst c0
      refine ⟨.tru, P1, ?_, q1, ⟨trivial, fun x h => (by cases h), fun x h => (by cases h), by simp [Tr.depth]⟩⟩
      by_cases hn : (0 : Int) < n
      · rw [if_pos hn] at e1
        have hn' : 0 < n := by omega
        simp -implicitDefEqProofs [c_law_condition, hn, hn', e1, Tr.d, wTrue]
      · rw [if_neg hn] at e1
        have hn' : n = 0 := by omega
        subst hn'
        simp -implicitDefEqProofs [c_law_condition, e1, Tr.d, wTrue]
    · obtain ⟨r, P2, e2, q2, v0, v1⟩ := w_draw (G := G) q1 (m := 2) (by omega) (by omega) (k := k + 2)
      obtain ⟨a, P3, e3, q3, oa⟩ := w_law_amount (G := G) hf hn 1 P2 q2 k
      obtain ⟨b, P4, e4, q4, ob⟩ := w_law_amount (G := G) hf hn 1 P3 q3 k
      have e3' : evF G pT (k + 4) i_law_amount [.ref 0, .tup (fs.map Fact.d), .lst (ns.map .str), .int 1] [P2] = some (a.d, [P3]) := e3
      have e4' : evF G pT (k + 4) i_law_amount [.ref 0, .tup (fs.map Fact.d), .lst (ns.map .str), .int 1] [P3] = some (b.d, [P4]) := e4
      refine ⟨.bin (if r = 0 then .is else .below) a b, P4, ?_, q4, ⟨?_, fun x h => ?_, fun x h => ?_, by have := oa.d; have := ob.d; simp [Tr.depth]; omega⟩⟩
      · have : r = 0 ∨ r = 1 := by omega
        by_cases hn : (0 : Int) < n
        · rw [if_pos hn] at e1
          have hn' : 0 < n := by omega
          rcases this with rfl | rfl <;> simp -implicitDefEqProofs [c_law_condition, hn, hn', e1, c0, u1, e2, e3', e4', Tr.d, Bn.w]
        · rw [if_neg hn] at e1
          have hn' : n = 0 := by omega
          subst hn'
          rcases this with rfl | rfl <;> simp -implicitDefEqProofs [c_law_condition, e1, c0, u1, e2, e3', e4', Tr.d, Bn.w]
      · have : r = 0 ∨ r = 1 := by omega
        rcases this with rfl | rfl
        · exact ⟨oa.a, ob.a⟩
        · exact ⟨oa.a, ob.a⟩
      · rcases List.mem_append.mp h with h | h
        · exact oa.f x h
        · exact ob.f x h
      · rcases List.mem_append.mp h with h | h
        · exact oa.tt x h
        · exact ob.tt x h
  intro n
  induction n with
  | zero =>
    intro P hP k
    obtain ⟨tu, P1, e1, q1, u0, u1⟩ := w_draw (G := G) hP (m := 5) (by omega) (by omega) (k := k + 2)
    exact base k 0 P tu P1 e1 q1 u0 u1
  | succ n ih =>
    intro P hP k
    obtain ⟨tu, P1, e1, q1, u0, u1⟩ := w_draw (G := G) hP (m := 9) (by omega) (by omega) (k := k + n + 3)
    by_cases c5 : tu < 5
    · obtain ⟨t, P', e, q, o⟩ := base (k + n + 1) (n + 1) P tu P1 (by rw [if_pos (by omega)]; exact e1) q1 u0 c5
      exact ⟨t, P', by rw [show k + (n + 1) + 5 = k + n + 1 + 5 by omega]; exact e, q, ⟨o.a, o.f, o.tt, by have := o.d; omega⟩⟩
    · rw [show k + (n + 1) + 5 = (k + n + 5) + 1 by omega, r_law_condition]
      have dp : (0 : Int) < (n : Int) + 1 := by omega
      have ds : (n : Int) + 1 - 1 = (n : Int) := by omega
      have c0 : ¬ tu = 0 := by omega
      obtain ⟨a, P2, e2, q2, oa⟩ := ih P1 q1 k
      by_cases c7 : tu < 7
      · refine ⟨.nt a, P2, ?_, q2, ⟨oa.a, oa.f, oa.tt, by have := oa.d; simp [Tr.depth]; omega⟩⟩
        simp -implicitDefEqProofs [c_law_condition, dp, ds, e1, c0, c5, c7, e2, Tr.d, wNot]
      · obtain ⟨b, P3, e3, q3, ob⟩ := ih P2 q2 k
        refine ⟨.bin (if tu = 7 then .both else .either) a b, P3, ?_, q3, ⟨?_, fun x h => ?_, fun x h => ?_, by have := oa.d; have := ob.d; simp [Tr.depth]; omega⟩⟩
        · have : tu = 7 ∨ tu = 8 := by omega
          rcases this with rfl | rfl <;> simp -implicitDefEqProofs [c_law_condition, dp, ds, e1, e2, e3, Tr.d, Bn.w]
        · have : tu = 7 ∨ tu = 8 := by omega
          rcases this with rfl | rfl
          · exact ⟨oa.a, ob.a⟩
          · exact ⟨oa.a, ob.a⟩
        · rcases List.mem_append.mp h with h | h
          · exact oa.f x h
          · exact ob.f x h
        · rcases List.mem_append.mp h with h | h
          · exact oa.tt x h
          · exact ob.tt x h
end E3
set_option linter.all false
set_option maxRecDepth 100000
set_option maxHeartbeats 4000000
namespace E3
open PySem L2
variable {G : Nat → Option D}
/-! ### drawn facts -/
def fnm : List Str := [⟨#[97, 97]⟩, ⟨#[98, 98]⟩, ⟨#[99, 99]⟩, ⟨#[100, 100]⟩]
structure FcOk (f : Fact) : Prop where
  l : -1000 ≤ f.lo
  h : f.hi ≤ 1000
  lh : f.lo ≤ f.hi
  w : f.hi - f.lo ≤ 15
structure FsOk (n : Nat) (fs : List Fact) : Prop where
  nm : fs.map (·.nm) = fnm.take fs.length
  len : fs.length ≤ n
  ok : ∀ f ∈ fs, FcOk f
@[simp] theorem sl_t2 {xs : List D} : sliceD (.tup xs) none (some 2) = some (.tup (xs.take 2), .st) := by
  show some (D.tup (cutD xs none (some ((2 : Nat) : Int))), Tg.st) = _
  rw [cut_to]
@[simp] theorem sl_t3 {xs : List D} : sliceD (.tup xs) none (some 3) = some (.tup (xs.take 3), .st) := by
  show some (D.tup (cutD xs none (some ((3 : Nat) : Int))), Tg.st) = _
  rw [cut_to]
def wordsL (n : Nat) : List Str := ([⟨#[110, 111]⟩, ⟨#[115, 111]⟩, ⟨#[121, 101, 115]⟩] : List Str).take n
theorem FsOk.snoc {n : Nat} {fs : List Fact} {f : Fact} (h : FsOk n fs) (hl : fs.length < fnm.length) (hn : f.nm = fnm[fs.length]'hl) (h2 : fs.length < n) (hf : FcOk f) : FsOk n (fs ++ [f]) where
  nm := by
    rw [List.map_append, h.nm, List.length_append]
    simp only [List.map_cons, List.map_nil, List.length_cons, List.length_nil, Nat.zero_add]
    rw [List.take_succ, hn, List.getElem?_eq_getElem hl]
    rfl
  len := by simp; omega
  ok := fun g hg => by
    rcases List.mem_append.mp hg with q | q
    · exact h.ok g q
    · rw [List.mem_singleton.mp q]; exact hf
theorem w_law_facts {P : List D} (hP : PoolOk P) {m : Nat} (hm : m ≤ 4) {k : Nat} : ∃ fs P', evF G pT (k + 3) i_law_facts [.ref 0, .int (m : Nat)] [P] = some (.tup (fs.map Fact.d), [P']) ∧ PoolOk P' ∧ FsOk m fs := by
  rw [r_law_facts]
  obtain ⟨n, P1, e1, q1, u0, u1⟩ := w_draw (G := G) hP (m := (m : Int) + 1) (by omega) (by omega) (k := k)
  obtain ⟨o, e, fs, P2, o4, o5, o6, rfl, q2, hf⟩ := for_ind (bd := bdN (.nm 4)) (e := fun j : Nat => D.int j) (body := cm G (evF G pT (k + 2)) c_law_facts_1)
    (fun as s => ∃ (fs : List Fact) (P : List D) (o4 o5 o6 : Option (D × Bool)), as = List.range' fs.length (n.toNat - fs.length) ∧ s = ⟨[some (.ref 0, false), some (.int (m : Nat), false), some (.tup (fnm.map .str), false), some (.lst (fs.map Fact.d), true), o4, o5, o6], [P]⟩ ∧ PoolOk P ∧ FsOk m fs)
    (fun o => ∃ (fs : List Fact) (P : List D) (o4 o5 o6 : Option (D × Bool)), o = .nx ⟨[some (.ref 0, false), some (.int (m : Nat), false), some (.tup (fnm.map .str), false), some (.lst (fs.map Fact.d), true), o4, o5, o6], [P]⟩ ∧ PoolOk P ∧ FsOk m fs)
    (by rintro s ⟨fs, P, o4, o5, o6, _, rfl, h1, h2⟩; exact ⟨fs, P, o4, o5, o6, rfl, h1, h2⟩)
    (by
      rintro a as s X ⟨fs, P, o4, o5, o6, h1, rfl, h2, h3⟩ hX
      have hl : fs.length < n.toNat := by
        have := congrArg List.length h1
        simp at this
        omega
      have hr : List.range' fs.length (n.toNat - fs.length) = fs.length :: List.range' (fs.length + 1) (n.toNat - (fs.length + 1)) := by
        rw [show n.toNat - fs.length = (n.toNat - (fs.length + 1)) + 1 by omega, List.range'_succ]
      rw [hr] at h1
      injection h1 with h1 h4
      subst h1
      have hf4 : fs.length < fnm.length := by show fs.length < 4; omega
      have ha : atI (fnm.map D.str) (fs.length : Int) = some (.str fnm[fs.length]) := by
        rw [at_map, at_nat (List.getElem?_eq_getElem hf4)]; rfl
      have hr : rmO fs.length = some () := rmO_of (by omega)
      obtain ⟨b, P1, e1, q1, v0, v1⟩ := w_draw (G := G) h2 (m := 3) (by omega) (by omega) (k := k)
      by_cases hb : b = 0
      · subst hb
        obtain ⟨w, P2, e2, q2, w0, w1⟩ := w_draw (G := G) q1 (m := 2) (by omega) (by omega) (k := k)
        have : w = 0 ∨ w = 1 := by omega
        rcases this with rfl | rfl
        · simp -implicitDefEqProofs [c_law_facts_1, e1, e2, ha, hr]
          exact hX _ ⟨fs ++ [⟨fnm[fs.length], 0, 1, wordsL 2⟩], P2, _, some (.tup ((wordsL 2).map .str), false), o6, by simpa using h4, by simp [Fact.d, wordsL]; rfl, q2, h3.snoc hf4 rfl (by omega) ⟨by simp, by simp, by simp, by simp⟩⟩
        · simp -implicitDefEqProofs [c_law_facts_1, e1, e2, ha, hr]
          exact hX _ ⟨fs ++ [⟨fnm[fs.length], 0, 2, wordsL 3⟩], P2, _, some (.tup ((wordsL 3).map .str), false), o6, by simpa using h4, by simp [Fact.d, wordsL]; rfl, q2, h3.snoc hf4 rfl (by omega) ⟨by simp, by simp, by simp, by simp⟩⟩
      · obtain ⟨lo, P2, e2, q2, w0, w1⟩ := w_draw (G := G) q1 (m := 6) (by omega) (by omega) (k := k)
        obtain ⟨wi, P3, e3, q3, x0, x1⟩ := w_draw (G := G) q2 (m := 5) (by omega) (by omega) (k := k)
        simp -implicitDefEqProofs [c_law_facts_1, e1, e2, e3, hb, ha, hr]
        exact hX _ ⟨fs ++ [⟨fnm[fs.length], lo - 3, lo - 3 + wi, []⟩], P3, _, o5, some (.int (lo - 3), false), by simpa using h4, by simp [Fact.d]; rfl, q3, h3.snoc hf4 rfl (by omega) ⟨by simp; omega, by simp; omega, by simp; omega, by simp; omega⟩⟩)
    (List.range n.toNat) ⟨[some (.ref 0, false), some (.int (m : Nat), false), some (.tup (fnm.map .str), false), some (.lst (([] : List Fact).map Fact.d), true), none, none, none], [P1]⟩ ⟨[], P1, none, none, none, by rw [List.range_eq_range']; rfl, rfl, q1, ⟨rfl, by simp, by simp⟩⟩
  have hr := rgO_nat (n := n.toNat) (by omega)
  rw [show (n.toNat : Int) = n by omega] at hr
  refine ⟨fs, P2, ?_, q2, hf⟩
  have e' : forLoop (bdN (.nm 4)) (cm G (evF G pT (k + 2)) c_law_facts_1) ((List.range n.toNat).map fun j : Nat => D.int j) ⟨[some (.ref 0, false), some (.int (m : Nat), false), some (.tup [.str ⟨#[97, 97]⟩, .str ⟨#[98, 98]⟩, .str ⟨#[99, 99]⟩, .str ⟨#[100, 100]⟩], false), some (.lst [], true), none, none, none], [P1]⟩ = _ := e
  simp -implicitDefEqProofs [c_law_facts, e1, hr, e']
/-! ### the pool, picks, cases -/
theorem w_law_pool {ns : List Int} (h : ns.length ≤ 1000) {k : Nat} : ∃ P, evF G pT (k + 1) i_law_pool [.fzl ns] [] = some (.ref 0, [P]) ∧ PoolOk P := by
  rw [r_law_pool]
  obtain ⟨o, e, a, o2, rfl⟩ := for_ind (bd := bdN (.nm 2)) (e := D.int) (body := cm G (evF G pT k) c_law_pool_1)
    (fun as s => ∃ (a : Int) (o2 : Option (D × Bool)), s = ⟨[some (.fzl ns, false), some (.int a, false), o2], []⟩)
    (fun o => ∃ (a : Int) (o2 : Option (D × Bool)), o = .nx ⟨[some (.fzl ns, false), some (.int a, false), o2], []⟩)
    (by rintro s ⟨a, o2, rfl⟩; exact ⟨a, o2, rfl⟩)
    (by
      rintro j as s P ⟨a, o2, rfl⟩ hP
      have m1 : ∀ x : Int, bopD .mul (.int x) (.int 31) = some (.int (x * 31), .st) := fun x => z_mulR (by decide)
      have m3 : ∀ x : Int, bopD .mod (.int x) (.int 1000003) = some (.int (x % 1000003), .st) := fun x => z_mod (by decide)
      simp -implicitDefEqProofs [c_law_pool_1, m1, m3]
      exact hP _ ⟨_, _, rfl⟩)
    (ns.take 63) ⟨[some (.fzl ns, false), some (.int 7, false), none], []⟩ ⟨_, _, rfl⟩
  have es : sliceD (.fzl ns) none (some 63) = some (.lst ((ns.take 63).map .int), .fr) := by
    show some (D.lst ((cutD ns none (some ((63 : Nat) : Int))).map .int), Tg.fr) = _
    rw [cut_to]
  refine ⟨[.lst (ns.map .int), .int 0, .int 0, .int 0, .int a], ?_, ⟨ns, 0, 0, 0, a, rfl, by omega⟩⟩
  simp -implicitDefEqProofs [c_law_pool, es, e, -List.map_take]
theorem w_law_pick {P : List D} (hP : PoolOk P) {xs : List D} (h0 : xs ≠ []) (hl : xs.length ≤ 1000000) {k : Nat} : ∃ x P', x ∈ xs ∧ evF G pT (k + 3) i_law_pick [.ref 0, .lst xs] [P] = some (x, [P']) ∧ PoolOk P' := by
  rw [r_law_pick]
  have l0 : 0 < xs.length := List.length_pos_iff.mpr h0
  obtain ⟨r, P1, e1, q1, u0, u1⟩ := w_draw (G := G) hP (m := (xs.length : Int)) (by omega) (by omega) (k := k)
  have hr : r.toNat < xs.length := by omega
  have ha : atI xs r = some xs[r.toNat] := by
    have q := at_nat (l := xs) (List.getElem?_eq_getElem hr)
    rw [show (r.toNat : Int) = r by omega] at q
    exact q
  refine ⟨xs[r.toNat], P1, List.getElem_mem hr, ?_, q1⟩
  simp -implicitDefEqProofs [c_law_pick, e1, ha]
def rgZ (f : Fact) : List Int := (List.range (f.hi + 1 - f.lo).toNat).map fun j => f.lo + (j : Nat)
def casesF (fs : List Fact) : List (List Int) := fs.foldl (fun found f => found.flatMap fun row => (rgZ f).map fun x => row ++ [x]) [[]]
def csD (cs : List Int) : D := .tup (cs.map .int)
theorem rgZ_len {f : Fact} (h : FcOk f) : (rgZ f).length ≤ 16 := by
  unfold rgZ
  rw [List.length_map, List.length_range]
  have := h.w
  omega
theorem w_law_cases {fs : List Fact} {mh : List (List D)} (h : ∀ f ∈ fs, FcOk f) (hl : fs.length ≤ 4) {k : Nat} : evF G pT (k + 1) i_law_cases [.tup (fs.map Fact.d)] mh = some (.lst ((casesF fs).map csD), mh) := by
  rw [r_law_cases]
  obtain ⟨o, e, b, o2, o3, o4, rfl⟩ := for_ind (bd := bdN (.nm 2)) (e := Fact.d) (body := cm G (evF G pT k) c_law_cases_1)
    (fun as s => ∃ (done : List Fact) (found : List (List Int)) (b : Bool) (o2 o3 o4 : Option (D × Bool)), fs = done ++ as ∧ found.length ≤ 16 ^ done.length ∧ (∀ r ∈ found, r.length = done.length) ∧ as.foldl (fun found f => found.flatMap fun row => (rgZ f).map fun x => row ++ [x]) found = casesF fs ∧ s = ⟨[some (.tup (fs.map Fact.d), false), some (.lst (found.map csD), b), o2, o3, o4, none], mh⟩)
    (fun o => ∃ (b : Bool) (o2 o3 o4 : Option (D × Bool)), o = .nx ⟨[some (.tup (fs.map Fact.d), false), some (.lst ((casesF fs).map csD), b), o2, o3, o4, none], mh⟩)
    (by
      rintro s ⟨done, found, b, o2, o3, o4, h1, h2, hw, h3, rfl⟩
      exact ⟨b, o2, o3, o4, by rw [← h3]; rfl⟩)
    (by
      rintro f as s P ⟨done, found, b, o2, o3, o4, h1, h2, hw, h3, rfl⟩ hP
      have hf := h f (by rw [h1]; simp)
      have hd : done.length ≤ 3 := by rw [h1] at hl; simp only [List.length_append, List.length_cons] at hl; omega
      have hp : 16 ^ done.length ≤ 16 ^ 3 := Nat.pow_le_pow_right (by omega) hd
      have rz := rgZ_len hf
      obtain ⟨o, e, o4', rfl⟩ := for_ind (bd := bdN (.nm 4)) (e := csD) (body := cm G (evF G pT k) c_law_cases_2)
        (fun as s => ∃ (dn : List (List Int)) (o4 : Option (D × Bool)), found = dn ++ as ∧ s = ⟨[some (.tup (fs.map Fact.d), false), some (.lst (found.map csD), false), some (f.d, false), some (.lst ((dn.flatMap fun row => (rgZ f).map fun x => row ++ [x]).map csD), true), o4, none], mh⟩)
        (fun o => ∃ (o4 : Option (D × Bool)), o = .nx ⟨[some (.tup (fs.map Fact.d), false), some (.lst (found.map csD), false), some (f.d, false), some (.lst ((found.flatMap fun row => (rgZ f).map fun x => row ++ [x]).map csD), true), o4, none], mh⟩)
        (by
          rintro s ⟨dn, o4, q1, rfl⟩
          rw [List.append_nil] at q1
          exact ⟨o4, by rw [q1]⟩)
        (by
          rintro row as s P ⟨dn, o4, q1, rfl⟩ hP
          have g1 : itemD f.d (.int 1) = some (.int f.lo) := by simp [Fact.d]
          have g2 : itemD f.d (.int 2) = some (.int f.hi) := by simp [Fact.d]
          have hrow := hw row (by rw [q1]; simp)
          have r0 : rmE (row.length + 1) = some () := rmE_of (by omega)
          have hlo := hf.l
          have hhi := hf.h
          have hlh := hf.lh
          have rg := rgO_two (a := f.lo) (b := f.hi + 1) (by omega) (by omega) (by omega) (by omega)
          have el : (sm G (evF G pT k) e_law_cases_1).v ⟨[some (.tup (fs.map Fact.d), false), some (.lst (found.map csD), false), some (f.d, false), some (.lst ((dn.flatMap fun row => (rgZ f).map fun x => row ++ [x]).map csD), true), some (csD row, false), none], mh⟩ = some (.lst ((rgZ f).map fun x => csD (row ++ [x])), .fr, ⟨[some (.tup (fs.map Fact.d), false), some (.lst (found.map csD), false), some (f.d, false), some (.lst ((dn.flatMap fun row => (rgZ f).map fun x => row ++ [x]).map csD), true), some (csD row, false), none], mh⟩) := by
            rw [e_law_cases_1, y_lc]
            have := lcF_gen (own := [5]) (tg := .nm 5) (e := D.int) (ds := rgZ f) (it := (sm G (evF G pT k) (.rg2 (.ix (.v 2) (.cint 1)) (.bin .add (.ix (.v 2) (.cint 2)) (.cint 1)))).i) (cd := (sm G (evF G pT k) .nop).c) (el := (sm G (evF G pT k) (.bin .add (.v 4) (.tup (.cons (.v 5) .nil)))).v) (s0 := ⟨[some (.tup (fs.map Fact.d), false), some (.lst (found.map csD), false), some (f.d, false), some (.lst ((dn.flatMap fun row => (rgZ f).map fun x => row ++ [x]).map csD), true), some (csD row, false), none], mh⟩) ⟨[some (.tup (fs.map Fact.d), false), some (.lst (found.map csD), false), some (f.d, false), some (.lst ((dn.flatMap fun row => (rgZ f).map fun x => row ++ [x]).map csD), true), some (csD row, false), none], mh⟩ (fun x => ⟨[some (.tup (fs.map Fact.d), false), some (.lst (found.map csD), false), some (f.d, false), some (.lst ((dn.flatMap fun row => (rgZ f).map fun x => row ++ [x]).map csD), true), some (csD row, false), some (.int x, false)], mh⟩) (fun _ => true) (fun x => csD (row ++ [x])) (by
                simp -implicitDefEqProofs [g1, g2, rg]
                unfold rgZ
                rw [List.map_map]
                rfl) (fun _ _ => rfl) (fun _ _ => rfl) (fun _ _ => rfl) (fun x _ _ => by simp -implicitDefEqProofs [csD, r0]) (by omega)
            rw [filter_t] at this
            exact this
          have dl : (dn.flatMap fun row => (rgZ f).map fun x => row ++ [x]).length ≤ 16 * dn.length := by
            clear el q1 hP
            induction dn with
            | nil => simp
            | cons a dn ih => simp only [List.flatMap_cons, List.length_append, List.length_map, List.length_cons]; omega
          have dn2 : dn.length ≤ 16 ^ 3 := by
            have := congrArg List.length q1
            rw [List.length_append] at this
            omega
          have r1 : rmE ((dn.flatMap fun row => (rgZ f).map fun x => row ++ [x]).length + (rgZ f).length) = some () := rmE_of (by omega)
          generalize hL : (dn.flatMap fun row => (rgZ f).map fun x => row ++ [x]) = L at el r1
          simp -implicitDefEqProofs [c_law_cases_2, el, r1]
          refine hP _ ⟨dn ++ [row], some (csD row, false), by rw [q1]; simp, ?_⟩
          rw [List.flatMap_append, hL]
          simp [Function.comp_def])
        found ⟨[some (.tup (fs.map Fact.d), false), some (.lst (found.map csD), false), some (f.d, false), some (.lst [], true), o4, none], mh⟩ ⟨[], o4, rfl, rfl⟩
      have fl : (found.flatMap fun row => (rgZ f).map fun x => row ++ [x]).length ≤ 16 * found.length := by
        clear e h3 hP hw h2
        induction found with
        | nil => simp
        | cons a dn ih => simp only [List.flatMap_cons, List.length_append, List.length_map, List.length_cons]; omega
      generalize hL : (found.flatMap fun row => (rgZ f).map fun x => row ++ [x]) = L at e fl
      cases b <;>
      · simp -implicitDefEqProofs [c_law_cases_1, e]
        refine hP _ ⟨done ++ [f], L, false, some (f.d, false), some (.lst (L.map csD), false), o4', by rw [h1]; simp, ?_, ?_, by rw [← h3, ← hL]; rfl, rfl⟩
        · rw [List.length_append]
          simp only [List.length_cons, List.length_nil, Nat.zero_add, Nat.pow_succ]
          omega
        · rw [← hL]
          intro r hr
          obtain ⟨row, h4, h5⟩ := List.mem_flatMap.mp hr
          obtain ⟨x, _, h6⟩ := List.mem_map.mp h5
          rw [← h6, List.length_append, hw row h4]
          simp)
    fs ⟨[some (.tup (fs.map Fact.d), false), some (.lst [.tup []], true), none, none, none, none], mh⟩ ⟨[], [[]], true, none, none, none, rfl, by simp, by simp, rfl, rfl⟩
  cases b <;> simp -implicitDefEqProofs [c_law_cases, e]
theorem casesF_go : ∀ (fs : List Fact) (found : List (List Int)) (n : Nat), (∀ r ∈ found, r.length = n) → (∀ f ∈ fs, FcOk f) → found ≠ [] → (∀ r ∈ fs.foldl (fun found f => found.flatMap fun row => (rgZ f).map fun x => row ++ [x]) found, r.length = n + fs.length) ∧ fs.foldl (fun found f => found.flatMap fun row => (rgZ f).map fun x => row ++ [x]) found ≠ []
  | [], found, n, h, _, h0 => ⟨by simpa using h, h0⟩
  | f :: fs, found, n, h, hf, h0 => by
    have ff := hf f List.mem_cons_self
    have ih := casesF_go fs (found.flatMap fun row => (rgZ f).map fun x => row ++ [x]) (n + 1) (fun r hr => by
      obtain ⟨row, h4, h5⟩ := List.mem_flatMap.mp hr
      obtain ⟨x, _, h6⟩ := List.mem_map.mp h5
      rw [← h6, List.length_append, h row h4]
      simp) (fun g hg => hf g (List.mem_cons_of_mem _ hg)) (by
      cases found with
      | nil => exact absurd rfl h0
      | cons a r =>
        intro e
        have : (rgZ f).map (fun x => a ++ [x]) = [] := by
          rw [List.flatMap_cons] at e
          exact (List.append_eq_nil_iff.mp e).1
        have : (rgZ f).length = 0 := by simpa using congrArg List.length this
        unfold rgZ at this
        rw [List.length_map, List.length_range] at this
        have := ff.lh
        omega)
    refine ⟨fun r hr => ?_, ih.2⟩
    have := ih.1 r hr
    simp only [List.length_cons]
    omega
theorem casesF_len {fs : List Fact} (h : ∀ f ∈ fs, FcOk f) {c : List Int} (hc : c ∈ casesF fs) : c.length = fs.length := by
  have := (casesF_go fs [[]] 0 (by simp) h (by simp)).1 c hc
  omega
theorem casesF_ne {fs : List Fact} (h : ∀ f ∈ fs, FcOk f) : casesF fs ≠ [] := (casesF_go fs [[]] 0 (by simp) h (by simp)).2
end E3
set_option linter.all false
set_option maxRecDepth 100000
set_option maxHeartbeats 4000000
namespace E3
open PySem L2
variable {G : Nat → Option D}
/-! ### labels -/
def abc : Str := ⟨#[97, 98, 99, 100, 101, 102, 103, 104, 105, 106, 107, 108, 109, 110, 111, 112, 113, 114]⟩
def labOf (m : Str) (i : Nat) : Str := m ++ ⟨#[97 + i]⟩
theorem abc_at {i : Nat} (h : i < 18) : itemD (.str abc) (.int (i : Nat)) = some (.str ⟨#[97 + i]⟩) := by
  have e : itemD (.str abc) (.int (i : Nat)) = (atI abc.cps.toList (i : Int)).map fun c => .str ⟨#[c]⟩ := by
    show (if decide (abc.length ≤ sizeLine) then (ixD abc.cps.toList (i : Int)).map fun c => D.str ⟨#[c]⟩ else none) = _
    rw [if_pos (by decide)]
    rfl
  rw [e, at_natD]
  have : ∀ j : Fin 18, abc.cps.toList[j.val]? = some (97 + j.val) := by decide
  rw [this ⟨i, h⟩]
  rfl
theorem labOf_inj {m : Str} {i j : Nat} (h : labOf m i = labOf m j) : i = j := by
  have h1 : m.cps ++ #[97 + i] = m.cps ++ #[97 + j] := congrArg Str.cps h
  have h2 := congrArg Array.toList h1
  rw [Array.toList_append, Array.toList_append] at h2
  have h3 := List.append_cancel_left h2
  simp at h3
  omega
theorem labOf_ok {m : Str} {i : Nat} (hm : PyData.strOk m = true) (h : i < 1000) : PyData.strOk (labOf m i) = true := by
  unfold PyData.strOk at hm ⊢
  show (m.cps ++ #[97 + i]).all (fun x => decide (x < 0x110000)) = true
  rw [Array.all_append, hm]
  simp
  omega
/-! ### clauses -/
structure ClsOk (fs : List Fact) (ns : List Str) (m : Str) (lb : Nat) (cl : List Cl) : Prop where
  lab : cl.map (·.lab) = (List.range' lb cl.length).map (labOf m)
  ov : OvOk cl
  cs : ∀ a ∈ cl, CnOk fs ns 4 a.cond ∧ AmOk fs ns 2 a.am
theorem ClsOk.nil {fs : List Fact} {ns : List Str} {m : Str} {lb : Nat} : ClsOk fs ns m lb [] :=
  ⟨rfl, fun i c h => by simp at h, fun a h => by cases h⟩
theorem ClsOk.snoc {fs : List Fact} {ns : List Str} {m : Str} {lb : Nat} {cl : List Cl} {a : Cl} (h : ClsOk fs ns m lb cl) (hl : a.lab = labOf m (lb + cl.length)) (ho : ∀ p, a.over = some p → ∃ c ∈ cl, c.lab = p) (hc : CnOk fs ns 4 a.cond) (ha : AmOk fs ns 2 a.am) : ClsOk fs ns m lb (cl ++ [a]) where
  lab := by
    rw [List.map_append, h.lab, List.length_append]
    simp only [List.map_cons, List.map_nil, List.length_cons, List.length_nil, Nat.zero_add]
    rw [List.range'_concat, List.map_append, hl]
    simp
  ov := fun i c hi p hp => by
    by_cases q : i < cl.length
    · rw [List.getElem?_append_left q] at hi
      obtain ⟨j, d, h1, h2, h3⟩ := h.ov i c hi p hp
      exact ⟨j, d, h1, by rw [List.getElem?_append_left (by omega)]; exact h2, h3⟩
    · have hi' : i < (cl ++ [a]).length := (List.getElem?_eq_some_iff.mp hi).1
      have e : i = cl.length := by simp at hi'; omega
      subst e
      have : a = c := by simpa using hi
      subst this
      obtain ⟨d, hd, e⟩ := ho p hp
      obtain ⟨j, hj⟩ := List.mem_iff_getElem?.mp hd
      have lj := (List.getElem?_eq_some_iff.mp hj).1
      exact ⟨j, d, lj, by rw [List.getElem?_append_left lj]; exact hj, e⟩
  cs := fun b hb => by
    rcases List.mem_append.mp hb with q | q
    · exact h.cs b q
    · rw [List.mem_singleton.mp q]; exact ⟨hc, ha⟩
theorem ClsOk.nd {fs : List Fact} {ns : List Str} {m : Str} {lb : Nat} {cl : List Cl} (h : ClsOk fs ns m lb cl) : (cl.map (·.lab)).Nodup := by
  rw [h.lab]
  refine List.Pairwise.map _ (fun a b hab e => hab (labOf_inj e)) (List.nodup_range')
/-- slots of law_chains, law_terms -/
abbrev chs (fs : List Fact) (many : Int) (m : Str) (ts : List Tm) (lb : Int) (o6 : Option (D × Bool)) (o7 o8 o9 o10 o11 o12 : Option (D × Bool)) (P : List D) : S := ⟨[some (.ref 0, false), some (.tup (fs.map Fact.d), false), some (.int many, false), some (.str m, false), some (.lst (ts.map Tm.d), true), some (.int lb, false), o6, o7, o8, o9, o10, o11, o12], [P]⟩
section
variable {fs : List Fact} {many : Int} {m : Str} {ts : List Tm} {lb n : Nat} {ns : List Str} {o6 : Option (D × Bool)} (hf : fs.length ≤ 8) (hn : ns.length ≤ 8) (hm : m.length ≤ 100) (hlb : lb ≤ 12) (hk : n ≤ 4)
include hf hn hm hlb hk
theorem w_chains_in {P : List D} (hP : PoolOk P) {k : Nat} {o10 o11 o12 : Option (D × Bool)} : ∃ o, forLoop (bdN (.nm 10)) (cm G (evF G pT (k + 7)) c_law_chains_2) ((List.range n).map fun j : Nat => D.int j) (chs fs many m ts lb o6 (some (.lst (ns.map .str), true)) none (some (.lst [], true)) o10 o11 o12 P) = some o ∧
    ∃ (cl : List Cl) (P : List D) (b : Bool) (o10 o11 o12 : Option (D × Bool)), o = .nx (chs fs many m ts ((lb + n : Nat) : Int) o6 (some (.lst (ns.map .str), b)) none (some (.lst (cl.map Cl.d), true)) o10 o11 o12 P) ∧ cl.length = n ∧ PoolOk P ∧ ClsOk fs ns m lb cl := by
  refine for_ind (bd := bdN (.nm 10)) (e := fun j : Nat => D.int j) (fun as s => ∃ (cl : List Cl) (P : List D) (b : Bool) (o10 o11 o12 : Option (D × Bool)), as = List.range' cl.length (n - cl.length) ∧ cl.length ≤ n ∧ s = chs fs many m ts ((lb + cl.length : Nat) : Int) o6 (some (.lst (ns.map .str), b)) none (some (.lst (cl.map Cl.d), true)) o10 o11 o12 P ∧ PoolOk P ∧ ClsOk fs ns m lb cl) _ ?_ ?_ (List.range n) _ ⟨[], P, true, o10, o11, o12, by rw [List.range_eq_range']; rfl, Nat.zero_le _, rfl, hP, ClsOk.nil⟩
  · rintro s ⟨cl, P, b, o10, o11, o12, h1, h2, rfl, h3, h4⟩
    have e : cl.length = n := by
      have := congrArg List.length h1
      simp at this
      omega
    exact ⟨cl, P, b, o10, o11, o12, by rw [e], e, h3, h4⟩
  · rintro a as s X ⟨cl, P, b, o10, o11, o12, h1, h2, rfl, h3, h4⟩ hX
    have hl : cl.length < n := by
      have := congrArg List.length h1
      simp at this
      omega
    have hr : List.range' cl.length (n - cl.length) = cl.length :: List.range' (cl.length + 1) (n - (cl.length + 1)) := by
      rw [show n - cl.length = (n - (cl.length + 1)) + 1 by omega, List.range'_succ]
    rw [hr] at h1
    injection h1 with h1 h6
    subst h1
    have ab := abc_at (i := lb + cl.length) (by omega)
    simp only [abc] at ab
    have r1 : rmE (m.length + 1) = some () := rmE_of (by omega)
    have ad : bopD .add (.str m) (.str ⟨#[97 + (lb + cl.length)]⟩) = some (.str (labOf m (lb + cl.length)), .st) := by
      rw [z_addS]
      have : (⟨#[97 + (lb + cl.length)]⟩ : Str).length = 1 := rfl
      rw [this, r1]
      rfl
    have r2 : rmO cl.length = some () := rmO_of (by omega)
    have cast : ((lb : Int) + (cl.length : Int)) + 1 = ((lb + (cl.length + 1) : Nat) : Int) := by omega
    rcases Nat.eq_zero_or_pos cl.length with h0 | h0
    · have e0 : cl = [] := List.length_eq_zero_iff.mp h0
      subst e0
      obtain ⟨am, P2, e2, q2, oa⟩ := w_law_amount (G := G) (fs := fs) (ns := ns) (by omega) (by omega) 2 P h3 (k + 2)
      have e2' : evF G pT (k + 7) i_law_amount [.ref 0, .tup (fs.map Fact.d), .lst (ns.map .str), .int 2] [P] = some (am.d, [P2]) := e2
      simp only [List.length_nil, Nat.add_zero] at ab ad
      cases b <;>
      · simp -implicitDefEqProofs [c_law_chains_2, e2', ab, ad]
        refine hX _ ⟨[⟨labOf m lb, .tru, am, none⟩], P2, false, some (.int 0, false), some (Tr.tru.d, false), some (.non, false), by simpa using h6, by simp; omega, by simp [Cl.d, Tr.d, ovD, wTrue], q2, ?_⟩
        exact ClsOk.snoc (cl := []) ClsOk.nil rfl (fun p h => by cases h) ⟨trivial, fun x h => (by cases h), fun x h => (by cases h), by simp [Tr.depth]⟩ oa
    · have c0 : ¬ cl.length = 0 := by omega
      have c0' : ¬ cl = [] := fun e => c0 (by rw [e]; rfl)
      have hp : cl.length - 1 < cl.length := by omega
      have ha : atI (cl.map Cl.d) ((cl.length : Int) - 1) = some (cl[cl.length - 1]'hp).d := by
        have q := at_nat (l := cl) (List.getElem?_eq_getElem hp)
        rw [show ((cl.length - 1 : Nat) : Int) = (cl.length : Int) - 1 by omega] at q
        rw [at_map, q]; rfl
      obtain ⟨cn, P1, e1, q1, oc⟩ := w_law_condition (G := G) (fs := fs) (ns := ns) (by omega) (by omega) 2 P h3 k
      have e1' : evF G pT (k + 7) i_law_condition [.ref 0, .tup (fs.map Fact.d), .lst (ns.map .str), .int 2] [P] = some (cn.d, [P1]) := e1
      obtain ⟨am, P2, e2, q2, oa⟩ := w_law_amount (G := G) (fs := fs) (ns := ns) (by omega) (by omega) 2 P1 q1 (k + 2)
      have e2' : evF G pT (k + 7) i_law_amount [.ref 0, .tup (fs.map Fact.d), .lst (ns.map .str), .int 2] [P1] = some (am.d, [P2]) := e2
      have cq : ¬ (cl.length : Int) = 0 := by omega
      have ab' := ab
      rw [Int.natCast_add] at ab'
      cases b <;>
      · simp -implicitDefEqProofs [c_law_chains_2, c0, c0', cq, e1', ha, e2', ab', ad, r2]
        refine hX _ ⟨cl ++ [⟨labOf m (lb + cl.length), cn, am, some (cl[cl.length - 1]'hp).lab⟩], P2, false, some (.int (cl.length : Nat), false), some (cn.d, false), some (.str (cl[cl.length - 1]'hp).lab, false), by simpa using h6, by simp; omega, by simp [Cl.d, ovD]; omega, q2, ?_⟩
        exact h4.snoc rfl (fun p h => ⟨_, List.getElem_mem hp, by injection h⟩) oc oa
theorem w_terms_in {P : List D} (hP : PoolOk P) {k : Nat} {o10 o11 o12 : Option (D × Bool)} : ∃ o, forLoop (bdN (.nm 10)) (cm G (evF G pT (k + 7)) c_law_terms_2) ((List.range n).map fun j : Nat => D.int j) (chs fs many m ts lb o6 (some (.lst (ns.map .str), true)) none (some (.lst [], true)) o10 o11 o12 P) = some o ∧
    ∃ (cl : List Cl) (P : List D) (b : Bool) (o10 o11 o12 : Option (D × Bool)), o = .nx (chs fs many m ts ((lb + n : Nat) : Int) o6 (some (.lst (ns.map .str), b)) none (some (.lst (cl.map Cl.d), true)) o10 o11 o12 P) ∧ cl.length = n ∧ PoolOk P ∧ ClsOk fs ns m lb cl := by
  refine for_ind (bd := bdN (.nm 10)) (e := fun j : Nat => D.int j) (fun as s => ∃ (cl : List Cl) (P : List D) (b : Bool) (o10 o11 o12 : Option (D × Bool)), as = List.range' cl.length (n - cl.length) ∧ cl.length ≤ n ∧ s = chs fs many m ts ((lb + cl.length : Nat) : Int) o6 (some (.lst (ns.map .str), b)) none (some (.lst (cl.map Cl.d), true)) o10 o11 o12 P ∧ PoolOk P ∧ ClsOk fs ns m lb cl) _ ?_ ?_ (List.range n) _ ⟨[], P, true, o10, o11, o12, by rw [List.range_eq_range']; rfl, Nat.zero_le _, rfl, hP, ClsOk.nil⟩
  · rintro s ⟨cl, P, b, o10, o11, o12, h1, h2, rfl, h3, h4⟩
    have e : cl.length = n := by
      have := congrArg List.length h1
      simp at this
      omega
    exact ⟨cl, P, b, o10, o11, o12, by rw [e], e, h3, h4⟩
  · rintro a as s X ⟨cl, P, b, o10, o11, o12, h1, h2, rfl, h3, h4⟩ hX
    have hl : cl.length < n := by
      have := congrArg List.length h1
      simp at this
      omega
    have hr : List.range' cl.length (n - cl.length) = cl.length :: List.range' (cl.length + 1) (n - (cl.length + 1)) := by
      rw [show n - cl.length = (n - (cl.length + 1)) + 1 by omega, List.range'_succ]
    rw [hr] at h1
    injection h1 with h1 h6
    subst h1
    have ab := abc_at (i := lb + cl.length) (by omega)
    simp only [abc] at ab
    have r1 : rmE (m.length + 1) = some () := rmE_of (by omega)
    have ad : bopD .add (.str m) (.str ⟨#[97 + (lb + cl.length)]⟩) = some (.str (labOf m (lb + cl.length)), .st) := by
      rw [z_addS]
      have : (⟨#[97 + (lb + cl.length)]⟩ : Str).length = 1 := rfl
      rw [this, r1]
      rfl
    have r2 : rmO cl.length = some () := rmO_of (by omega)
    rcases Nat.eq_zero_or_pos cl.length with h0 | h0
    · have e0 : cl = [] := List.length_eq_zero_iff.mp h0
      subst e0
      simp only [List.length_nil, Nat.add_zero] at ab ad
      obtain ⟨z, P1, e1, q1, z0, z1⟩ := w_draw (G := G) h3 (m := 3) (by omega) (by omega) (k := k + 5)
      by_cases hz : 0 < z
      · obtain ⟨am, P2, e2, q2, oa⟩ := w_law_amount (G := G) (fs := fs) (ns := ns) (by omega) (by omega) 2 P1 q1 (k + 2)
        have e2' : evF G pT (k + 7) i_law_amount [.ref 0, .tup (fs.map Fact.d), .lst (ns.map .str), .int 2] [P1] = some (am.d, [P2]) := e2
        cases b <;>
        · simp -implicitDefEqProofs [c_law_terms_2, e1, hz, e2', ab, ad]
          refine hX _ ⟨[⟨labOf m lb, .tru, am, none⟩], P2, false, some (.int 0, false), some (.non, false), some (Tr.tru.d, false), by simpa using h6, by simp; omega, by simp [Cl.d, Tr.d, ovD, wTrue], q2, ?_⟩
          exact ClsOk.snoc (cl := []) ClsOk.nil rfl (fun p h => by cases h) ⟨trivial, fun x h => (by cases h), fun x h => (by cases h), by simp [Tr.depth]⟩ oa
      · obtain ⟨cn, P2, e2, q2, oc⟩ := w_law_condition (G := G) (fs := fs) (ns := ns) (by omega) (by omega) 2 P1 q1 k
        have e2' : evF G pT (k + 7) i_law_condition [.ref 0, .tup (fs.map Fact.d), .lst (ns.map .str), .int 2] [P1] = some (cn.d, [P2]) := e2
        obtain ⟨am, P3, e3, q3, oa⟩ := w_law_amount (G := G) (fs := fs) (ns := ns) (by omega) (by omega) 2 P2 q2 (k + 2)
        have e3' : evF G pT (k + 7) i_law_amount [.ref 0, .tup (fs.map Fact.d), .lst (ns.map .str), .int 2] [P2] = some (am.d, [P3]) := e3
        cases b <;>
        · simp -implicitDefEqProofs [c_law_terms_2, e1, hz, e2', e3', ab, ad]
          refine hX _ ⟨[⟨labOf m lb, cn, am, none⟩], P3, false, some (.int 0, false), some (.non, false), some (cn.d, false), by simpa using h6, by simp; omega, by simp [Cl.d, ovD], q3, ?_⟩
          exact ClsOk.snoc (cl := []) ClsOk.nil rfl (fun p h => by cases h) oc oa
    · have c0 : ¬ cl.length = 0 := by omega
      have c0' : ¬ cl = [] := fun e => c0 (by rw [e]; rfl)
      have cq : ¬ (cl.length : Int) = 0 := by omega
      have ab' := ab
      rw [Int.natCast_add] at ab'
      obtain ⟨z, P1, e1, q1, z0, z1⟩ := w_draw (G := G) h3 (m := 4) (by omega) (by omega) (k := k + 5)
      by_cases hz : z = 0
      · subst hz
        obtain ⟨cn, P2, e2, q2, oc⟩ := w_law_condition (G := G) (fs := fs) (ns := ns) (by omega) (by omega) 2 P1 q1 k
        have e2' : evF G pT (k + 7) i_law_condition [.ref 0, .tup (fs.map Fact.d), .lst (ns.map .str), .int 2] [P1] = some (cn.d, [P2]) := e2
        obtain ⟨am, P3, e3, q3, oa⟩ := w_law_amount (G := G) (fs := fs) (ns := ns) (by omega) (by omega) 2 P2 q2 (k + 2)
        have e3' : evF G pT (k + 7) i_law_amount [.ref 0, .tup (fs.map Fact.d), .lst (ns.map .str), .int 2] [P2] = some (am.d, [P3]) := e3
        cases b <;>
        · simp -implicitDefEqProofs [c_law_terms_2, c0, c0', cq, e1, e2', e3', ab', ad, r2]
          refine hX _ ⟨cl ++ [⟨labOf m (lb + cl.length), cn, am, none⟩], P3, false, some (.int (cl.length : Nat), false), some (.non, false), some (cn.d, false), by simpa using h6, by simp; omega, by simp [Cl.d, ovD]; omega, q3, ?_⟩
          exact h4.snoc rfl (fun p h => by cases h) oc oa
      · obtain ⟨y, P2, e2, q2, y0, y1⟩ := w_draw (G := G) q1 (m := (cl.length : Int)) (by omega) (by omega) (k := k + 5)
        have hp : y.toNat < cl.length := by omega
        have ha : atI (cl.map Cl.d) y = some (cl[y.toNat]'hp).d := by
          have q := at_nat (l := cl) (List.getElem?_eq_getElem hp)
          rw [show (y.toNat : Int) = y by omega] at q
          rw [at_map, q]; rfl
        obtain ⟨cn, P3, e3, q3, oc⟩ := w_law_condition (G := G) (fs := fs) (ns := ns) (by omega) (by omega) 2 P2 q2 k
        have e3' : evF G pT (k + 7) i_law_condition [.ref 0, .tup (fs.map Fact.d), .lst (ns.map .str), .int 2] [P2] = some (cn.d, [P3]) := e3
        obtain ⟨am, P4, e4, q4, oa⟩ := w_law_amount (G := G) (fs := fs) (ns := ns) (by omega) (by omega) 2 P3 q3 (k + 2)
        have e4' : evF G pT (k + 7) i_law_amount [.ref 0, .tup (fs.map Fact.d), .lst (ns.map .str), .int 2] [P3] = some (am.d, [P4]) := e4
        cases b <;>
        · simp -implicitDefEqProofs [c_law_terms_2, c0, c0', cq, e1, hz, e2, ha, e3', e4', ab', ad, r2]
          refine hX _ ⟨cl ++ [⟨labOf m (lb + cl.length), cn, am, some (cl[y.toNat]'hp).lab⟩], P4, false, some (.int (cl.length : Nat), false), some (.str (cl[y.toNat]'hp).lab, false), some (cn.d, false), by simpa using h6, by simp; omega, by simp [Cl.d, ovD]; omega, q4, ?_⟩
          exact h4.snoc rfl (fun p h => ⟨_, List.getElem_mem hp, by injection h⟩) oc oa
end
/-! ### terms -/
def tnm : List Str := [⟨#[112, 112]⟩, ⟨#[113, 113]⟩, ⟨#[114, 114]⟩]
structure TsOk (fs : List Fact) (m : Str) (ts : List Tm) (lb : Nat) : Prop where
  nm : ts.map (·.nm) = tnm.take ts.length
  len : ts.length ≤ 3
  lb4 : lb ≤ 4 * ts.length
  cl : ∀ t ∈ ts, 1 ≤ t.cls.length ∧ t.cls.length ≤ 4
  lab : (ts.flatMap fun t => t.cls.map (·.lab)) = (List.range lb).map (labOf m)
  cs : ∀ (i : Nat) t, ts[i]? = some t → ∃ l, ClsOk fs ((ts.take i).map (·.nm)) m l t.cls ∧ l + t.cls.length ≤ 12
theorem TsOk.nil {fs : List Fact} {m : Str} : TsOk fs m [] 0 := ⟨rfl, by simp, by simp, by simp, rfl, by simp⟩
theorem TsOk.snoc {fs : List Fact} {m : Str} {ts : List Tm} {lb : Nat} {cl : List Cl} (h : TsOk fs m ts lb) (hl : ts.length < 3) (hc : ClsOk fs (ts.map (·.nm)) m lb cl) (h1 : 1 ≤ cl.length) (h4 : cl.length ≤ 4) : TsOk fs m (ts ++ [⟨tnm[ts.length]'hl, cl⟩]) (lb + cl.length) where
  nm := by
    rw [List.map_append, h.nm, List.length_append]
    simp only [List.map_cons, List.map_nil, List.length_cons, List.length_nil, Nat.zero_add]
    rw [List.take_succ, List.getElem?_eq_getElem hl]
    rfl
  len := by simp; omega
  lb4 := by have := h.lb4; simp; omega
  cl := fun t ht => by
    rcases List.mem_append.mp ht with q | q
    · exact h.cl t q
    · rw [List.mem_singleton.mp q]; exact ⟨h1, h4⟩
  lab := by
    rw [List.flatMap_append, h.lab]
    simp only [List.flatMap_cons, List.flatMap_nil, List.append_nil]
    rw [hc.lab, ← List.map_append]
    congr 1
    rw [List.range_eq_range', List.range_eq_range', ← List.range'_append_1]
    simp
  cs := fun i t hi => by
    by_cases q : i < ts.length
    · rw [List.getElem?_append_left q] at hi
      rw [List.take_append_of_le_length (by omega)]
      exact h.cs i t hi
    · have hi' := (List.getElem?_eq_some_iff.mp hi).1
      have e : i = ts.length := by simp at hi'; omega
      subst e
      have e2 : (⟨tnm[ts.length]'hl, cl⟩ : Tm) = t := by simpa using hi
      rw [← e2, List.take_left]
      refine ⟨lb, hc, ?_⟩
      have := h.lb4
      simp only
      omega
theorem tnm_at {i : Nat} (h : i < 3) : atI [D.str ⟨#[112, 112]⟩, .str ⟨#[113, 113]⟩, .str ⟨#[114, 114]⟩] (i : Nat) = some (.str (tnm[i]'h)) := by
  have : atI (tnm.map D.str) (i : Nat) = some (.str (tnm[i]'h)) := by rw [at_map, at_nat (List.getElem?_eq_getElem (show i < tnm.length from h))]; rfl
  exact this
theorem flat_strs : ∀ {xs : List Str}, flat.flatL (xs.map D.str) = true
  | [] => rfl
  | x :: xs => by show (true && flat.flatL (xs.map D.str)) = true; rw [flat_strs]; rfl
theorem w_before {F : Fn} {fs : List Fact} {many : Int} {m : Str} {ts : List Tm} {lb : Int} {o6 o7 o9 o10 o11 o12 : Option (D × Bool)} {P : List D} (hl : ts.length ≤ 100) : ∃ s', (sm G F e_law_chains_1).v (frzS (chs fs many m ts lb o6 o7 none o9 o10 o11 o12 P)) = some (.lst ((ts.map (·.nm)).map .str), .fr, s') := by
  have nt : noRef.noRefL (ts.map Tm.d) = true := noRef_map fun t _ => nr_tm t
  have nt' : noRef (.lst (ts.map Tm.d)) = true := nt
  refine ⟨⟨[none, frz1 (some (.tup (fs.map Fact.d), false)), frz1 (some (.int many, false)), frz1 (some (.str m, false)), some (.lst (ts.map Tm.d), false), frz1 (some (.int lb, false)), frz1 o6, frz1 o7, none, frz1 o9, frz1 o10, frz1 o11, frz1 o12], []⟩, ?_⟩
  rw [e_law_chains_1, y_lc]
  have := lcF_gen (own := [8]) (tg := .nm 8) (e := Tm.d) (ds := ts) (it := (sm G F (.v 4)).i) (cd := (sm G F .nop).c) (el := (sm G F (.ix (.v 8) (.cint 0))).v) (s0 := frzS (chs fs many m ts lb o6 o7 none o9 o10 o11 o12 P)) ⟨[none, frz1 (some (.tup (fs.map Fact.d), false)), frz1 (some (.int many, false)), frz1 (some (.str m, false)), some (.lst (ts.map Tm.d), false), frz1 (some (.int lb, false)), frz1 o6, frz1 o7, none, frz1 o9, frz1 o10, frz1 o11, frz1 o12], []⟩ (fun t => ⟨[none, frz1 (some (.tup (fs.map Fact.d), false)), frz1 (some (.int many, false)), frz1 (some (.str m, false)), some (.lst (ts.map Tm.d), false), frz1 (some (.int lb, false)), frz1 o6, frz1 o7, some (t.d, false), frz1 o9, frz1 o10, frz1 o11, frz1 o12], []⟩) (fun _ => true) (fun t => .str t.nm) (by simp -implicitDefEqProofs [nt']) (fun _ _ => rfl) (fun _ _ => rfl) (fun _ _ => rfl) (fun _ _ _ => by simp) (by omega)
  rw [filter_t] at this
  rw [List.map_map]
  exact this
/-- the outer loop, chains or terms -/
theorem w_codes {bo bi : C} {ii : Nat} {fs : List Fact} {m : Str} {many : Nat} (hf : fs.length ≤ 8) (hm : m.length ≤ 100) (h3 : many ≤ 3)
    (hr : ∀ (k : Nat) (a0 a1 a2 a3 : D) (mh : List (List D)), evF G pT (k + 1) ii [a0, a1, a2, a3] mh = outR (cm G (evF G pT k) (.seq (.par 4 5 (.lst .nil) (.cint 0)) (.seq (.forr (.nm 6) (.rg1 (.bin .add (.cint 1) (.call i_law_draw false (.cons (.v 0) (.cons (.v 2) .nil))))) bo) (.seq (.ret (.b1 .tuple (.v 4))) .skip))) ⟨[some (a0, false), some (a1, false), some (a2, false), some (a3, false), none, none, none, none, none, none, none, none, none], mh⟩))
    (hb : bo = .seq (.asg (.nm 7) (.bor e_law_chains_1)) (.seq (.asg (.nm 9) (.lst .nil)) (.seq (.forr (.nm 10) (.rg1 (.bin .add (.cint 1) (.call i_law_draw false (.cons (.v 0) (.cons (.cint 4) .nil))))) bi) (.seq (.app 4 (.tup (.cons (.ix (.tup (.cons (.cstr ⟨#[112, 112]⟩) (.cons (.cstr ⟨#[113, 113]⟩) (.cons (.cstr ⟨#[114, 114]⟩) .nil)))) (.v 6)) (.cons (.b1 .tuple (.v 9)) .nil)))) .skip))))
    (hi : ∀ {ts : List Tm} {lb n : Nat} {ns : List Str} {o6 : Option (D × Bool)} {P : List D} {k : Nat} {o10 o11 o12 : Option (D × Bool)} {many : Int}, ns.length ≤ 8 → lb ≤ 12 → n ≤ 4 → PoolOk P → ∃ o, forLoop (bdN (.nm 10)) (cm G (evF G pT (k + 7)) bi) ((List.range n).map fun j : Nat => D.int j) (chs fs many m ts lb o6 (some (.lst (ns.map .str), true)) none (some (.lst [], true)) o10 o11 o12 P) = some o ∧
      ∃ (cl : List Cl) (P : List D) (b : Bool) (o10 o11 o12 : Option (D × Bool)), o = .nx (chs fs many m ts ((lb + n : Nat) : Int) o6 (some (.lst (ns.map .str), b)) none (some (.lst (cl.map Cl.d), true)) o10 o11 o12 P) ∧ cl.length = n ∧ PoolOk P ∧ ClsOk fs ns m lb cl)
    {P : List D} (hP : PoolOk P) (h1 : 1 ≤ many) {k : Nat} : ∃ ts lb P', evF G pT (k + 8) ii [.ref 0, .tup (fs.map Fact.d), .int (many : Nat), .str m] [P] = some (.tup (ts.map Tm.d), [P']) ∧ PoolOk P' ∧ 1 ≤ ts.length ∧ ts.length ≤ many ∧ TsOk fs m ts lb := by
  rw [hr (k + 7)]
  obtain ⟨n0, P1, e1, q1, u0, u1⟩ := w_draw (G := G) hP (m := (many : Int)) (by omega) (by omega) (k := k + 5)
  obtain ⟨n, hn⟩ : ∃ n : Nat, 1 + n0 = (n : Int) := ⟨(1 + n0).toNat, by omega⟩
  have hn3 : n ≤ many := by omega
  obtain ⟨o, e, ts, lb, P2, o6, o7, o9, o10, o11, o12, rfl, hl, q2, ht⟩ := for_ind (bd := bdN (.nm 6)) (e := fun j : Nat => D.int j) (body := cm G (evF G pT (k + 7)) bo)
    (fun as s => ∃ (ts : List Tm) (lb : Nat) (P : List D) (o6 o7 o9 o10 o11 o12 : Option (D × Bool)), as = List.range' ts.length (n - ts.length) ∧ ts.length ≤ n ∧ s = chs fs (many : Nat) m ts (lb : Nat) o6 o7 none o9 o10 o11 o12 P ∧ PoolOk P ∧ TsOk fs m ts lb)
    (fun o => ∃ (ts : List Tm) (lb : Nat) (P : List D) (o6 o7 o9 o10 o11 o12 : Option (D × Bool)), o = .nx (chs fs (many : Nat) m ts (lb : Nat) o6 o7 none o9 o10 o11 o12 P) ∧ ts.length = n ∧ PoolOk P ∧ TsOk fs m ts lb)
    (by
      rintro s ⟨ts, lb, P, o6, o7, o9, o10, o11, o12, h1, h2, rfl, h3, h4⟩
      have e : ts.length = n := by
        have := congrArg List.length h1
        simp at this
        omega
      exact ⟨ts, lb, P, o6, o7, o9, o10, o11, o12, rfl, e, h3, h4⟩)
    (by
      rintro a as s X ⟨ts, lb, P, o6, o7, o9, o10, o11, o12, h1, h2, rfl, hq, ht⟩ hX
      have hl : ts.length < n := by
        have := congrArg List.length h1
        simp at this
        omega
      have hrr : List.range' ts.length (n - ts.length) = ts.length :: List.range' (ts.length + 1) (n - (ts.length + 1)) := by
        rw [show n - ts.length = (n - (ts.length + 1)) + 1 by omega, List.range'_succ]
      rw [hrr] at h1
      injection h1 with h1 h6
      subst h1
      have hl3 : ts.length < 3 := by omega
      obtain ⟨s', eb⟩ := w_before (G := G) (F := evF G pT (k + 7)) (fs := fs) (many := (many : Nat)) (m := m) (ts := ts) (lb := (lb : Nat)) (o6 := some (.int (ts.length : Nat), false)) (o7 := o7) (o9 := o9) (o10 := o10) (o11 := o11) (o12 := o12) (P := P) (by omega)
      have ff : flatT (.lst ((ts.map (·.nm)).map .str), .fr) = true := flat_strs
      obtain ⟨c0, P1, e1, q1, v0, v1⟩ := w_draw (G := G) hq (m := 4) (by omega) (by omega) (k := k + 5)
      obtain ⟨c, hc⟩ : ∃ c : Nat, 1 + c0 = (c : Int) := ⟨(1 + c0).toNat, by omega⟩
      have hlb := ht.lb4
      obtain ⟨o, e2, cl, P2, b, p10, p11, p12, rfl, hcl, q2, ho⟩ := hi (ts := ts) (lb := lb) (n := c) (ns := ts.map (·.nm)) (o6 := some (.int (ts.length : Nat), false)) (P := P1) (k := k) (o10 := o10) (o11 := o11) (o12 := o12) (many := (many : Nat)) (by simp; omega) (by omega) (by omega) q1
      have rg := rgO_nat (n := c) (by omega)
      have ta := tnm_at hl3
      have r1 : rmO ts.length = some () := rmO_of (by omega)
      subst hb
      have bd : bdN (.nm 6) (.int (ts.length : Nat)) (chs fs (many : Nat) m ts (lb : Nat) o6 o7 none o9 o10 o11 o12 P) = some (chs fs (many : Nat) m ts (lb : Nat) (some (.int (ts.length : Nat), false)) o7 none o9 o10 o11 o12 P) := id rfl
      rw [bd, Option.bind_some]
      have s1 : cm G (evF G pT (k + 7)) (.asg (.nm 7) (.bor e_law_chains_1)) (chs fs (many : Nat) m ts (lb : Nat) (some (.int (ts.length : Nat), false)) o7 none o9 o10 o11 o12 P) = some (.nx (chs fs (many : Nat) m ts (lb : Nat) (some (.int (ts.length : Nat), false)) (some (.lst ((ts.map (·.nm)).map .str), true)) none o9 o10 o11 o12 P)) := by
        rw [z_asgC, y_bor, z_nxS, z_asg, z_bor, eb, bnd_some]
        simp only [ff, if_true]
        simp -implicitDefEqProofs [-List.map_map]
      rw [seq_nx s1]
      simp -implicitDefEqProofs [e1, hc, rg, e2, ta, r1, -List.map_map]
      exact hX _ ⟨ts ++ [⟨tnm[ts.length], cl⟩], lb + cl.length, P2, some (.int (ts.length : Nat), false), some (.lst ((ts.map (·.nm)).map .str), b), some (.lst (cl.map Cl.d), true), p10, p11, p12, by simpa using h6, by simp; omega, by simp [Tm.d, hcl]; rfl, q2, ht.snoc hl3 ho (by omega) (by omega)⟩)
    (List.range n) (chs fs (many : Nat) m [] (0 : Nat) none none none none none none none P1) ⟨[], 0, P1, none, none, none, none, none, none, by rw [List.range_eq_range']; rfl, Nat.zero_le _, rfl, q1, TsOk.nil⟩
  have rg := rgO_nat (n := n) (by omega)
  refine ⟨ts, lb, P2, ?_, q2, by omega, by omega, ht⟩
  have e' : forLoop (bdN (.nm 6)) (cm G (evF G pT (k + 7)) bo) ((List.range n).map fun j : Nat => D.int j) ⟨[some (.ref 0, false), some (.tup (fs.map Fact.d), false), some (.int (many : Nat), false), some (.str m, false), some (.lst [], true), some (.int 0, false), none, none, none, none, none, none, none], [P1]⟩ = _ := e
  simp -implicitDefEqProofs [e1, hn, rg, e']
end E3
set_option linter.all false
set_option maxRecDepth 100000
set_option maxHeartbeats 4000000
namespace E3
open PySem L2
variable {G : Nat → Option D}
theorem w_law_chains {fs : List Fact} {m : Str} {many : Nat} (hf : fs.length ≤ 8) (hm : m.length ≤ 100) (h3 : many ≤ 3) {P : List D} (hP : PoolOk P) (h1 : 1 ≤ many) {k : Nat} : ∃ ts lb P', evF G pT (k + 8) i_law_chains [.ref 0, .tup (fs.map Fact.d), .int (many : Nat), .str m] [P] = some (.tup (ts.map Tm.d), [P']) ∧ PoolOk P' ∧ 1 ≤ ts.length ∧ ts.length ≤ many ∧ TsOk fs m ts lb :=
  w_codes (bo := c_law_chains_1) (bi := c_law_chains_2) hf hm h3 (fun k a0 a1 a2 a3 mh => r_law_chains) rfl (fun hn hlb hk hP => w_chains_in hf hn hm hlb hk hP) hP h1
theorem w_law_terms {fs : List Fact} {m : Str} {many : Nat} (hf : fs.length ≤ 8) (hm : m.length ≤ 100) (h3 : many ≤ 3) {P : List D} (hP : PoolOk P) (h1 : 1 ≤ many) {k : Nat} : ∃ ts lb P', evF G pT (k + 8) i_law_terms [.ref 0, .tup (fs.map Fact.d), .int (many : Nat), .str m] [P] = some (.tup (ts.map Tm.d), [P']) ∧ PoolOk P' ∧ 1 ≤ ts.length ∧ ts.length ≤ many ∧ TsOk fs m ts lb :=
  w_codes (bo := c_law_terms_1) (bi := c_law_terms_2) hf hm h3 (fun k a0 a1 a2 a3 mh => r_law_terms) rfl (fun hn hlb hk hP => w_terms_in hf hn hm hlb hk hP) hP h1
def mL : Str := ⟨#[108]⟩
/-- a drawn code -/
structure GenOk (m : Str) (n many : Nat) (c : Cd) (lb : Nat) : Prop where
  f : FsOk n c.fs
  f1 : 1 ≤ c.fs.length
  t1 : 1 ≤ c.ts.length
  tm : c.ts.length ≤ many
  t : TsOk c.fs m c.ts lb
theorem w_some_code {n many : Nat} (hn : n ≤ 3) (h1n : 1 ≤ n) (h3 : many ≤ 3) (h1 : 1 ≤ many) {P : List D} (hP : PoolOk P) {k : Nat} : ∃ c lb P', evF G pT (k + 9) i_law_some_code [.ref 0, .int (n : Nat), .int (many : Nat)] [P] = some (c.d, [P']) ∧ PoolOk P' ∧ GenOk mL n many c lb := by
  rw [r_law_some_code]
  obtain ⟨fs0, P1, e1, q1, f0⟩ := w_law_facts (G := G) hP (m := n) (by omega) (k := k + 5)
  have tail : ∀ (fs : List Fact) (P : List D) (o : Option (D × Bool)), PoolOk P → FsOk n fs → 1 ≤ fs.length → ∃ c lb P', outR (cm G (evF G pT (k + 8)) (.seq (.ite (.cmp .eq (.call i_law_draw false (.cons (.v 0) (.cons (.cint 2) .nil))) (.cint 0)) (.seq (.ret (.tup (.cons (.v 3) (.cons (.call i_law_chains false (.cons (.v 0) (.cons (.v 3) (.cons (.v 2) (.cons (.cstr ⟨#[108]⟩) .nil))))) .nil))))
    .skip) .skip)
    (.seq (.ret (.tup (.cons (.v 3) (.cons (.call i_law_terms false (.cons (.v 0) (.cons (.v 3) (.cons (.v 2) (.cons (.cstr ⟨#[108]⟩) .nil))))) .nil))))
    .skip)) ⟨[some (.ref 0, false), some (.int (n : Nat), false), some (.int (many : Nat), false), some (.tup (fs.map Fact.d), false)], [P]⟩) = some (c.d, [P']) ∧ PoolOk P' ∧ GenOk mL n many c lb := fun fs P o hP hf hl => by
    obtain ⟨z, P2, e2, q2, z0, z1⟩ := w_draw (G := G) hP (m := 2) (by omega) (by omega) (k := k + 6)
    by_cases hz : z = 0
    · subst hz
      obtain ⟨ts, lb, P3, e3, q3, t1, t2, t3⟩ := w_law_chains (G := G) (fs := fs) (m := mL) (by have := hf.len; omega) (by decide) h3 q2 h1 (k := k)
      have e3' : evF G pT (k + 8) i_law_chains [.ref 0, .tup (fs.map Fact.d), .int (many : Nat), .str ⟨#[108]⟩] [P2] = _ := e3
      exact ⟨⟨fs, ts⟩, lb, P3, by simp -implicitDefEqProofs [e2, e3']; rfl, q3, ⟨hf, hl, t1, t2, t3⟩⟩
    · obtain ⟨ts, lb, P3, e3, q3, t1, t2, t3⟩ := w_law_terms (G := G) (fs := fs) (m := mL) (by have := hf.len; omega) (by decide) h3 q2 h1 (k := k)
      have e3' : evF G pT (k + 8) i_law_terms [.ref 0, .tup (fs.map Fact.d), .int (many : Nat), .str ⟨#[108]⟩] [P2] = _ := e3
      exact ⟨⟨fs, ts⟩, lb, P3, by simp -implicitDefEqProofs [e2, hz, e3']; rfl, q3, ⟨hf, hl, t1, t2, t3⟩⟩
  by_cases hl : fs0 = []
  · subst hl
    obtain ⟨d, P2, e2, q2, d0, d1⟩ := w_draw (G := G) q1 (m := 5) (by omega) (by omega) (k := k + 6)
    obtain ⟨c, lb, P', e, q⟩ := tail [⟨⟨#[97, 97]⟩, -1, 1 + d, []⟩] P2 none q2 ⟨rfl, by simp; omega, fun f hf => by
      rw [List.mem_singleton.mp hf]
      exact ⟨by simp, by simp; omega, by simp; omega, by simp; omega⟩⟩ (by simp)
    refine ⟨c, lb, P', ?_, q⟩
    rw [← e]
    unfold c_law_some_code
    have s1 : cm G (evF G pT (k + 8)) (.asg (.nm 3) (.call i_law_facts false (.cons (.v 0) (.cons (.v 1) .nil)))) ⟨[some (.ref 0, false), some (.int (n : Nat), false), some (.int (many : Nat), false), none], [P]⟩ = some (.nx ⟨[some (.ref 0, false), some (.int (n : Nat), false), some (.int (many : Nat), false), some (.tup [], false)], [P1]⟩) := by
      simp -implicitDefEqProofs [e1]
    rw [seq_nx s1]
    have s2 : cm G (evF G pT (k + 8)) (.ite (.cmp .eq (.b1 .len (.v 3)) (.cint 0)) (.seq (.asg (.nm 3) (.tup (.cons (.tup (.cons (.cstr ⟨#[97, 97]⟩) (.cons (.neg (.cint 1)) (.cons (.bin .add (.cint 1) (.call i_law_draw false (.cons (.v 0) (.cons (.cint 5) .nil)))) (.cons (.tup .nil) .nil))))) .nil)))
    .skip) .skip) ⟨[some (.ref 0, false), some (.int (n : Nat), false), some (.int (many : Nat), false), some (.tup [], false)], [P1]⟩ = some (.nx ⟨[some (.ref 0, false), some (.int (n : Nat), false), some (.int (many : Nat), false), some (.tup ([(⟨⟨#[97, 97]⟩, -1, 1 + d, []⟩ : Fact)].map Fact.d), false)], [P2]⟩) := by
      simp -implicitDefEqProofs [e2, Fact.d]
    rw [seq_nx s2]
  · have l0 : 1 ≤ fs0.length := List.length_pos_iff.mpr hl
    obtain ⟨c, lb, P', e, q⟩ := tail fs0 P1 none q1 f0 l0
    refine ⟨c, lb, P', ?_, q⟩
    rw [← e]
    unfold c_law_some_code
    have s1 : cm G (evF G pT (k + 8)) (.asg (.nm 3) (.call i_law_facts false (.cons (.v 0) (.cons (.v 1) .nil)))) ⟨[some (.ref 0, false), some (.int (n : Nat), false), some (.int (many : Nat), false), none], [P]⟩ = some (.nx ⟨[some (.ref 0, false), some (.int (n : Nat), false), some (.int (many : Nat), false), some (.tup (fs0.map Fact.d), false)], [P1]⟩) := by
      simp -implicitDefEqProofs [e1]
    rw [seq_nx s1]
    have lz : ¬ (fs0.length : Int) = 0 := by omega
    have s2 : cm G (evF G pT (k + 8)) (.ite (.cmp .eq (.b1 .len (.v 3)) (.cint 0)) (.seq (.asg (.nm 3) (.tup (.cons (.tup (.cons (.cstr ⟨#[97, 97]⟩) (.cons (.neg (.cint 1)) (.cons (.bin .add (.cint 1) (.call i_law_draw false (.cons (.v 0) (.cons (.cint 5) .nil)))) (.cons (.tup .nil) .nil))))) .nil)))
    .skip) .skip) ⟨[some (.ref 0, false), some (.int (n : Nat), false), some (.int (many : Nat), false), some (.tup (fs0.map Fact.d), false)], [P1]⟩ = some (.nx ⟨[some (.ref 0, false), some (.int (n : Nat), false), some (.int (many : Nat), false), some (.tup (fs0.map Fact.d), false)], [P1]⟩) := by
      simp -implicitDefEqProofs [hl, lz]
    rw [seq_nx s2]
/-! ### drawn codes are well made -/
theorem trOk_of {t : Tr} (h : t.depth ≤ 4) : TrOk t := by
  have h1 := t.size_depth
  have h2 : 2 ^ (t.depth + 1) ≤ 2 ^ 5 := Nat.pow_le_pow_right (by omega) (by omega)
  exact ⟨fun w => by have := t.nms_len w; omega, by omega⟩
theorem GenOk.ok {m : Str} {n many : Nat} {c : Cd} {lb : Nat} (hn : n ≤ 4) (hm : PyData.strOk m = true) (g : GenOk m n many c lb) : CdOk c where
  fn := by
    rw [g.f.nm]
    exact (show fnm.Nodup by decide).sublist (List.take_sublist _ _)
  fl := by have := g.f.len; omega
  tn := by
    unfold Cd.nms
    rw [g.t.nm]
    exact (show tnm.Nodup by decide).sublist (List.take_sublist _ _)
  tl := by have := g.t.len; omega
  cl := fun t ht => by have := (g.t.cl t ht).2; omega
  ok := fun t ht => by
    obtain ⟨i, hi⟩ := List.mem_iff_getElem?.mp ht
    obtain ⟨l, h, _⟩ := g.t.cs i t hi
    exact ⟨h.nd, h.ov⟩
  cs := fun i t hi a ha => by
    obtain ⟨l, h, hl⟩ := g.t.cs i t hi
    obtain ⟨h1, h2⟩ := h.cs a ha
    refine ⟨h1.a, h2.a, trOk_of h1.d, trOk_of (by have := h2.d; omega), by have := h1.d; omega, by have := h2.d; omega, h1.f, h2.f, h1.tt, h2.tt, ?_⟩
    have hl2 : a.lab ∈ t.cls.map (·.lab) := List.mem_map.mpr ⟨a, ha, rfl⟩
    rw [h.lab] at hl2
    obtain ⟨j, hj, e⟩ := List.mem_map.mp hl2
    rw [← e]
    have := List.mem_range'_1.mp hj
    exact labOf_ok hm (by omega)
theorem mL_ok : PyData.strOk mL = true := by simp [PyData.strOk, mL]
def wZz : Str := ⟨#[122, 122]⟩
def wZza : Str := ⟨#[122, 122, 97]⟩
/-- the term on top -/
def topT (a b : Str) : Tm := ⟨wZz, [⟨wZza, .tru, .bin .plus (.term a) (.term b), none⟩]⟩
theorem top_ok {n many : Nat} {c : Cd} {lb : Nat} (hn : n ≤ 4) (g : GenOk mL n many c lb) {a b : Str} (ha : a ∈ c.nms) (hb : b ∈ c.nms) : CdOk ⟨c.fs, c.ts ++ [topT a b]⟩ := by
  have K := g.ok hn mL_ok
  have zt : wZz ∉ tnm := by decide
  refine ⟨K.fn, K.fl, ?_, ?_, fun t ht => ?_, fun t ht => ?_, fun i t hi x hx => ?_⟩
  · show ((c.ts ++ [topT a b]).map (·.nm)).Nodup
    rw [List.map_append, List.nodup_append]
    refine ⟨K.tn, by simp, fun x hx y hy e => ?_⟩
    have : y = wZz := by simpa [topT] using hy
    subst this
    subst e
    rw [g.t.nm] at hx
    exact zt (List.mem_of_mem_take hx)
  · have := g.t.len; simp; omega
  · rcases List.mem_append.mp ht with q | q
    · exact K.cl t q
    · rw [List.mem_singleton.mp q]; simp [topT]
  · rcases List.mem_append.mp ht with q | q
    · exact K.ok t q
    · rw [List.mem_singleton.mp q]
      refine ⟨by simp [topT], fun i d hi p hp => ?_⟩
      cases i with
      | zero =>
        have e : (⟨wZza, .tru, .bin .plus (.term a) (.term b), none⟩ : Cl) = d := by simpa [topT] using hi
        subst e
        cases hp
      | succ i => simp [topT] at hi
  · have hi' : (c.ts ++ [topT a b])[i]? = some t := hi
    by_cases q : i < c.ts.length
    · rw [List.getElem?_append_left q] at hi'
      have := K.cs i t hi' x hx
      show ClOk c.fs (((c.ts ++ [topT a b]).take i).map (·.nm)) x
      rw [List.take_append_of_le_length (by omega)]
      exact this
    · have hl := (List.getElem?_eq_some_iff.mp hi').1
      have e : i = c.ts.length := by simp at hl; omega
      subst e
      have e2 : topT a b = t := by simpa using hi'
      subst e2
      have e3 : x = ⟨wZza, .tru, .bin .plus (.term a) (.term b), none⟩ := by simpa [topT] using hx
      subst e3
      show ClOk c.fs (((c.ts ++ [topT a b]).take c.ts.length).map (·.nm)) _
      rw [List.take_left]
      refine ⟨trivial, ⟨rfl, trivial, trivial⟩, trOk_of (by simp [Tr.depth]), trOk_of (by simp [Tr.depth]), by simp [Tr.depth], by simp [Tr.depth], fun x h => (by cases h), fun x h => (by simp [Tr.facts] at h), fun x h => (by cases h), fun x h => ?_, (show PyData.strOk wZza = true by simp [PyData.strOk, wZza])⟩
      have : x = a ∨ x = b := by simpa [Tr.terms] using h
      rcases this with rfl | rfl
      · exact ha
      · exact hb
end E3
set_option linter.all false
set_option maxRecDepth 100000
set_option maxHeartbeats 8000000
namespace E3
open PySem L2
variable {G : Nat → Option D}
/-! ### rows of readings -/
theorem usd_sub {c : Cd} (K : CdOk c) {x y : Str} (hx : x ∈ c.nms) (r : Rch (us c) x y) : (usd c x).filter (fun z => decide (z ∈ usd c y)) = usd c y := by
  classical
  have hy := K.rch hx r
  unfold usd
  rw [List.filter_filter]
  refine List.filter_congr fun z hz => ?_
  rw [Bool.eq_iff_iff]
  simp only [Bool.and_eq_true, decide_eq_true_eq, List.mem_filter]
  constructor
  · rintro ⟨⟨_, h⟩, _⟩; exact h
  · intro h; exact ⟨⟨hz, h⟩, r.trans h⟩
theorem rdg_part {c : Cd} (K : CdOk c) {cs : List Int} {x y : Str} (hx : x ∈ c.nms) (r : Rch (us c) x y) : (rdg c cs x).filter (fun w => decide (w.nm ∈ usd c y)) = rdg c cs y := by
  unfold rdg
  rw [List.filter_map]
  have : (fun w : Row => decide (w.nm ∈ usd c y)) ∘ rowAt c cs = fun z => decide (z ∈ usd c y) := by
    funext z
    show decide ((rowAt c cs z).nm ∈ usd c y) = _
    rw [rowAt_nm]
  rw [this, usd_sub K hx r]
/-- a row of a reading, as any of the terms sees it -/
structure RdRow (c : Cd) (r : Row) : Prop where
  cand : ∀ t ∈ c.ts, Cand t r
  sz : RowSz r
theorem rdRow_at {c : Cd} (K : CdOk c) {cs : List Int} {z : Str} (hz : z ∈ c.nms) (h : ∃ v l, Told c cs z v l) : RdRow c (rowAt c cs z) := by
  obtain ⟨v, l, h⟩ := h
  obtain ⟨u, hu⟩ := Cd.tm_mem hz
  obtain ⟨h1, h2⟩ := Cd.tm_some hu
  subst h2
  obtain ⟨_, ⟨⟨d, hd, e⟩, _⟩, _⟩ := told_of (K.ok u h1) (h.get K h1)
  subst e
  have hl := K.cl u h1
  rw [rowAt_told K h1 h]
  refine ⟨fun t ht => ?_, ?_, ?_⟩
  · by_cases q : u.nm = t.nm
    · have : u = t := by
        have e1 := K.tm h1
        rw [q, K.tm ht] at e1
        exact (Option.some.inj e1).symm
      subst this
      exact .inr ⟨d, hd, rfl, rfl⟩
    · exact .inl q
  · have := way_len (cls := u.cls) (l := d.lab)
    show (way u.cls d.lab).length ≤ _
    omega
  · show (silL u.cls d.lab).length ≤ _
    have : (silL u.cls d.lab).length ≤ u.cls.length := by unfold silL; refine Nat.le_trans (List.length_filter_le _ _) ?_; simp
    omega
theorem rdRow {c : Cd} (K : CdOk c) {cs : List Int} {x : Str} (hx : x ∈ c.nms) (h : ∃ v l, Told c cs x v l) {r : Row} (hr : r ∈ rdg c cs x) : RdRow c r := by
  obtain ⟨z, hz, e⟩ := List.mem_map.mp hr
  subst e
  have hz' := (mem_usd K hx).mp hz
  exact rdRow_at K (K.rch hx hz') (told_rch K hx hz' h)
theorem rdg_len {c : Cd} {cs : List Int} {x : Str} : (rdg c cs x).length = (usd c x).length := by unfold rdg; simp
theorem rdg_nms {c : Cd} {cs : List Int} {x : Str} : (rdg c cs x).map (·.nm) = usd c x := by
  unfold rdg
  rw [List.map_map]
  have : (fun r : Row => r.nm) ∘ rowAt c cs = id := by funext z; exact rowAt_nm
  rw [this, List.map_id]
theorem cand_zip {c : Cd} {rs : List Row} (h : ∀ r ∈ rs, RdRow c r) (ns : List Str) : ∀ p ∈ ns.zip rs, ∀ t ∈ c.ts, t.nm = p.1 → Cand t p.2 := fun p hp t ht _ => (h p.2 (List.of_mem_zip hp).2).cand t ht
theorem rev_ne {c : Cd} (K : CdOk c) {cs : List Int} {x : Str} (h : 1 < (rdg c cs x).length) : (rdg c cs x).reverse ≠ rdg c cs x := by
  intro e
  have e1 := congrArg (List.map (·.nm)) e
  rw [List.map_reverse, rdg_nms] at e1
  have nd := usd_nd K (x := x)
  rw [rdg_len] at h
  generalize usd c x = l at e1 nd h
  match l, e1, nd, h with
  | a :: b :: r, e1, nd, _ =>
    have h1 : (a :: b :: r).getLast? = some a := by
      rw [← List.head?_reverse, e1]
      rfl
    have h2 : a ∈ b :: r := by
      have : (a :: b :: r).getLast? = (b :: r).getLast? := by simp [List.getLast?_cons_cons]
      rw [this] at h1
      exact List.mem_of_getLast? h1
    exact (List.nodup_cons.mp nd).1 h2
/-! ### the law's two loops -/
section
variable {C : Cd} (K : CdOk C) {cs1 cs2 : List Int} (c1 : cs1.length = C.fs.length) {x : Str} (hx : x ∈ C.nms) (t1 : ∃ v l, Told C cs1 x v l) (t2 : ∃ v l, Told C cs2 x v l)
noncomputable abbrev lws (C : Cd) (cs1 cs2 : List Int) (x : Str) (o0 o3 o4 o5 o7 o8 o9 o14 o15 o16 o18 o19 o20 : Option (D × Bool)) (P : List D) : S := ⟨[o0, some (.ref 0, false), some (C.d, false), o3, o4, o5, none, o7, o8, o9, some (.tup (cs1.map .int), false), some (.tup (cs2.map .int), false), some (.tup ((rdg C cs1 x).map Row.d), false), some (.tup ((rdg C cs2 x).map Row.d), false), o14, o15, o16, none, o18, o19, o20], [P]⟩
include K c1 hx t1
theorem w_law_1 {k : Nat} {o0 o3 o4 o5 o7 o8 o9 o15 o16 o18 o19 o20 : Option (D × Bool)} {P : List D} {y : Str} (hy : y ∈ usd C x) : ∃ p15 p16 p18 : Option (D × Bool), cm G (evF G pT (k + 62)) c_law_1 (lws C cs1 cs2 x o0 o3 o4 o5 o7 o8 o9 (some ((rowAt C cs1 y).d, false)) o15 o16 o18 o19 o20 P) = some (.nx (lws C cs1 cs2 x o0 o3 o4 o5 o7 o8 o9 (some ((rowAt C cs1 y).d, false)) p15 p16 p18 o19 o20 P)) := by
  have hr := (mem_usd K hx).mp hy
  have hyc := K.rch hx hr
  obtain ⟨v, l, hv⟩ := told_rch K (cs := cs1) hx hr t1
  obtain ⟨t, htm⟩ := Cd.tm_mem hyc
  obtain ⟨ht, he⟩ := Cd.tm_some htm
  subst he
  have ra := rowAt_told K ht hv
  have rn : (rowAt C cs1 t.nm).nm = t.nm := rowAt_nm
  have rv : (rowAt C cs1 t.nm).v = v := by rw [ra]; rfl
  obtain ⟨_, ⟨⟨d, hd, el⟩, _⟩, _⟩ := told_of (K.ok t ht) (hv.get K ht)
  have rw_ : (rowAt C cs1 t.nm).way = anc t.cls d ++ [l] := by
    rw [ra]
    show way t.cls l = _
    rw [← el, way_eq (K.ok t ht) hd]
  have i0 : itemD (rowAt C cs1 t.nm).d (.int 0) = some (.str t.nm) := by rw [Row.d0, rn]
  have i1 : itemD (rowAt C cs1 t.nm).d (.int 1) = some (.int v) := by rw [Row.d1, rv]
  have i2 : itemD (rowAt C cs1 t.nm).d (.int 2) = some (.tup ((anc t.cls d ++ [l]).map .str)) := by rw [Row.d2, rw_]
  have il : atI ((anc t.cls d).map D.str ++ [D.str l]) ((anc t.cls d).length : Int) = some (.str l) := by
    have q : ((anc t.cls d).map D.str ++ [D.str l])[(anc t.cls d).length]? = some (D.str l) := by simp
    exact at_nat q
  have e1 := w_used_by (G := G) (mh := [P]) K hyc (k + 60)
  have tl := K.tl
  have ul := usd_len (c := C) (x := x)
  have ul' := usd_len (c := C) (x := t.nm)
  have e4 : (sm G (evF G pT (k + 62)) e_law_4).v (lws C cs1 cs2 x o0 o3 o4 o5 o7 o8 o9 (some ((rowAt C cs1 t.nm).d, false)) (some (.lst ((usd C t.nm).map .str), false)) o16 o18 o19 o20 P) = some (.lst ((rdg C cs1 t.nm).map Row.d), .fr, lws C cs1 cs2 x o0 o3 o4 o5 o7 o8 o9 (some ((rowAt C cs1 t.nm).d, false)) (some (.lst ((usd C t.nm).map .str), false)) o16 o18 o19 o20 P) := by
    rw [e_law_4, y_lc]
    have := lcF_gen (own := [17]) (tg := .nm 17) (e := Row.d) (ds := rdg C cs1 x) (it := (sm G (evF G pT (k + 62)) (.v 12)).i) (cd := (sm G (evF G pT (k + 62)) (.cmp .inn (.ix (.v 17) (.cint 0)) (.v 15))).c) (el := (sm G (evF G pT (k + 62)) (.v 17)).v) (s0 := lws C cs1 cs2 x o0 o3 o4 o5 o7 o8 o9 (some ((rowAt C cs1 t.nm).d, false)) (some (.lst ((usd C t.nm).map .str), false)) o16 o18 o19 o20 P) (lws C cs1 cs2 x o0 o3 o4 o5 o7 o8 o9 (some ((rowAt C cs1 t.nm).d, false)) (some (.lst ((usd C t.nm).map .str), false)) o16 o18 o19 o20 P) (fun r => ⟨[o0, some (.ref 0, false), some (C.d, false), o3, o4, o5, none, o7, o8, o9, some (.tup (cs1.map .int), false), some (.tup (cs2.map .int), false), some (.tup ((rdg C cs1 x).map Row.d), false), some (.tup ((rdg C cs2 x).map Row.d), false), some ((rowAt C cs1 t.nm).d, false), some (.lst ((usd C t.nm).map .str), false), o16, some (r.d, false), o18, o19, o20], [P]⟩) (fun r => decide (r.nm ∈ usd C t.nm)) Row.d (by simp) (fun _ _ => rfl) (fun _ _ => rfl) (fun _ _ => by simp) (fun _ _ _ => by simp) (by rw [rdg_len]; omega)
    rw [rdg_part K hx hr] at this
    exact this
  have e5 := w_reading (G := G) (mh := [P]) K c1 hyc ⟨v, l, hv⟩ (k := k)
  have rl : (rdg C cs1 t.nm).length ≤ 8 := by rw [rdg_len]; omega
  have rr := fun r (hr : r ∈ rdg C cs1 t.nm) => rdRow K hyc ⟨v, l, hv⟩ hr
  have e6 := w_same_rows (G := G) (mh := [P]) (xs := rdg C cs1 t.nm) (ys := rdg C cs1 t.nm) (by omega) (by omega) (fun r h => (rr r h).sz) (fun r h => (rr r h).sz) (k := k + 58)
  have e7 := w_is_reading (G := G) (mh := [P]) K c1 hyc ⟨v, l, hv⟩ rdg_len (cand_zip rr _) (k := k + 37)
  have e8 := w_law_in (G := G) (mh := [P]) K c1 (show kn (outs C cs1) t.nm = some (.told v l) from hv) (k := k)
  have e9 := w_is_reading (G := G) (mh := [P]) (rs := (rdg C cs1 t.nm).reverse) K c1 hyc ⟨v, l, hv⟩ (by rw [List.length_reverse, rdg_len]) (cand_zip (fun r h => rr r (List.mem_reverse.mp h)) _) (k := k + 37)
  have hrev := rev_ne K (cs := cs1) (x := t.nm)
  have hlen := fun (rs : List Row) (h : rs.length ≠ (usd C t.nm).length) => w_is_reading_len (G := G) (mh := [P]) K (cs := cs1) hyc h (k := k + 37)
  rw [← rdg_len (cs := cs1)] at hlen
  rw [decide_eq_true rfl] at e6 e7
  have o0' : itemD (Oc.told v l).d (.int 0) = some (.str wTold) := by simp [Oc.d]
  have o1' : itemD (Oc.told v l).d (.int 1) = some (.int v) := by simp [Oc.d]
  have o2' : itemD (Oc.told v l).d (.int 2) = some (.str l) := by simp [Oc.d]
  simp only [wTold] at o0'
  generalize hp : rdg C cs1 t.nm = part at e4 e5 e6 e7 e9 hrev hlen rl
  refine ⟨some (.lst ((usd C t.nm).map .str), false), some (.tup (part.map Row.d), false), some ((Oc.told v l).d, false), ?_⟩
  rcases part with _ | ⟨p, _ | ⟨q, r⟩⟩
  · simp -implicitDefEqProofs at e4 e5 e6 e7
    simp -implicitDefEqProofs [c_law_1, i0, i1, i2, il, e1, e4, e5, e6, e7, e8, o0', o1', o2']
  · simp -implicitDefEqProofs at e4 e5 e6 e7
    simp -implicitDefEqProofs [c_law_1, i0, i1, i2, il, e1, e4, e5, e6, e7, e8, o0', o1', o2']
  · rw [decide_eq_false (hrev (by simp))] at e9
    have e10 := hlen (q :: r) (by simp)
    rw [List.map_reverse] at e9
    have ig : (1 : Int) < (r.length : Int) + 1 + 1 := by omega
    simp -implicitDefEqProofs at e4 e5 e6 e7 e9 e10
    simp -implicitDefEqProofs [c_law_1, i0, i1, i2, il, e1, e4, e5, e6, e7, e8, o0', o1', o2', ig, e9, e10]
theorem w_law_2 (hxz : x = ⟨#[122, 122]⟩) (t2 : ∃ v l, Told C cs2 x v l) {k : Nat} {o0 o3 o4 o5 o7 o8 o9 o14 o15 o16 o18 o20 : Option (D × Bool)} {P : List D} {j : Nat} (hj : j < (rdg C cs1 x).length) : ∃ p20 : Option (D × Bool), cm G (evF G pT (k + 62)) c_law_2 (lws C cs1 cs2 x o0 o3 o4 o5 o7 o8 o9 o14 o15 o16 o18 (some (.int (j : Nat), false)) o20 P) = some (.nx (lws C cs1 cs2 x o0 o3 o4 o5 o7 o8 o9 o14 o15 o16 o18 (some (.int (j : Nat), false)) p20 P)) := by
  subst hxz
  generalize hx0 : (⟨#[122, 122]⟩ : Str) = x at *
  have l1 : (rdg C cs1 x).length = (usd C x).length := rdg_len
  have l2 : (rdg C cs2 x).length = (usd C x).length := rdg_len
  have ul := usd_len (c := C) (x := x)
  have tl := K.tl
  have hj2 : j < (rdg C cs2 x).length := by omega
  have r1 := fun r (hr : r ∈ rdg C cs1 x) => rdRow K hx t1 hr
  have r2 := fun r (hr : r ∈ rdg C cs2 x) => rdRow K hx t2 hr
  have a2 : atI ((rdg C cs2 x).map Row.d) (j : Nat) = some ((rdg C cs2 x)[j]).d := by
    rw [at_map, at_nat (List.getElem?_eq_getElem hj2)]; rfl
  have sa : sliceD (.tup ((rdg C cs1 x).map Row.d)) none (some (j : Nat)) = some (.tup (((rdg C cs1 x).take j).map Row.d), .st) := by
    show some (D.tup (cutD _ none (some (j : Int))), Tg.st) = _
    rw [cut_to, List.map_take]
  have sb : sliceD (.tup ((rdg C cs1 x).map Row.d)) (some ((j : Nat) + 1)) none = some (.tup (((rdg C cs1 x).drop (j + 1)).map Row.d), .st) := by
    show some (D.tup (cutD _ (some ((j + 1 : Nat) : Int)) none), Tg.st) = _
    rw [cut_from (by rw [List.length_map]; omega), List.map_drop]
  let mixed := (rdg C cs1 x).take j ++ (rdg C cs2 x)[j] :: (rdg C cs1 x).drop (j + 1)
  have ml : mixed.length = (usd C x).length := by
    show ((rdg C cs1 x).take j ++ (rdg C cs2 x)[j] :: (rdg C cs1 x).drop (j + 1)).length = _
    rw [List.length_append, List.length_cons, List.length_take, List.length_drop]
    omega
  have mr : ∀ r ∈ mixed, RdRow C r := fun r hr => by
    rcases List.mem_append.mp hr with q | q
    · exact r1 r (List.mem_of_mem_take q)
    · rcases List.mem_cons.mp q with q | q
      · rw [q]; exact r2 _ (List.getElem_mem hj2)
      · exact r1 r (List.mem_of_mem_drop q)
  have e1 := w_is_reading (G := G) (mh := [P]) K c1 hx t1 ml (cand_zip mr _) (k := k + 37)
  have e2 := w_same_rows (G := G) (mh := [P]) (xs := mixed) (ys := rdg C cs1 x) (by omega) (by omega) (fun r h => (mr r h).sz) (fun r h => (r1 r h).sz) (k := k + 58)
  have hm : mixed.map Row.d = ((rdg C cs1 x).take j).map Row.d ++ ((rdg C cs2 x)[j]).d :: ((rdg C cs1 x).drop (j + 1)).map Row.d := by
    show ((rdg C cs1 x).take j ++ (rdg C cs2 x)[j] :: (rdg C cs1 x).drop (j + 1)).map Row.d = _
    rw [List.map_append, List.map_cons]
  rw [hm] at e1 e2
  have m1 : rmE (((rdg C cs1 x).take j).length + 1) = some () := rmE_of (by rw [List.length_take]; omega)
  have m2 : rmE (((rdg C cs1 x).take j).length + 1 + ((rdg C cs1 x).drop (j + 1)).length) = some () := rmE_of (by rw [List.length_take, List.length_drop]; omega)
  generalize decide (mixed = rdg C cs1 x) = bb at e1 e2
  generalize ht : ((rdg C cs1 x).take j) = tk at sa e1 e2 m1 m2
  generalize hd : ((rdg C cs1 x).drop (j + 1)) = dr at sb e1 e2 m2
  refine ⟨some (.tup (tk.map Row.d ++ ((rdg C cs2 x)[j]).d :: dr.map Row.d), false), ?_⟩
  subst hx0
  cases bb <;> simp -implicitDefEqProofs [c_law_2, sa, a2, m1, sb, m2, e1, e2]
end
end E3
set_option linter.all false
set_option maxRecDepth 100000
set_option maxHeartbeats 8000000
namespace E3
open PySem L2
variable {G : Nat → Option D}
theorem seq_step {F : Fn} {a b : C} {s s1 : S} {Q : Option (D × List (List D)) → Prop} (h : cm G F a s = some (.nx s1)) (g : Q (outR (cm G F b s1))) : Q (outR (cm G F (.seq a b) s)) := by rw [seq_nx h]; exact g
theorem casesF_cnt : ∀ (fs : List Fact) (found : List (List Int)), (∀ f ∈ fs, FcOk f) → (fs.foldl (fun found f => found.flatMap fun row => (rgZ f).map fun x => row ++ [x]) found).length ≤ found.length * 16 ^ fs.length
  | [], found, _ => by simp
  | f :: fs, found, h => by
    have ih := casesF_cnt fs (found.flatMap fun row => (rgZ f).map fun x => row ++ [x]) fun g hg => h g (List.mem_cons_of_mem _ hg)
    have rz := rgZ_len (h f List.mem_cons_self)
    have fl : (found.flatMap fun row => (rgZ f).map fun x => row ++ [x]).length ≤ found.length * 16 := by
      clear ih
      induction found with
      | nil => simp
      | cons a dn ih => simp only [List.flatMap_cons, List.length_append, List.length_map, List.length_cons]; omega
    refine Nat.le_trans ih (Nat.le_trans (Nat.mul_le_mul_right _ fl) ?_)
    rw [List.length_cons, Nat.pow_succ, Nat.mul_assoc, Nat.mul_comm 16]
    exact Nat.le_refl _
theorem kn_zz {C : Cd} {cs : List Int} (hz : wZz ∈ C.nms) : ∃ o, kn (outs C cs) wZz = some o := kn_isSome (by rw [outs_keys]; exact hz)
theorem told_zz {C : Cd} {cs : List Int} (h : isTold (outs C cs) wZz = true) : ∃ v l, Told C cs wZz v l := by
  unfold isTold at h
  unfold Told
  cases e : kn (outs C cs) wZz with
  | none => rw [e] at h; cases h
  | some o =>
    rw [e] at h
    cases o with
    | told v l => exact ⟨v, l, rfl⟩
    | _ => cases h
/-- what the law says, once its code and its cases are there -/
theorem law_end {C : Cd} (K : CdOk C) (hz : wZz ∈ C.nms) {css : List (List Int)} (h0 : css ≠ []) (hl : css.length ≤ 1000000) (hc : ∀ cs ∈ css, cs.length = C.fs.length) {o0 o3 o4 o5 o7 : Option (D × Bool)} {P : List D} (hP : PoolOk P) : ∃ mh, outR (cm G (evF G pT 99) (.seq (.asg (.nm 9) e_law_2)
    (.seq (.ite (.cmp .eq (.b1 .len (.v 9)) (.cint 0)) (.seq (.ret (.nt (.call i_is_reading false (.cons (.v 2) (.cons (.cstr ⟨#[122, 122]⟩) (.cons (.ix (.v 8) (.cint 0)) (.cons (.tup .nil) .nil)))))))
    .skip) .skip)
    (.seq (.par 10 11 (.call i_law_pick false (.cons (.v 1) (.cons (.v 9) .nil))) (.call i_law_pick false (.cons (.v 1) (.cons (.v 9) .nil))))
    (.seq (.par 12 13 (.call i_reading false (.cons (.v 2) (.cons (.cstr ⟨#[122, 122]⟩) (.cons (.v 10) .nil)))) (.call i_reading false (.cons (.v 2) (.cons (.cstr ⟨#[122, 122]⟩) (.cons (.v 11) .nil)))))
    (.seq (.ite (.or (.nt (.call i_law_same false (.cons e_law_3 (.cons (.call i_used_by false (.cons (.v 2) (.cons (.cstr ⟨#[122, 122]⟩) .nil))) .nil)))) (.one (.nt (.call i_is_reading false (.cons (.v 2) (.cons (.cstr ⟨#[122, 122]⟩) (.cons (.v 10) (.cons (.v 12) .nil)))))))) (.seq (.ret (.cbl false))
    .skip) .skip)
    (.seq (.forr (.nm 14) (.v 12) c_law_1)
    (.seq (.forr (.nm 19) (.rg1 (.b1 .len (.v 12))) c_law_2)
    (.seq (.ret (.cmp .eq (.call i_is_reading false (.cons (.v 2) (.cons (.cstr ⟨#[122, 122]⟩) (.cons (.v 10) (.cons (.v 13) .nil))))) (.call i_law_same false (.cons (.v 13) (.cons (.v 12) .nil)))))
    .skip)))))))) ⟨[o0, some (.ref 0, false), some (C.d, false), o3, o4, o5, none, o7, some (.lst (css.map csD), false), none, none, none, none, none, none, none, none, none, none, none, none], [P]⟩) = some (.bl true, mh) := by
  have e2 : (sm G (evF G pT 99) e_law_2).v ⟨[o0, some (.ref 0, false), some (C.d, false), o3, o4, o5, none, o7, some (.lst (css.map csD), false), none, none, none, none, none, none, none, none, none, none, none, none], [P]⟩ = some (.lst ((css.filter fun cs => isTold (outs C cs) wZz).map csD), .fr, ⟨[o0, some (.ref 0, false), some (C.d, false), o3, o4, o5, none, o7, some (.lst (css.map csD), false), none, none, none, none, none, none, none, none, none, none, none, none], [P]⟩) := by
    rw [e_law_2, y_lc]
    refine lcF_gen (own := [10]) (tg := .nm 10) (e := csD) (ds := css) ⟨[o0, some (.ref 0, false), some (C.d, false), o3, o4, o5, none, o7, some (.lst (css.map csD), false), none, none, none, none, none, none, none, none, none, none, none, none], [P]⟩ (fun cs => ⟨[o0, some (.ref 0, false), some (C.d, false), o3, o4, o5, none, o7, some (.lst (css.map csD), false), none, some (csD cs, false), none, none, none, none, none, none, none, none, none, none], [P]⟩) (fun cs => isTold (outs C cs) wZz) csD (by simp) (fun _ _ => rfl) (fun _ _ => rfl) (fun cs hcs => ?_) (fun _ _ _ => by simp) (by omega)
    obtain ⟨o, ho⟩ := kn_zz (cs := cs) hz
    have e3 : evF G pT 99 i_law_in [C.d, .str ⟨#[122, 122]⟩, csD cs] [P] = some (o.d, [P]) := w_law_in (G := G) (mh := [P]) K (hc cs hcs) ho (k := 37)
    have it : isTold (outs C cs) wZz = o.isT := by unfold isTold; rw [ho]
    have ew : (o.w == (⟨#[116, 111, 108, 100]⟩ : Str)) = o.isT := Oc.wT
    simp -implicitDefEqProofs [e3, it, ew]
  have hzu : wZz ∈ usd C wZz := (mem_usd K hz).mpr .rfl
  have ul := usd_len (c := C) (x := wZz)
  have tl := K.tl
  generalize hT : (css.filter fun cs => isTold (outs C cs) wZz) = tc at e2
  have htc : ∀ cs ∈ tc, cs.length = C.fs.length ∧ ∃ v l, Told C cs wZz v l := fun cs h => by
    rw [← hT] at h
    obtain ⟨h1, h2⟩ := List.mem_filter.mp h
    exact ⟨hc cs h1, told_zz h2⟩
  have tcl : tc.length ≤ 1000000 := by rw [← hT]; exact Nat.le_trans (List.length_filter_le _ _) hl
  by_cases ht : tc = []
  · subst ht
    obtain ⟨cs0, r, rfl⟩ : ∃ a r, css = a :: r := by
      cases css with
      | nil => exact absurd rfl h0
      | cons a r => exact ⟨a, r, rfl⟩
    have e3 := w_is_reading_len (G := G) (mh := [P]) K (cs := cs0) (rs := []) hz (fun e => by
      have : usd C wZz = [] := List.length_eq_zero_iff.mp e.symm
      rw [this] at hzu
      cases hzu) (k := 74)
    have e3' : evF G pT 99 i_is_reading [C.d, .str ⟨#[122, 122]⟩, csD cs0, .tup []] [P] = some (.bl false, [P]) := e3
    refine ⟨[P], ?_⟩
    simp -implicitDefEqProofs at e2
    simp -implicitDefEqProofs [e2, e3']
  · have hn : tc.map csD ≠ [] := by simpa using ht
    have hm : (tc.map csD).length ≤ 1000000 := by simpa using tcl
    obtain ⟨x1, P1, n1, p1, q1⟩ := w_law_pick (G := G) hP hn hm (k := 96)
    obtain ⟨cs1, m1, rfl⟩ := List.mem_map.mp n1
    obtain ⟨x2, P2, n2, p2, q2⟩ := w_law_pick (G := G) q1 hn hm (k := 96)
    obtain ⟨cs2, m2, rfl⟩ := List.mem_map.mp n2
    obtain ⟨c1, t1⟩ := htc cs1 m1
    obtain ⟨c2, t2⟩ := htc cs2 m2
    have tz : ¬ (tc.length : Int) = 0 := by have := List.length_pos_iff.mpr ht; omega
    have r1 : evF G pT 99 i_reading [C.d, .str ⟨#[122, 122]⟩, csD cs1] [P2] = some (.tup ((rdg C cs1 wZz).map Row.d), [P2]) := w_reading (G := G) (mh := [P2]) K c1 hz t1 (k := 37)
    have r2 : evF G pT 99 i_reading [C.d, .str ⟨#[122, 122]⟩, csD cs2] [P2] = some (.tup ((rdg C cs2 wZz).map Row.d), [P2]) := w_reading (G := G) (mh := [P2]) K c2 hz t2 (k := 37)
    have l1 : (rdg C cs1 wZz).length = (usd C wZz).length := rdg_len
    have l2 : (rdg C cs2 wZz).length = (usd C wZz).length := rdg_len
    have g1 := fun r (hr : r ∈ rdg C cs1 wZz) => rdRow K hz t1 hr
    have g2 := fun r (hr : r ∈ rdg C cs2 wZz) => rdRow K hz t2 hr
    have e4 : (sm G (evF G pT 99) e_law_3).v (lws C cs1 cs2 wZz o0 o3 o4 o5 o7 (some (.lst (css.map csD), false)) (some (.lst (tc.map csD), false)) none none none none none none P2) = some (.lst ((usd C wZz).map .str), .fr, lws C cs1 cs2 wZz o0 o3 o4 o5 o7 (some (.lst (css.map csD), false)) (some (.lst (tc.map csD), false)) none none none none none none P2) := by
      rw [e_law_3, y_lc]
      have := lcF_gen (own := [14]) (tg := .nm 14) (e := Row.d) (ds := rdg C cs1 wZz) (it := (sm G (evF G pT 99) (.v 12)).i) (cd := (sm G (evF G pT 99) .nop).c) (el := (sm G (evF G pT 99) (.ix (.v 14) (.cint 0))).v) (s0 := lws C cs1 cs2 wZz o0 o3 o4 o5 o7 (some (.lst (css.map csD), false)) (some (.lst (tc.map csD), false)) none none none none none none P2) (lws C cs1 cs2 wZz o0 o3 o4 o5 o7 (some (.lst (css.map csD), false)) (some (.lst (tc.map csD), false)) none none none none none none P2) (fun r => lws C cs1 cs2 wZz o0 o3 o4 o5 o7 (some (.lst (css.map csD), false)) (some (.lst (tc.map csD), false)) (some (r.d, false)) none none none none none P2) (fun _ => true) (fun r => .str r.nm) (by simp) (fun _ _ => rfl) (fun _ _ => rfl) (fun _ _ => rfl) (fun _ _ _ => by simp) (by omega)
      rw [filter_t] at this
      rw [← rdg_nms (c := C) (cs := cs1) (x := wZz), List.map_map]
      exact this
    have e5 : evF G pT 99 i_used_by [C.d, .str ⟨#[122, 122]⟩] [P2] = some (.lst ((usd C wZz).map .str), [P2]) := w_used_by (G := G) (mh := [P2]) K hz 97
    have e6 := w_same_strs (G := G) (mh := [P2]) (xs := usd C wZz) (ys := usd C wZz) (by omega) (by omega) (k := 97)
    rw [decide_eq_true rfl] at e6
    have e6' : evF G pT 99 i_law_same [.lst ((usd C wZz).map .str), .lst ((usd C wZz).map .str)] [P2] = some (.bl true, [P2]) := e6
    have e7 := w_is_reading (G := G) (mh := [P2]) K c1 hz t1 rdg_len (cand_zip g1 _) (k := 74)
    rw [decide_eq_true rfl] at e7
    have e7' : evF G pT 99 i_is_reading [C.d, .str ⟨#[122, 122]⟩, csD cs1, .tup ((rdg C cs1 wZz).map Row.d)] [P2] = some (.bl true, [P2]) := e7
    have e8 := w_is_reading (G := G) (mh := [P2]) K c1 hz t1 l2 (cand_zip g2 _) (k := 74)
    have e8' : evF G pT 99 i_is_reading [C.d, .str ⟨#[122, 122]⟩, csD cs1, .tup ((rdg C cs2 wZz).map Row.d)] [P2] = _ := e8
    have e9 := w_same_rows (G := G) (mh := [P2]) (xs := rdg C cs2 wZz) (ys := rdg C cs1 wZz) (by omega) (by omega) (fun r h => (g2 r h).sz) (fun r h => (g1 r h).sz) (k := 95)
    have e9' : evF G pT 99 i_law_same [.tup ((rdg C cs2 wZz).map Row.d), .tup ((rdg C cs1 wZz).map Row.d)] [P2] = _ := e9
    obtain ⟨o, lp1, a14, a15, a16, a18, rfl⟩ := for_ind (bd := bdN (.nm 14)) (e := Row.d) (body := cm G (evF G pT 99) c_law_1)
      (fun as s => (∀ r ∈ as, r ∈ rdg C cs1 wZz) ∧ ∃ (o14 o15 o16 o18 : Option (D × Bool)), s = lws C cs1 cs2 wZz o0 o3 o4 o5 o7 (some (.lst (css.map csD), false)) (some (.lst (tc.map csD), false)) o14 o15 o16 o18 none none P2)
      (fun o => ∃ (o14 o15 o16 o18 : Option (D × Bool)), o = .nx (lws C cs1 cs2 wZz o0 o3 o4 o5 o7 (some (.lst (css.map csD), false)) (some (.lst (tc.map csD), false)) o14 o15 o16 o18 none none P2))
      (by rintro s ⟨_, o14, o15, o16, o18, rfl⟩; exact ⟨o14, o15, o16, o18, rfl⟩)
      (by
        rintro r as s X ⟨hr, o14, o15, o16, o18, rfl⟩ hX
        obtain ⟨y, hy, e⟩ := List.mem_map.mp (hr r List.mem_cons_self)
        subst e
        obtain ⟨p15, p16, p18, e⟩ := w_law_1 (G := G) K (cs2 := cs2) c1 hz t1 (k := 37) (o0 := o0) (o3 := o3) (o4 := o4) (o5 := o5) (o7 := o7) (o8 := some (.lst (css.map csD), false)) (o9 := some (.lst (tc.map csD), false)) (o15 := o15) (o16 := o16) (o18 := o18) (o19 := none) (o20 := none) (P := P2) hy
        exact ⟨.nx _, e, hX (.nx _) ⟨fun r h => hr r (List.mem_cons_of_mem _ h), some ((rowAt C cs1 y).d, false), p15, p16, p18, rfl⟩⟩)
      (rdg C cs1 wZz) (lws C cs1 cs2 wZz o0 o3 o4 o5 o7 (some (.lst (css.map csD), false)) (some (.lst (tc.map csD), false)) none none none none none none P2) ⟨fun _ h => h, none, none, none, none, rfl⟩
    obtain ⟨o, lp2, a19, a20, rfl⟩ := for_ind (bd := bdN (.nm 19)) (e := fun j : Nat => D.int j) (body := cm G (evF G pT 99) c_law_2)
      (fun as s => (∀ j ∈ as, j < (rdg C cs1 wZz).length) ∧ ∃ (o19 o20 : Option (D × Bool)), s = lws C cs1 cs2 wZz o0 o3 o4 o5 o7 (some (.lst (css.map csD), false)) (some (.lst (tc.map csD), false)) a14 a15 a16 a18 o19 o20 P2)
      (fun o => ∃ (o19 o20 : Option (D × Bool)), o = .nx (lws C cs1 cs2 wZz o0 o3 o4 o5 o7 (some (.lst (css.map csD), false)) (some (.lst (tc.map csD), false)) a14 a15 a16 a18 o19 o20 P2))
      (by rintro s ⟨_, o19, o20, rfl⟩; exact ⟨o19, o20, rfl⟩)
      (by
        rintro j as s X ⟨hj, o19, o20, rfl⟩ hX
        obtain ⟨p20, e⟩ := w_law_2 (G := G) K (cs2 := cs2) c1 hz t1 rfl t2 (k := 37) (o0 := o0) (o3 := o3) (o4 := o4) (o5 := o5) (o7 := o7) (o8 := some (.lst (css.map csD), false)) (o9 := some (.lst (tc.map csD), false)) (o14 := a14) (o15 := a15) (o16 := a16) (o18 := a18) (o20 := o20) (P := P2) (hj j List.mem_cons_self)
        exact ⟨.nx _, e, hX (.nx _) ⟨fun r h => hj r (List.mem_cons_of_mem _ h), some (.int (j : Nat), false), p20, rfl⟩⟩)
      (List.range (rdg C cs1 wZz).length) (lws C cs1 cs2 wZz o0 o3 o4 o5 o7 (some (.lst (css.map csD), false)) (some (.lst (tc.map csD), false)) a14 a15 a16 a18 none none P2) ⟨fun j h => by simpa using h, none, none, rfl⟩
    have rg := rgO_len (l := rdg C cs1 wZz) (by omega)
    refine ⟨[P2], ?_⟩
    refine seq_step (Q := fun r => r = some (D.bl true, [P2])) (s1 := ⟨[o0, some (.ref 0, false), some (C.d, false), o3, o4, o5, none, o7, some (.lst (css.map csD), false), some (.lst (tc.map csD), true), none, none, none, none, none, none, none, none, none, none, none], [P]⟩) (by simp -implicitDefEqProofs [e2]) ?_
    refine seq_step (Q := fun r => r = some (D.bl true, [P2])) (s1 := ⟨[o0, some (.ref 0, false), some (C.d, false), o3, o4, o5, none, o7, some (.lst (css.map csD), false), some (.lst (tc.map csD), true), none, none, none, none, none, none, none, none, none, none, none], [P]⟩) (by simp -implicitDefEqProofs [ht, tz]) ?_
    refine seq_step (Q := fun r => r = some (D.bl true, [P2])) (s1 := ⟨[o0, some (.ref 0, false), some (C.d, false), o3, o4, o5, none, o7, some (.lst (css.map csD), false), some (.lst (tc.map csD), false), some (csD cs1, false), some (csD cs2, false), none, none, none, none, none, none, none, none, none], [P2]⟩) (by simp -implicitDefEqProofs [p1, p2]) ?_
    refine seq_step (Q := fun r => r = some (D.bl true, [P2])) (s1 := lws C cs1 cs2 wZz o0 o3 o4 o5 o7 (some (.lst (css.map csD), false)) (some (.lst (tc.map csD), false)) none none none none none none P2) (by simp -implicitDefEqProofs [r1, r2]; exact ⟨rfl, rfl⟩) ?_
    refine seq_step (Q := fun r => r = some (D.bl true, [P2])) (s1 := lws C cs1 cs2 wZz o0 o3 o4 o5 o7 (some (.lst (css.map csD), false)) (some (.lst (tc.map csD), false)) none none none none none none P2) (by
      have e7'' : evF G pT 99 i_is_reading [C.d, .str ⟨#[122, 122]⟩, .tup (cs1.map .int), .tup ((rdg C cs1 wZz).map Row.d)] [P2] = some (.bl true, [P2]) := e7
      simp -implicitDefEqProofs [e4, e5, e6', e7'']) ?_
    refine seq_step (Q := fun r => r = some (D.bl true, [P2])) (s1 := lws C cs1 cs2 wZz o0 o3 o4 o5 o7 (some (.lst (css.map csD), false)) (some (.lst (tc.map csD), false)) a14 a15 a16 a18 none none P2) (by simp -implicitDefEqProofs [lp1]) ?_
    refine seq_step (Q := fun r => r = some (D.bl true, [P2])) (s1 := lws C cs1 cs2 wZz o0 o3 o4 o5 o7 (some (.lst (css.map csD), false)) (some (.lst (tc.map csD), false)) a14 a15 a16 a18 a19 a20 P2) (by simp -implicitDefEqProofs [rg, lp2]) ?_
    have e8'' : evF G pT 99 i_is_reading [C.d, .str ⟨#[122, 122]⟩, .tup (cs1.map .int), .tup ((rdg C cs2 wZz).map Row.d)] [P2] = _ := e8
    generalize decide (rdg C cs2 wZz = rdg C cs1 wZz) = bb at e8'' e9'
    cases bb <;> simp -implicitDefEqProofs [e8'', e9']
theorem lawL (ns : List Int) (hn : ns.length ≤ 63) : ∃ mh, evF G pT 100 i_law [.fzl ns] [] = some (.bl true, mh) := by
  rw [r_law]
  obtain ⟨P0, e0, q0⟩ := w_law_pool (G := G) (ns := ns) (by omega) (k := 98)
  obtain ⟨c, lb, P1, e1, q1, g⟩ := w_some_code (G := G) (n := 2) (many := 2) (by omega) (by omega) (by omega) (by omega) q0 (k := 90)
  have K0 := g.ok (by omega) mL_ok
  have tl := g.t.len
  have g1 := g.t1
  have nz : c.nms ≠ [] := fun e => by
    have : c.nms.length = 0 := by rw [e]; rfl
    unfold Cd.nms at this
    rw [List.length_map] at this
    omega
  have nz' : c.nms.map D.str ≠ [] := by simpa using nz
  have nl : (c.nms.map D.str).length ≤ 1000000 := by simp [Cd.nms]; omega
  obtain ⟨xa, P2, ma, e2, q2⟩ := w_law_pick (G := G) q1 nz' nl (k := 96)
  obtain ⟨a, ha, rfl⟩ := List.mem_map.mp ma
  obtain ⟨xb, P3, mb, e3, q3⟩ := w_law_pick (G := G) q2 nz' nl (k := 96)
  obtain ⟨b, hb, rfl⟩ := List.mem_map.mp mb
  have K := top_ok (by omega) g ha hb
  have hz : wZz ∈ (⟨c.fs, c.ts ++ [topT a b]⟩ : Cd).nms := by
    show wZz ∈ (c.ts ++ [topT a b]).map (·.nm)
    simp [topT]
  have hC : (⟨c.fs, c.ts ++ [topT a b]⟩ : Cd).d = .tup [.tup (c.fs.map Fact.d), .tup (c.ts.map Tm.d ++ [(topT a b).d])] := by
    show D.tup [.tup (c.fs.map Fact.d), .tup ((c.ts ++ [topT a b]).map Tm.d)] = _
    rw [List.map_append]
    rfl
  have htop : (topT a b).d = .tup [.str ⟨#[122, 122]⟩, .tup [.tup [.str ⟨#[122, 122, 97]⟩, .tup [.str ⟨#[116, 114, 117, 101]⟩], .tup [.str ⟨#[112, 108, 117, 115]⟩, .tup [.str ⟨#[116, 101, 114, 109]⟩, .str a], .tup [.str ⟨#[116, 101, 114, 109]⟩, .str b]], .non]]] := rfl
  have fk : ∀ f ∈ c.fs, FcOk f := g.f.ok
  have ec := w_law_cases (G := G) (mh := [P3]) fk (by have := g.f.len; omega) (k := 98)
  have cl := fun cs (h : cs ∈ casesF c.fs) => (casesF_len fk h : cs.length = c.fs.length)
  have cz : (casesF c.fs).length ≤ 1000000 := by
    have h1 := casesF_cnt c.fs [[]] fk
    have h2 : 16 ^ c.fs.length ≤ 16 ^ 4 := Nat.pow_le_pow_right (by omega) (by have := g.f.len; omega)
    unfold casesF
    simp only [List.length_cons, List.length_nil, Nat.zero_add, Nat.one_mul] at h1
    omega
  obtain ⟨mh, fin⟩ := law_end (G := G) K hz (casesF_ne fk) cz cl q3 (o0 := some (.fzl ns, false)) (o3 := some (.tup (c.fs.map Fact.d), false)) (o4 := some (.tup (c.ts.map Tm.d), false)) (o5 := some (.lst (c.nms.map .str), false)) (o7 := some ((topT a b).d, false))
  refine ⟨mh, ?_⟩
  have en : (sm G (evF G pT 99) e_law_1).v ⟨[some (.fzl ns, false), some (.ref 0, false), some (c.d, false), some (.tup (c.fs.map Fact.d), false), some (.tup (c.ts.map Tm.d), false), none, none, none, none, none, none, none, none, none, none, none, none, none, none, none, none], [P1]⟩ = some (.lst (c.nms.map .str), .fr, ⟨[some (.fzl ns, false), some (.ref 0, false), some (c.d, false), some (.tup (c.fs.map Fact.d), false), some (.tup (c.ts.map Tm.d), false), none, none, none, none, none, none, none, none, none, none, none, none, none, none, none, none], [P1]⟩) := by
    rw [e_law_1, y_lc]
    have := lcF_gen (own := [6]) (tg := .nm 6) (e := Tm.d) (ds := c.ts) (it := (sm G (evF G pT 99) (.v 4)).i) (cd := (sm G (evF G pT 99) .nop).c) (el := (sm G (evF G pT 99) (.ix (.v 6) (.cint 0))).v) (s0 := ⟨[some (.fzl ns, false), some (.ref 0, false), some (c.d, false), some (.tup (c.fs.map Fact.d), false), some (.tup (c.ts.map Tm.d), false), none, none, none, none, none, none, none, none, none, none, none, none, none, none, none, none], [P1]⟩) ⟨[some (.fzl ns, false), some (.ref 0, false), some (c.d, false), some (.tup (c.fs.map Fact.d), false), some (.tup (c.ts.map Tm.d), false), none, none, none, none, none, none, none, none, none, none, none, none, none, none, none, none], [P1]⟩ (fun t => ⟨[some (.fzl ns, false), some (.ref 0, false), some (c.d, false), some (.tup (c.fs.map Fact.d), false), some (.tup (c.ts.map Tm.d), false), none, some (t.d, false), none, none, none, none, none, none, none, none, none, none, none, none, none, none], [P1]⟩) (fun _ => true) (fun t => .str t.nm) (by simp) (fun _ _ => rfl) (fun _ _ => rfl) (fun _ _ => rfl) (fun _ _ _ => by simp) (by omega)
    rw [filter_t] at this
    unfold Cd.nms
    rw [List.map_map]
    exact this
  have e0' : evF G pT 99 i_law_pool [.fzl ns] [] = some (.ref 0, [P0]) := e0
  have e1' : evF G pT 99 i_law_some_code [.ref 0, .int 2, .int 2] [P0] = some (c.d, [P1]) := e1
  have r1 : rmE (c.ts.length + 1) = some () := rmE_of (by omega)
  refine seq_step (Q := fun r => r = some (D.bl true, mh)) (s1 := ⟨[some (.fzl ns, false), some (.ref 0, false), none, none, none, none, none, none, none, none, none, none, none, none, none, none, none, none, none, none, none], [P0]⟩) (by simp -implicitDefEqProofs [e0']) ?_
  refine seq_step (Q := fun r => r = some (D.bl true, mh)) (s1 := ⟨[some (.fzl ns, false), some (.ref 0, false), some (c.d, false), none, none, none, none, none, none, none, none, none, none, none, none, none, none, none, none, none, none], [P1]⟩) (by simp -implicitDefEqProofs [e1']) ?_
  refine seq_step (Q := fun r => r = some (D.bl true, mh)) (s1 := ⟨[some (.fzl ns, false), some (.ref 0, false), some (c.d, false), some (.tup (c.fs.map Fact.d), false), some (.tup (c.ts.map Tm.d), false), none, none, none, none, none, none, none, none, none, none, none, none, none, none, none, none], [P1]⟩) (by simp -implicitDefEqProofs [Cd.d]) ?_
  refine seq_step (Q := fun r => r = some (D.bl true, mh)) (s1 := ⟨[some (.fzl ns, false), some (.ref 0, false), some (c.d, false), some (.tup (c.fs.map Fact.d), false), some (.tup (c.ts.map Tm.d), false), some (.lst (c.nms.map .str), true), none, none, none, none, none, none, none, none, none, none, none, none, none, none, none], [P1]⟩) (by simp -implicitDefEqProofs [en]) ?_
  refine seq_step (Q := fun r => r = some (D.bl true, mh)) (s1 := ⟨[some (.fzl ns, false), some (.ref 0, false), some (c.d, false), some (.tup (c.fs.map Fact.d), false), some (.tup (c.ts.map Tm.d), false), some (.lst (c.nms.map .str), false), none, some ((topT a b).d, false), none, none, none, none, none, none, none, none, none, none, none, none, none], [P3]⟩) (by simp -implicitDefEqProofs [e2, e3, htop]) ?_
  refine seq_step (Q := fun r => r = some (D.bl true, mh)) (s1 := ⟨[some (.fzl ns, false), some (.ref 0, false), some ((⟨c.fs, c.ts ++ [topT a b]⟩ : Cd).d, false), some (.tup (c.fs.map Fact.d), false), some (.tup (c.ts.map Tm.d), false), some (.lst (c.nms.map .str), false), none, some ((topT a b).d, false), none, none, none, none, none, none, none, none, none, none, none, none, none], [P3]⟩) (by simp -implicitDefEqProofs [hC, r1]) ?_
  refine seq_step (Q := fun r => r = some (D.bl true, mh)) (s1 := ⟨[some (.fzl ns, false), some (.ref 0, false), some ((⟨c.fs, c.ts ++ [topT a b]⟩ : Cd).d, false), some (.tup (c.fs.map Fact.d), false), some (.tup (c.ts.map Tm.d), false), some (.lst (c.nms.map .str), false), none, some ((topT a b).d, false), some (.lst ((casesF c.fs).map csD), false), none, none, none, none, none, none, none, none, none, none, none, none], [P3]⟩) (by simp -implicitDefEqProofs [ec]) ?_
  exact fin
end E3
set_option Elab.async false
set_option linter.all false
set_option maxRecDepth 100000
set_option maxHeartbeats 0
/-! k83: the table is the row's; the head. -/
namespace H83
open PySem PySem.Spec PyProof.Rows L2
abbrev PG : Program := PySem.Challenge.pw_casesruled_k83_whole_readings_within_rea
def mkD : Stmt → Option He.DefD
  | .FunctionDef n a b _ _ _ sc _ _ _ => some ⟨(n, none), n, n, a, b, sc, [], []⟩
  | _ => none
def fn : List He.DefD := PG.main.body.filterMap mkD
def glos : List Str := E3.pT.map (·.nm)
def fa : List He.Fa := glos.map He.Fa.glo ++ E3.bnames.map He.Fa.free
abbrev R : PySem.W.OpenRow := PySem.W.OpenLaw.row PySem.Challenge.rw_casesruled_k83_whole_readings_within_rea
abbrev hk : PySem.W.Hook := He.hookD 4 fa fn
def ob (s : PySem.W.SharedT) : He.AlD := He.obsDG 4 fa fn (HandSHeadRun.getT s)
theorem ob_eq (s : PySem.W.SharedT) : ob s = hk.obs s.abs := He.obsDG_eq (HandSHeadRun.getT_eq s)
def loose : List Str := (fn.map (·.name)).dropLast ++ (["CodeError", "NoTerm"] : List Str)
theorem run (w : World) : HandSHeadRun.RunEq R (PySem.W.view R.prog [51]) hk ob 4000 loose w := by
  intro os
  kernel_rfl
theorem fds : (fn.zip E3.pT).all (fun p => E3.fdOk (E3.ftOf E3.pT) p.1 p.2) = true := by kernel_rfl
theorem len_eq : fn.length = E3.pT.length := by kernel_rfl
theorem all_ok (i : Nat) (dd : He.DefD) (d : E3.Fd) (h1 : fn[i]? = some dd) (h2 : E3.pT[i]? = some d) : E3.fdOk (E3.ftOf E3.pT) dd d = true := by
  have h : (fn.zip E3.pT)[i]? = some (dd, d) := by rw [List.getElem?_zip_eq_some]; exact ⟨h1, h2⟩
  exact List.all_eq_true.mp fds (dd, d) (List.mem_of_getElem? h)
theorem nm_last : (E3.pT[E3.i_law]?).map (fun d => (d.nm, d.np, d.N.take d.np, d.rb)) = some (("law" : Str), 1, [("script" : Str)], false) := by kernel_rfl
/-- the program has no globals that the walks read -/
abbrev G : Nat → Option E3.D := fun _ => none
theorem facts (L : ∀ ns : List Int, ns.length ≤ 63 → ∃ mh, E3.evF G E3.pT 100 E3.i_law [.fzl ns] [] = some (.bl true, mh)) {P : Program} {w : World} {K : PySem.W.Frag} {h : Heap} {mg : Str → Option Value} {f : Addr} (X : K.In h) (g : h.Ns mainGlobals mg) (hfa : mg ("law" : Str) = some (.ref f)) (c : He.SaysD fa fn K) :
    ∃ (fd : FuncData) (sp : Sp), (∀ (s : Shared) (v : Value), BindsTo s fd ⟨[v], []⟩ [("script", v)]) ∧ (∀ (H : Hp) (a : Addr) (ns : List Int), ns.length ≤ 63 → Only H → SqL K H a (ns.map V.int) → sp [.ref a] H (fun v _ => v = .bl true) fun _ _ _ => False) ∧
      ∀ base : Heap, FnOk P w K mg base CX0 100 f fd [("script" : Str)] sp := by
  have hM : ∀ (i : Nat) d, E3.pT[i]? = some d → mg d.nm = some (.ref (He.ga K d.nm)) := fun i d hd => by
    have hg : glos[i]? = some d.nm := by
      show (E3.pT.map (·.nm))[i]? = _
      rw [List.getElem?_map, hd]
      rfl
    have hi : i < glos.length := (List.getElem?_eq_some_iff.mp hg).1
    refine He.glo_ok X g (c.fact i (f := .glo d.nm) ?_)
    show (glos.map He.Fa.glo ++ _)[i]? = _
    rw [List.getElem?_append_left (by simpa using hi), List.getElem?_map, hg]
    rfl
  have hB : ∀ x ∈ E3.bnames, mg x = none := fun x hx => by
    obtain ⟨i, hi, e⟩ := List.mem_iff_getElem.mp hx
    refine He.free_ok X g (c.fact (glos.length + i) (f := .free x) ?_)
    show (glos.map He.Fa.glo ++ E3.bnames.map He.Fa.free)[glos.length + i]? = _
    rw [List.getElem?_append_right (by simp), List.getElem?_map]
    have : glos.length + i - (glos.map He.Fa.glo).length = i := by simp
    rw [this, List.getElem?_eq_getElem hi, e]
    rfl
  have last := nm_last
  obtain ⟨d, hd, e⟩ := Option.map_eq_some_iff.mp last
  have e1 : d.nm = ("law" : Str) := congrArg (·.1) e
  have e2 : d.np = 1 := congrArg (·.2.1) e
  have e3 : d.N.take d.np = [("script" : Str)] := congrArg (·.2.2.1) e
  have e4 : d.rb = false := congrArg (·.2.2.2) e
  obtain ⟨fd, ps, p1, p2, F, _, _, bd⟩ := E3.evOk (P := P) (w := w) (G := G) len_eq all_ok (fun i dd hdd => c.def_ i hdd) hM hB 100 E3.i_law d hd
  have ga : He.ga K d.nm = f := by
    have := hM E3.i_law d hd
    rw [e1, hfa] at this
    rw [e1]
    cases this
    rfl
  have pe : ps = [("script" : Str)] := p2.trans e3
  refine ⟨fd, E3.spB false K 1 (E3.evF G E3.pT 100 E3.i_law), fun s v => ?_, fun H a ns hl hO hS => ?_, fun base => ?_⟩
  · have := bd s [v] (by rw [pe]; rfl)
    rw [pe] at this
    exact this
  · obtain ⟨mh, hm⟩ := L ns hl
    exact E3.law_sp hO hS hm
  · have := F base
    rw [pe, ga, e4] at this
    exact this
end H83
open PySem PySem.W PySem.Calls PyProof.Rows
theorem h83 (L : ∀ ns : List Int, ns.length ≤ 63 → ∃ mh, E3.evF H83.G E3.pT 100 E3.i_law [.fzl ns] [] = some (.bl true, mh)) : PySem.Challenge.rw_casesruled_k83_whole_readings_within_rea.Holds := by
  w_on; o_law
  refine HandSHeadRun.head_any (r := OpenLaw.row PySem.Challenge.rw_casesruled_k83_whole_readings_within_rea) (q := view (OpenLaw.row PySem.Challenge.rw_casesruled_k83_whole_readings_within_rea).prog [51]) (H := H83.hk) (ob := H83.ob) (M := 4000) (loose := H83.loose) (d := HandSHeadRun.topDef (OpenLaw.row PySem.Challenge.rw_casesruled_k83_whole_readings_within_rea).prog 51) (kwd := []) H83.ob_eq
    (by kernel_rfl) (fun s => by kernel_rfl) H83.run (by kernel_rfl) (by kernel_rfl) (by kernel_rfl) (by rfl) (by first | assumption | decide +kernel) (by decide +kernel) ⟨rfl, rfl, rfl, rfl, rfl, by decide +kernel⟩ ?hw ?hc
  case hw => w_witness2
  case hc =>
    refine L2.walk_ofE (l := PySem.Challenge.rw_casesruled_k83_whole_readings_within_rea) (n := 63) (k := 100) (x := "script") (CX := L2.CX0) rfl (by decide) (by kernel_rfl) ⟨rfl, by decide, by decide⟩ ?F (fun _ _ _ _ z => z)
    intro w mg fa h Y G hmg0
    obtain ⟨K, KX, c⟩ := Y
    have hmg : mg ("law" : PySem.Str) = some (.ref fa) := by
      have e : (HandSHeadRun.topDef (OpenLaw.row PySem.Challenge.rw_casesruled_k83_whole_readings_within_rea).prog 51).name = ("law" : PySem.Str) := by kernel_rfl
      rw [← e]
      exact hmg0
    obtain ⟨fd, sp, hb, hs, hF⟩ := H83.facts L (P := (PySem.Challenge.rw_casesruled_k83_whole_readings_within_rea).prog) (w := w) KX G hmg c
    exact ⟨K, fd, sp, KX, hb, hs, fun base _ _ => hF base⟩
theorem PySem.Challenge.cw_casesruled_k83_whole_readings_within_rea_holds : PySem.Challenge.rw_casesruled_k83_whole_readings_within_rea.Holds := by
  exact h83 fun ns hn => E3.lawL ns hn
