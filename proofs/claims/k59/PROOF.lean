import PyProof.Rows.All
import Wide.All
import OpenK.AllK
import Wide.FinOn
import HandS.ForMost
import HandS.Style
import HandS.DictComp
import HandS.Wide
import HandS.TupAny
import HandS.Deep
import HandS.IsInst
import HandS.Defaults
import HandS.Conv
import HandS.SetFor
import HandS.Strs
import PySem.Challenge.RW_wordsathand_k59_worlds_of_lots_and_of_di
set_option Elab.async false
set_option linter.all false
set_option maxRecDepth 100000
set_option maxHeartbeats 4000000
namespace Q
open PySem PySem.Spec L2

/-- what of the text plain data lean on -/
structure GX where
  K : PySem.W.Frag
  mg : Str → Option Value
abbrev _root_.L2.Cx.gx (X : Cx) : GX := ⟨X.K, X.mg⟩

/-! ### plain data -/
inductive D where
  | non
  | bl (b : Bool)
  | int (i : Int)
  | str (x : Str)
  | tup (xs : List D)
  | lst (xs : List D)
  | dk (ks : List Key) (vs : List D)
  | dt (ks : List (List Key)) (vs : List D)
  | ins (c : Str) (ns : List Str) (vs : List D)
  /-- the script: read, never written -/
  | scr (ns : List Int)

section
variable (mg : GX)
mutual
inductive Rep (F : Hp) : V → D → Prop
  | non : Rep F .non .non
  | bl (b : Bool) : Rep F (.bl b) (.bl b)
  | int (i : Int) : Rep F (.int i) (.int i)
  | str (x : Str) : Rep F (.str x) (.str x)
  | tup {a : Addr} {vs : List V} {ds : List D} : F a = some (.tup vs) → vs.length ≤ sizeLine → RepAll F vs ds → Rep F (.ref a) (.tup ds)
  | scr {a : Addr} {ns : List Int} : SqL mg.K F a (ns.map V.int) → ns.length ≤ sizeLine → Rep F (.ref a) (.scr ns)
  | lst {a : Addr} {vs : List V} {ds : List D} : F a = some (.lst vs) → vs.length ≤ sizeLine → RepAll F vs ds → Rep F (.ref a) (.lst ds)
  | dk {a : Addr} {kvs : List (Key × V)} {ks : List Key} {ds : List D} : F a = some (.dK kvs) → kvs.length ≤ sizeLine → kvs.map (·.1) = ks → RepAll F (kvs.map (·.2)) ds → Rep F (.ref a) (.dk ks ds)
  | dt {a : Addr} {kvs : List (List Key × V)} {ks : List (List Key)} {ds : List D} : F a = some (.dT kvs) → kvs.length ≤ sizeLine → kvs.map (·.1) = ks → RepAll F (kvs.map (·.2)) ds → Rep F (.ref a) (.dt ks ds)
  | ins {a C dx : Addr} {c : Str} {fs : List (Str × V)} {ns : List Str} {ds : List D} : F a = some (.ins C dx fs) → F dx = some (.own a) → mg.mg c = some (.ref C) → fs.map (·.1) = ns → RepAll F (fs.map (·.2)) ds → Rep F (.ref a) (.ins c ns ds)
inductive RepAll (F : Hp) : List V → List D → Prop
  | nil : RepAll F [] []
  | cons {v : V} {vs : List V} {d : D} {ds : List D} : Rep F v d → RepAll F vs ds → RepAll F (v :: vs) (d :: ds)
end
end

section
variable {mg : GX} {F F' H H' : Hp} {v w : V} {vs ws : List V} {d e : D} {ds es : List D}

theorem sqT_mono {a : Addr} {xs : List V} (e : Same F F') (h : SqT K F a xs) : SqT K F' a xs := by
  rcases h with (h | ⟨o, h⟩) | h
  · exact .inl (.inl (e _ _ h))
  · exact .inl (.inr ⟨o, e _ _ h⟩)
  · exact .inr h

mutual
theorem Rep.mono (s : Same F F') : ∀ {v : V} {d : D}, Rep mg F v d → Rep mg F' v d
  | _, _, .non => .non
  | _, _, .bl b => .bl b
  | _, _, .int i => .int i
  | _, _, .str x => .str x
  | _, _, .tup h l r => .tup (s _ _ h) l (RepAll.mono s r)
  | _, _, .scr h l => .scr (s.seq h) l
  | _, _, .lst h l r => .lst (s _ _ h) l (RepAll.mono s r)
  | _, _, .dk h l k r => .dk (s _ _ h) l k (RepAll.mono s r)
  | _, _, .dt h l k r => .dt (s _ _ h) l k (RepAll.mono s r)
  | _, _, .ins h o m k r => .ins (s _ _ h) (s _ _ o) m k (RepAll.mono s r)
theorem RepAll.mono (s : Same F F') : ∀ {vs : List V} {ds : List D}, RepAll mg F vs ds → RepAll mg F' vs ds
  | _, _, .nil => .nil
  | _, _, .cons h r => .cons (Rep.mono s h) (RepAll.mono s r)
end

theorem RepAll.length : ∀ {vs : List V} {ds : List D}, RepAll mg F vs ds → vs.length = ds.length
  | _, _, .nil => rfl
  | _, _, .cons _ r => congrArg (· + 1) (RepAll.length r)
theorem RepAll.append : ∀ {vs ws : List V} {ds es : List D}, RepAll mg F vs ds → RepAll mg F ws es → RepAll mg F (vs ++ ws) (ds ++ es)
  | _, _, _, _, .nil, s => s
  | _, _, _, _, .cons h r, s => .cons h (RepAll.append r s)
theorem RepAll.get : ∀ {vs : List V} {ds : List D} {i : Nat} {d : D}, RepAll mg F vs ds → ds[i]? = some d → ∃ v, vs[i]? = some v ∧ Rep mg F v d
  | _, _, _, _, .nil, e => by simp at e
  | _, _, 0, _, .cons h _, e => by simp at e; subst e; exact ⟨_, rfl, h⟩
  | _, _, i + 1, _, .cons _ r, e => by
    obtain ⟨v, h1, h2⟩ := RepAll.get (i := i) r (by simpa using e)
    exact ⟨v, by simpa using h1, h2⟩
theorem RepAll.getV : ∀ {vs : List V} {ds : List D} {i : Nat} {v : V}, RepAll mg F vs ds → vs[i]? = some v → ∃ d, ds[i]? = some d ∧ Rep mg F v d
  | _, _, _, _, .nil, e => by simp at e
  | _, _, 0, _, .cons h _, e => by simp at e; subst e; exact ⟨_, rfl, h⟩
  | _, _, i + 1, _, .cons _ r, e => by
    obtain ⟨v, h1, h2⟩ := RepAll.getV (i := i) r (by simpa using e)
    exact ⟨v, by simpa using h1, h2⟩
theorem RepAll.set : ∀ {vs : List V} {ds : List D} {v : V} {d : D} (i : Nat), RepAll mg F vs ds → Rep mg F v d → RepAll mg F (vs.set i v) (ds.set i d)
  | _, _, _, _, _, .nil, _ => .nil
  | _, _, _, _, 0, .cons _ r, h => .cons h r
  | _, _, _, _, i + 1, .cons h' r, h => .cons h' (RepAll.set i r h)
theorem RepAll.take : ∀ {vs : List V} {ds : List D} (n : Nat), RepAll mg F vs ds → RepAll mg F (vs.take n) (ds.take n)
  | _, _, 0, _ => .nil
  | _, _, _ + 1, .nil => .nil
  | _, _, n + 1, .cons h r => .cons h (RepAll.take n r)
theorem RepAll.drop : ∀ {vs : List V} {ds : List D} (n : Nat), RepAll mg F vs ds → RepAll mg F (vs.drop n) (ds.drop n)
  | _, _, 0, r => r
  | _, _, _ + 1, .nil => .nil
  | _, _, n + 1, .cons _ r => RepAll.drop n r
theorem RepAll.reverse : ∀ {vs : List V} {ds : List D}, RepAll mg F vs ds → RepAll mg F vs.reverse ds.reverse
  | _, _, .nil => .nil
  | _, _, .cons h r => by
    rw [List.reverse_cons, List.reverse_cons]
    exact (RepAll.reverse r).append (.cons h .nil)
theorem RepAll.one (h : Rep mg F v d) : RepAll mg F [v] [d] := .cons h .nil
theorem repInts : ∀ (ns : List Int), RepAll mg F (ns.map V.int) (ns.map D.int)
  | [] => .nil
  | n :: r => .cons (.int n) (repInts r)
theorem repStrs : ∀ (ns : List Str), RepAll mg F (ns.map V.str) (ns.map D.str)
  | [] => .nil
  | n :: r => .cons (.str n) (repStrs r)
theorem repInts_of : ∀ {vs : List V} {ns : List Int}, RepAll mg F vs (ns.map D.int) → vs = ns.map V.int
  | _, [], h => by cases h; rfl
  | _, n :: r, h => by
    cases h with
    | cons h1 h2 =>
      cases h1
      rw [repInts_of h2]; rfl
theorem repStrs_of : ∀ {vs : List V} {ns : List Str}, RepAll mg F vs (ns.map D.str) → vs = ns.map V.str
  | _, [], h => by cases h; rfl
  | _, n :: r, h => by
    cases h with
    | cons h1 h2 =>
      cases h1
      rw [repStrs_of h2]; rfl

/-! ### the environment -/
/-- an object that one name alone holds: flat (its parts are fixed), or a deal of draws -/
inductive O where
  | flat (d : D)
  | deal (cells : List Int) (mix : Int)
inductive Sl where
  | no
  | sh (d : D)
  | ow (o : O)
  | pw (o : O)
abbrev Env := List Sl
inductive L where
  | v (d : D)
  | s (i : Nat)

end

section
variable (mg : GX)
/-- the top of a changeable object lies at a in G, its parts in F -/
def Top (F G : Hp) (a : Addr) (cs : List Addr) : D → Prop
  | .lst ds => ∃ vs, G a = some (.lst vs) ∧ vs.length ≤ sizeLine ∧ RepAll mg F vs ds ∧ cs = [a]
  | .dk ks ds => ∃ kvs, G a = some (.dK kvs) ∧ kvs.length ≤ sizeLine ∧ kvs.map (·.1) = ks ∧ RepAll mg F (kvs.map (·.2)) ds ∧ cs = [a]
  | .dt ks ds => ∃ kvs, G a = some (.dT kvs) ∧ kvs.length ≤ sizeLine ∧ kvs.map (·.1) = ks ∧ RepAll mg F (kvs.map (·.2)) ds ∧ cs = [a]
  | .ins c ns ds => ∃ C dx fs, G a = some (.ins C dx fs) ∧ G dx = some (.own a) ∧ mg.mg c = some (.ref C) ∧ fs.map (·.1) = ns ∧ RepAll mg F (fs.map (·.2)) ds ∧ cs = [a, dx]
  | _ => False
def OR (F H : Hp) (v : V) (cs : List Addr) : O → Prop
  | .flat d => ∃ a, v = .ref a ∧ Top mg F H a cs d
  | .deal cells mix => ∃ p q, v = .ref p ∧ H p = some (.lst [.ref q, .int mix]) ∧ H q = some (.lst (cells.map V.int)) ∧ p ≠ q ∧ cs = [p, q]
def SlR (F H : Hp) (p : V) (o : Option (Option V)) (cs : List Addr) : Sl → Prop
  | .no => cs = []
  | .sh d => ∃ v, o = some (some v) ∧ Rep mg F v d ∧ cs = []
  | .ow x => ∃ v, o = some (some v) ∧ OR mg F H v cs x
  | .pw x => o = some (some p) ∧ OR mg F H p cs x
structure ER (π : Nat → V) (ε : Env) (σ : St) (H F : Hp) (cs : Nat → List Addr) : Prop where
  len : ε.length = σ.length
  sub : Same F H
  slot : ∀ i s, ε[i]? = some s → SlR mg F H (π i) (σ[i]?) (cs i) s
  off : ∀ i, ε.length ≤ i → cs i = []
  nf : ∀ i p, p ∈ cs i → F p = none
  dj : ∀ i j p, p ∈ cs i → p ∈ cs j → i = j
/-- what stands at v may be read: its top in H, its parts in F -/
def Rd1 (F H : Hp) (v : V) (d : D) : Prop := Rep mg F v d ∨ ∃ a cs, v = .ref a ∧ Top mg F H a cs d
def LR (σ : St) (F : Hp) (v : V) : L → Prop
  | .v d => Rep mg F v d
  | .s i => σ[i]? = some (some v)
end
structure Stp (H F : Hp) (cs : Nat → List Addr) (H' F' : Hp) (cs' : Nat → List Addr) : Prop where
  same : Same F F'
  sol : ∀ b o, H b = some o → ∃ o', H' b = some o'
  frn : ∀ b o, H b = some o → F b = none → (∀ i, b ∉ cs i) → H' b = some o ∧ F' b = none ∧ ∀ i, b ∉ cs' i
/-- new objects alone -/
structure Grow (F H F' H' : Hp) : Prop where
  keep : Same H H'
  fold : ∀ b o, H b = some o → F' b = F b
  fnew : ∀ b, H b = none → F' b = H' b

section
variable {mg : GX} {F F' F2 H H' H2 : Hp} {cs cs' cs2 : Nat → List Addr} {ε : Env} {σ : St} {π : Nat → V}
theorem Stp.refl : Stp H F cs H F cs := ⟨Same.refl _, fun _ o h => ⟨o, h⟩, fun _ _ h n c => ⟨h, n, c⟩⟩
theorem Stp.trans (a : Stp H F cs H' F' cs') (b : Stp H' F' cs' H2 F2 cs2) : Stp H F cs H2 F2 cs2 :=
  ⟨a.same.trans b.same, fun x o h => let ⟨u, q⟩ := a.sol x o h; b.sol x u q, fun x o h n c => let ⟨h1, n1, c1⟩ := a.frn x o h n c; b.frn x o h1 n1 c1⟩
theorem Grow.same (g : Grow F H F' H') (s : Same F H) : Same F F' := fun b o e => by
  rw [g.fold b o (s b o e)]; exact e
theorem Grow.sub (g : Grow F H F' H') (s : Same F H) : Same F' H' := fun b o e => by
  cases q : H b with
  | none => rw [← g.fnew b q]; exact e
  | some u =>
    rw [g.fold b u q] at e
    have := s b o e
    exact g.keep b o this
theorem growNone (s : Same F H) : Grow F H F H := ⟨Same.refl _, fun _ _ _ => rfl, fun b e => by
  cases q : F b with
  | none => exact e.symm
  | some u => rw [s b u q] at e; cases e⟩
theorem Grow.trans (a : Grow F H F' H') (b : Grow F' H' F2 H2) (s : Same F H) : Grow F H F2 H2 :=
  ⟨a.keep.trans b.keep, fun x o e => (b.fold x o (a.keep x o e)).trans (a.fold x o e), fun x e => by
    cases q : H' x with
    | none => exact b.fnew x q
    | some u =>
      rw [b.fold x u q, a.fnew x e, q]
      exact (b.keep x u q).symm⟩
theorem growUpd {p : Addr} {o : HO} (s : Same F H) (h : H p = none) : Grow F H (upd F p o) (upd H p o) :=
  ⟨fun b x e => by rw [upd_ne (ne_of_none e h)]; exact e, fun b x e => by rw [upd_ne (ne_of_none e h)], fun b e => by
    by_cases hb : b = p
    · subst hb; rw [upd_same, upd_same]
    · rw [upd_ne hb, upd_ne hb]
      cases q : F b with
      | none => exact e.symm
      | some u => rw [s b u q] at e; cases e⟩

theorem Top.keepH {d : D} {a : Addr} {l : List Addr} (t : Top mg F H a l d) (s : Same F F') (k : ∀ b ∈ l, ∀ o, H b = some o → H' b = some o) : Top mg F' H' a l d := by
  cases d with
  | lst ds => obtain ⟨vs, h, n, r, rfl⟩ := t; exact ⟨vs, k _ (by simp) _ h, n, r.mono s, rfl⟩
  | dk ks ds => obtain ⟨kvs, h, n, q, r, rfl⟩ := t; exact ⟨kvs, k _ (by simp) _ h, n, q, r.mono s, rfl⟩
  | dt ks ds => obtain ⟨kvs, h, n, q, r, rfl⟩ := t; exact ⟨kvs, k _ (by simp) _ h, n, q, r.mono s, rfl⟩
  | ins c ns ds => obtain ⟨C, dx, fs, h, h2, m, q, r, rfl⟩ := t; exact ⟨C, dx, fs, k _ (by simp) _ h, k _ (by simp) _ h2, m, q, r.mono s, rfl⟩
  | non => exact t.elim
  | bl b => exact t.elim
  | int i => exact t.elim
  | str x => exact t.elim
  | tup xs => exact t.elim
  | scr xs => exact t.elim
theorem OR.keepH {x : O} {v : V} {l : List Addr} (t : OR mg F H v l x) (s : Same F F') (k : ∀ b ∈ l, ∀ o, H b = some o → H' b = some o) : OR mg F' H' v l x := by
  cases x with
  | flat d => obtain ⟨a, e, t⟩ := t; exact ⟨a, e, t.keepH s k⟩
  | deal cells mix => obtain ⟨p, q, e, h1, h2, n, rfl⟩ := t; exact ⟨p, q, e, k _ (by simp) _ h1, k _ (by simp) _ h2, n, rfl⟩
theorem Top.cells {d : D} {a : Addr} {l : List Addr} (t : Top mg F H a l d) : ∀ b ∈ l, ∃ o, H b = some o := by
  cases d with
  | lst ds => obtain ⟨vs, h, n, r, rfl⟩ := t; intro b hb; simp at hb; subst hb; exact ⟨_, h⟩
  | dk ks ds => obtain ⟨kvs, h, n, q, r, rfl⟩ := t; intro b hb; simp at hb; subst hb; exact ⟨_, h⟩
  | dt ks ds => obtain ⟨kvs, h, n, q, r, rfl⟩ := t; intro b hb; simp at hb; subst hb; exact ⟨_, h⟩
  | ins c ns ds =>
    obtain ⟨C, dx, fs, h, h2, m, q, r, rfl⟩ := t
    intro b hb; simp at hb
    rcases hb with rfl | rfl
    · exact ⟨_, h⟩
    · exact ⟨_, h2⟩
  | non => exact t.elim
  | bl b => exact t.elim
  | int i => exact t.elim
  | str x => exact t.elim
  | tup xs => exact t.elim
  | scr xs => exact t.elim
theorem OR.cells {x : O} {v : V} {l : List Addr} (t : OR mg F H v l x) : ∀ b ∈ l, ∃ o, H b = some o := by
  cases x with
  | flat d => obtain ⟨a, e, t⟩ := t; exact t.cells
  | deal cells mix =>
    obtain ⟨p, q, e, h1, h2, n, rfl⟩ := t
    intro b hb; simp at hb
    rcases hb with rfl | rfl
    · exact ⟨_, h1⟩
    · exact ⟨_, h2⟩
theorem SlR.keepH {s : Sl} {p : V} {o : Option (Option V)} {l : List Addr} (t : SlR mg F H p o l s) (e : Same F F') (k : ∀ b ∈ l, ∀ o, H b = some o → H' b = some o) : SlR mg F' H' p o l s := by
  cases s with
  | no => exact t
  | sh d => obtain ⟨v, a, r, c⟩ := t; exact ⟨v, a, r.mono e, c⟩
  | ow x => obtain ⟨v, a, r⟩ := t; exact ⟨v, a, r.keepH e k⟩
  | pw x => exact ⟨t.1, t.2.keepH e k⟩
theorem SlR.cells {s : Sl} {p : V} {o : Option (Option V)} {l : List Addr} (t : SlR mg F H p o l s) : ∀ b ∈ l, ∃ o, H b = some o := by
  cases s with
  | no => intro b hb; rw [show l = [] from t] at hb; cases hb
  | sh d => obtain ⟨v, a, r, c⟩ := t; intro b hb; rw [c] at hb; cases hb
  | ow x => obtain ⟨v, a, r⟩ := t; exact r.cells
  | pw x => exact t.2.cells
theorem ER.cells (R : ER mg π ε σ H F cs) (i : Nat) : ∀ b ∈ cs i, ∃ o, H b = some o := by
  by_cases h : i < ε.length
  · exact (R.slot i ε[i] (by simp [h])).cells
  · intro b hb
    rw [R.off i (by omega)] at hb; cases hb
theorem ER.grow (R : ER mg π ε σ H F cs) (g : Grow F H F' H') : ER mg π ε σ H' F' cs :=
  ⟨R.len, g.sub R.sub, fun i s e => (R.slot i s e).keepH (g.same R.sub) fun b _ o e => g.keep b o e, R.off, fun i p hp => by
    obtain ⟨o, e⟩ := R.cells i p hp
    rw [g.fold p o e]; exact R.nf i p hp, R.dj⟩
theorem Grow.stp (g : Grow F H F' H') (s : Same F H) : Stp H F cs H' F' cs :=
  ⟨g.same s, fun b o h => ⟨o, g.keep b o h⟩, fun b o h n c => ⟨g.keep b o h, (g.fold b o h).trans n, c⟩⟩

theorem Rd1.mono {v : V} {d : D} (h : Rd1 mg F H v d) (g : Grow F H F' H') (s : Same F H) : Rd1 mg F' H' v d := by
  rcases h with h | ⟨a, l, e, t⟩
  · exact .inl (h.mono (g.same s))
  · exact .inr ⟨a, l, e, t.keepH (g.same s) fun b _ o e => g.keep b o e⟩
theorem Rd1.rep {v : V} {d : D} (h : Rd1 mg F H v d) (s : Same F H) : Rep mg H v d := by
  rcases h with h | ⟨a, l, e, t⟩
  · exact h.mono s
  · subst e
    cases d with
    | lst ds => obtain ⟨vs, h, n, r, rfl⟩ := t; exact .lst h n (r.mono s)
    | dk ks ds => obtain ⟨kvs, h, n, q, r, rfl⟩ := t; exact .dk h n q (r.mono s)
    | dt ks ds => obtain ⟨kvs, h, n, q, r, rfl⟩ := t; exact .dt h n q (r.mono s)
    | ins c ns ds => obtain ⟨C, dx, fs, h, h2, m, q, r, rfl⟩ := t; exact .ins h h2 m q (r.mono s)
    | non => exact t.elim
    | bl b => exact t.elim
    | int i => exact t.elim
    | str x => exact t.elim
    | tup xs => exact t.elim
    | scr xs => exact t.elim
theorem Rd1.int {v : V} {i : Int} (h : Rd1 mg F H v (.int i)) : v = .int i := by
  rcases h with h | ⟨_, _, _, t⟩
  · cases h; rfl
  · exact t.elim
theorem Rd1.bl {v : V} {i : Bool} (h : Rd1 mg F H v (.bl i)) : v = .bl i := by
  rcases h with h | ⟨_, _, _, t⟩
  · cases h; rfl
  · exact t.elim
theorem Rd1.str {v : V} {i : Str} (h : Rd1 mg F H v (.str i)) : v = .str i := by
  rcases h with h | ⟨_, _, _, t⟩
  · cases h; rfl
  · exact t.elim
theorem Rd1.non {v : V} (h : Rd1 mg F H v .non) : v = .non := by
  rcases h with h | ⟨_, _, _, t⟩
  · cases h; rfl
  · exact t.elim
theorem Rd1.lst {v : V} {ds : List D} (h : Rd1 mg F H v (.lst ds)) (s : Same F H) : ∃ a vs, v = .ref a ∧ H a = some (.lst vs) ∧ vs.length ≤ sizeLine ∧ RepAll mg F vs ds := by
  rcases h with h | ⟨a, l, e, t⟩
  · cases h with
    | lst h n r => exact ⟨_, _, rfl, s _ _ h, n, r⟩
  · obtain ⟨vs, h, n, r, _⟩ := t; exact ⟨a, vs, e, h, n, r⟩
theorem Rd1.tup {v : V} {ds : List D} (h : Rd1 mg F H v (.tup ds)) (s : Same F H) : ∃ a vs, v = .ref a ∧ H a = some (.tup vs) ∧ vs.length ≤ sizeLine ∧ RepAll mg F vs ds := by
  rcases h with h | ⟨a, l, e, t⟩
  · cases h with
    | tup h n r => exact ⟨_, _, rfl, s _ _ h, n, r⟩
  · exact t.elim
theorem Rd1.dk {v : V} {ks : List Key} {ds : List D} (h : Rd1 mg F H v (.dk ks ds)) (s : Same F H) : ∃ a kvs, v = .ref a ∧ H a = some (.dK kvs) ∧ kvs.length ≤ sizeLine ∧ kvs.map (·.1) = ks ∧ RepAll mg F (kvs.map (·.2)) ds := by
  rcases h with h | ⟨a, l, e, t⟩
  · cases h with
    | dk h n q r => exact ⟨_, _, rfl, s _ _ h, n, q, r⟩
  · obtain ⟨vs, h, n, q, r, _⟩ := t; exact ⟨a, vs, e, h, n, q, r⟩
theorem Rd1.dt {v : V} {ks : List (List Key)} {ds : List D} (h : Rd1 mg F H v (.dt ks ds)) (s : Same F H) : ∃ a kvs, v = .ref a ∧ H a = some (.dT kvs) ∧ kvs.length ≤ sizeLine ∧ kvs.map (·.1) = ks ∧ RepAll mg F (kvs.map (·.2)) ds := by
  rcases h with h | ⟨a, l, e, t⟩
  · cases h with
    | dt h n q r => exact ⟨_, _, rfl, s _ _ h, n, q, r⟩
  · obtain ⟨vs, h, n, q, r, _⟩ := t; exact ⟨a, vs, e, h, n, q, r⟩
theorem Rd1.ins {v : V} {c : Str} {ns : List Str} {ds : List D} (h : Rd1 mg F H v (.ins c ns ds)) (s : Same F H) : ∃ a C dx fs, v = .ref a ∧ H a = some (.ins C dx fs) ∧ H dx = some (.own a) ∧ mg.mg c = some (.ref C) ∧ fs.map (·.1) = ns ∧ RepAll mg F (fs.map (·.2)) ds := by
  rcases h with h | ⟨a, l, e, t⟩
  · cases h with
    | ins h o m q r => exact ⟨_, _, _, _, rfl, s _ _ h, s _ _ o, m, q, r⟩
  · obtain ⟨C, dx, fs, h, h2, m, q, r, _⟩ := t; exact ⟨a, C, dx, fs, e, h, h2, m, q, r⟩

/-! ### reading, fixing -/
def rdS (ε : Env) (i : Nat) : Option D := match ε[i]? with
  | some (.sh d) => some d
  | some (.ow (.flat d)) => some d
  | some (.pw (.flat d)) => some d
  | _ => none
def L.rd : L → Env → Option D
  | .v d, _ => some d
  | .s i, ε => rdS ε i
/-- a value that goes elsewhere: what one name held alone is fixed -/
def L.fz : L → Env → Option (D × Env)
  | .v d, ε => some (d, ε)
  | .s i, ε => match ε[i]? with
    | some (.sh d) => some (d, ε)
    | some (.ow (.flat d)) => some (d, ε.set i (.sh d))
    | _ => none
theorem ER.rd (R : ER mg π ε σ H F cs) {l : L} {v : V} {d : D} (h : LR mg σ F v l) (e : l.rd ε = some d) : Rd1 mg F H v d := by
  cases l with
  | v d' =>
    cases e
    exact .inl h
  | s i =>
    have h : σ[i]? = some (some v) := h
    have e : rdS ε i = some d := e
    unfold rdS at e
    split at e
    · rename_i q
      cases e
      obtain ⟨v', a, r, _⟩ := R.slot i _ q
      rw [h] at a; cases a
      exact .inl r
    · rename_i q
      cases e
      obtain ⟨v', a, b, r, t⟩ := R.slot i _ q
      rw [h] at a; cases a
      exact .inr ⟨b, _, r, t⟩
    · rename_i q
      cases e
      obtain ⟨a, b, r, t⟩ := R.slot i _ q
      rw [h] at a; cases a
      exact .inr ⟨b, _, r, t⟩
    · cases e
/-- fix what stands at a -/
def fixH (F H : Hp) (l : List Addr) : Hp := fun b => if b ∈ l then H b else F b
theorem fix_same {l : List Addr} (nf : ∀ p ∈ l, F p = none) : Same F (fixH F H l) := fun b o e => by
  unfold fixH
  split
  · rename_i h; rw [nf b h] at e; cases e
  · exact e
theorem Top.fixed {d : D} {a : Addr} {l : List Addr} (t : Top mg F H a l d) (nf : ∀ p ∈ l, F p = none) : Rep mg (fixH F H l) (.ref a) d := by
  have s : Same F (fixH F H l) := fix_same nf
  have g : ∀ b ∈ l, fixH F H l b = H b := fun b hb => by unfold fixH; rw [if_pos hb]
  cases d with
  | lst ds => obtain ⟨vs, h, n, r, rfl⟩ := t; exact .lst ((g _ (by simp)).trans h) n (r.mono s)
  | dk ks ds => obtain ⟨kvs, h, n, q, r, rfl⟩ := t; exact .dk ((g _ (by simp)).trans h) n q (r.mono s)
  | dt ks ds => obtain ⟨kvs, h, n, q, r, rfl⟩ := t; exact .dt ((g _ (by simp)).trans h) n q (r.mono s)
  | ins c ns ds => obtain ⟨C, dx, fs, h, h2, m, q, r, rfl⟩ := t; exact .ins ((g _ (by simp)).trans h) ((g _ (by simp)).trans h2) m q (r.mono s)
  | non => exact t.elim
  | bl b => exact t.elim
  | int i => exact t.elim
  | str x => exact t.elim
  | tup xs => exact t.elim
  | scr xs => exact t.elim
theorem ER.fz (R : ER mg π ε σ H F cs) {l : L} {v : V} {d : D} {ε' : Env} (h : LR mg σ F v l) (e : l.fz ε = some (d, ε')) : ∃ F' cs', Stp H F cs H F' cs' ∧ ER mg π ε' σ H F' cs' ∧ Rep mg F' v d := by
  cases l with
  | v d' =>
    cases e
    exact ⟨F, cs, .refl, R, h⟩
  | s i =>
    have h : σ[i]? = some (some v) := h
    unfold L.fz at e
    dsimp only at e
    split at e
    · rename_i q
      cases e
      obtain ⟨v', a, r, _⟩ := R.slot i _ q
      rw [h] at a; cases a
      exact ⟨F, cs, .refl, R, r⟩
    · rename_i q
      cases e
      obtain ⟨v', a, b, r, t⟩ := R.slot i _ q
      rw [h] at a; cases a
      subst r
      have sF : Same F (fixH F H (cs i)) := fix_same (R.nf i)
      refine ⟨fixH F H (cs i), fun j => if j = i then [] else cs j, ⟨sF, fun b o hb => ⟨o, hb⟩, fun b o hb hn hc => ⟨hb, ?_, fun j => ?_⟩⟩, ⟨?_, ?_, ?_, ?_, ?_, ?_⟩, t.fixed (R.nf i)⟩
      · unfold fixH; rw [if_neg (hc i)]; exact hn
      · split
        · simp
        · exact hc j
      · rw [List.length_set]; exact R.len
      · intro b o e
        unfold fixH at e
        split at e
        · exact e
        · exact R.sub b o e
      · intro j s hj
        by_cases hij : j = i
        · subst hij
          have hl : j < ε.length := by
            rcases Nat.lt_or_ge j ε.length with z | z
            · exact z
            · rw [List.getElem?_eq_none z] at q; cases q
          rw [List.getElem?_set_self hl] at hj
          cases hj
          rw [if_pos rfl]
          exact ⟨_, h, t.fixed (R.nf j), rfl⟩
        · rw [List.getElem?_set_ne (Ne.symm hij)] at hj
          rw [if_neg hij]
          exact (R.slot j s hj).keepH sF fun b _ o e => e
      · intro j hj
        rw [List.length_set] at hj
        split
        · rfl
        · exact R.off j hj
      · intro j p hp
        split at hp
        · cases hp
        · rename_i hij
          unfold fixH
          split
          · rename_i hi
            exact absurd (R.dj j i p hp hi) hij
          · exact R.nf j p hp
      · intro j k p hp hk
        split at hp
        · cases hp
        · split at hk
          · cases hk
          · exact R.dj j k p hp hk
    · cases e
end
end Q

namespace Q
open PySem PySem.Spec L2

abbrev M (α : Type) := Env → Option (α × Env)
abbrev SM := Env → Option (List Nat × Env)
inductive Out where
  | nx (ε : Env)
  | rt (d : D) (ε : Env)
  | bk (ε : Env)
  | ct (ε : Env)
abbrev S := Env → Option Out

section
variable (mg : GX)
inductive LRs (σ : St) (F : Hp) : List V → List L → Prop
  | nil : LRs σ F [] []
  | cons {v : V} {l : L} {vs : List V} {ls : List L} : LR mg σ F v l → LRs σ F vs ls → LRs σ F (v :: vs) (l :: ls)
def tE (f : M L) : TE := fun σ H Q => ∃ π ε F cs, ER mg π ε σ H F cs ∧ ∃ l ε', f ε = some (l, ε') ∧
  ∀ v H' F' cs', Stp H F cs H' F' cs' → ER mg π ε' σ H' F' cs' → LR mg σ F' v l → Q v H'
def tT (f : M Bool) : TT := fun σ H Q => ∃ π ε F cs, ER mg π ε σ H F cs ∧ ∃ b ε', f ε = some (b, ε') ∧
  ∀ H' F' cs', Stp H F cs H' F' cs' → ER mg π ε' σ H' F' cs' → Q b H'
def tA (f : M (List L)) : TA := fun σ H Q => ∃ π ε F cs, ER mg π ε σ H F cs ∧ ∃ ls ε', f ε = some (ls, ε') ∧
  ∀ vs H' F' cs', Stp H F cs H' F' cs' → ER mg π ε' σ H' F' cs' → LRs mg σ F' vs ls → Q vs H'
/-- a new object that nothing else holds -/
def tN (f : M D) : TE := fun σ H Q => ∃ π ε F cs, ER mg π ε σ H F cs ∧ ∃ d ε', f ε = some (d, ε') ∧
  ∀ a l H' F' cs', Stp H F cs H' F' cs' → ER mg π ε' σ H' F' cs' → Top mg F' H' a l d → (∀ p ∈ l, H p = none ∧ F' p = none ∧ ∀ i, p ∉ cs' i) → Q (.ref a) H'
def EndOk (π : Nat → V) (Dn : Ends) (H F : Hp) (cs : Nat → List Addr) : Out → Prop
  | .nx ε' => ∀ σ' H' F' cs', Stp H F cs H' F' cs' → ER mg π ε' σ' H' F' cs' → Dn.nx σ' H'
  | .rt d ε' => ∀ v σ' H' F' cs', Stp H F cs H' F' cs' → ER mg π ε' σ' H' F' cs' → Rep mg F' v d → Dn.rt v H'
  | .bk ε' => ∀ σ' H' F' cs', Stp H F cs H' F' cs' → ER mg π ε' σ' H' F' cs' → Dn.bk σ' H'
  | .ct ε' => ∀ σ' H' F' cs', Stp H F cs H' F' cs' → ER mg π ε' σ' H' F' cs' → Dn.ct σ' H'
def tS (g : S) : TS := fun Dn σ H => ∃ π ε F cs, ER mg π ε σ H F cs ∧ ∃ o, g ε = some o ∧ EndOk mg π Dn H F cs o
/-- targets -/
def tG (js : List Nat) (a : D → Env → Option Env) : TG := fun v σ H Q => ∃ π ε F cs, ER mg π ε σ H F cs ∧ ∃ d ε', Rep mg F v d ∧ a d ε = some ε' ∧
  ∀ σ' cs', Stp H F cs H F cs' → ER mg π ε' σ' H F cs' → σ'.length = σ.length → (∀ j, j ∉ js → σ'[j]? = σ[j]?) → Q σ' H
def tGs (js : List Nat) (a : List D → Env → Option Env) : TGs := fun vs σ H Q => ∃ π ε F cs, ER mg π ε σ H F cs ∧ ∃ ds ε', RepAll mg F vs ds ∧ a ds ε = some ε' ∧
  ∀ σ' cs', Stp H F cs H F cs' → ER mg π ε' σ' H F cs' → σ'.length = σ.length → (∀ j, j ∉ js → σ'[j]? = σ[j]?) → Q σ' H
/-- what is walked: at each turn the next of ds -/
def ItS (J : It) (F : Hp) (ds : List D) : Prop := ds.length ≤ sizeLine ∧ ∀ i H2 F2, Same F F2 → Same F2 H2 →
  (∀ d, ds[i]? = some d → J.go i H2 ∧ ∀ x H3, J.yld i H2 x H3 → ∃ F3, Grow F2 H2 F3 H3 ∧ Rep mg F3 x d) ∧ (ds.length ≤ i → J.stop i H2)
def tI (f : M (List D)) : TI := fun σ H R => ∃ π ε F cs, ER mg π ε σ H F cs ∧ ∃ ds ε', f ε = some (ds, ε') ∧
  ∀ J H' F' cs', Stp H F cs H' F' cs' → ER mg π ε' σ H' F' cs' → ItS mg J F' ds → R J H'
end

theorem _root_.L2.PE.imp {X : Cx} {e : Expr} {t t' : TE} (h : PE X e t) (i : ∀ σ H Q, t' σ H Q → t σ H Q) : PE X e t' := ⟨fun pins s σ H Q I q => h.run pins s σ H Q I (i _ _ _ q)⟩
theorem _root_.L2.PT.imp {X : Cx} {e : Expr} {t t' : TT} (h : PT X e t) (i : ∀ σ H Q, t' σ H Q → t σ H Q) : PT X e t' := ⟨fun pins s σ H Q I q => h.run pins s σ H Q I (i _ _ _ q)⟩
theorem _root_.L2.PW.imp {X : Cx} {e : Expr} {t t' : TT} (h : PW X e t) (i : ∀ σ H Q, t' σ H Q → t σ H Q) : PW X e t' := ⟨fun wh pins s σ H Q I q => h.run wh pins s σ H Q I (i _ _ _ q)⟩
theorem _root_.L2.PA.imp {X : Cx} {e : List Expr} {t t' : TA} (h : PA X e t) (i : ∀ σ H Q, t' σ H Q → t σ H Q) : PA X e t' := ⟨fun pos pins s σ H Q I q => h.run pos pins s σ H Q I (i _ _ _ q)⟩
theorem _root_.L2.PS.imp {X : Cx} {e : Stmt} {t t' : TS} (h : PS X e t) (i : ∀ D σ H, t' D σ H → t D σ H) : PS X e t' := ⟨fun pins s σ H D I q => h.run pins s σ H D I (i _ _ _ q)⟩
theorem _root_.L2.PSs.imp {X : Cx} {e : List Stmt} {t t' : TS} (h : PSs X e t) (i : ∀ D σ H, t' D σ H → t D σ H) : PSs X e t' := ⟨fun pins s σ H D I q => h.run pins s σ H D I (i _ _ _ q)⟩
theorem _root_.L2.PG.imp {X : Cx} {e : Expr} {t t' : TG} (h : PG X e t) (i : ∀ v σ H Q, t' v σ H Q → t v σ H Q) : PG X e t' := ⟨fun pins s σ H v u Q I r q => h.run pins s σ H v u Q I r (i _ _ _ _ q)⟩
theorem _root_.L2.PGs.imp {X : Cx} {e : List Expr} {t t' : TGs} (h : PGs X e t) (i : ∀ v σ H Q, t' v σ H Q → t v σ H Q) : PGs X e t' := ⟨fun pins s σ H vs us Q I r q => h.run pins s σ H vs us Q I r (i _ _ _ _ q)⟩
theorem _root_.L2.PI.imp {X : Cx} {tg e : Expr} {t t' : TI} (h : PI X tg e t) (i : ∀ σ H Q, t' σ H Q → t σ H Q) : PI X tg e t' := ⟨fun pins s σ H R I q => h.run pins s σ H R I (i _ _ _ q)⟩
theorem _root_.L2.PTs.imp {X : Cx} {e : List Expr} {t t' : TT} (h : PTs X e t) (i : ∀ σ H Q, t' σ H Q → t σ H Q) : PTs X e t' := ⟨fun pins s σ H Q I q => h.run pins s σ H Q I (i _ _ _ q)⟩

/-! ### the meanings -/
def mb {α β : Type} (m : M α) (k : α → M β) : M β := fun ε => match m ε with
  | some (a, ε1) => k a ε1
  | none => none
def mr {α : Type} (a : α) : M α := fun ε => some (a, ε)
def mo {α : Type} (o : Option α) : M α := fun ε => match o with
  | some a => some (a, ε)
  | none => none
/-- what is read, what is fixed -/
def mrd (l : L) : M D := fun ε => match l.rd ε with
  | some d => some (d, ε)
  | none => none
def mfz (l : L) : M D := l.fz
def mv (m : M D) : M L := mb m fun d => mr (.v d)
theorem mb_some {α β : Type} {m : M α} {k : α → M β} {ε ε2 : Env} {b : β} (h : mb m k ε = some (b, ε2)) : ∃ a ε1, m ε = some (a, ε1) ∧ k a ε1 = some (b, ε2) := by
  unfold mb at h
  split at h
  · rename_i a ε1 e; exact ⟨a, ε1, e, h⟩
  · cases h
theorem mo_some {α : Type} {o : Option α} {ε ε2 : Env} {b : α} (h : mo o ε = some (b, ε2)) : o = some b ∧ ε2 = ε := by
  unfold mo at h
  split at h
  · cases h; exact ⟨rfl, rfl⟩
  · cases h
theorem mrd_some {l : L} {ε ε2 : Env} {d : D} (h : mrd l ε = some (d, ε2)) : l.rd ε = some d ∧ ε2 = ε := by
  unfold mrd at h
  split at h
  · rename_i e; cases h; exact ⟨e, rfl⟩
  · cases h

section
variable {X : Cx} {mg : GX} {F F' F2 H H' H2 : Hp} {cs cs' cs2 : Nat → List Addr} {ε ε' : Env} {σ : St} {π : Nat → V}

theorem LR.mono {v : V} {l : L} (h : LR mg σ F v l) (s : Same F F') : LR mg σ F' v l := by
  cases l with
  | v d => exact Rep.mono s h
  | s i => exact h
theorem LRs.mono : ∀ {vs : List V} {ls : List L}, LRs mg σ F vs ls → Same F F' → LRs mg σ F' vs ls
  | _, _, .nil, _ => .nil
  | _, _, .cons h r, s => .cons (h.mono s) (LRs.mono r s)

/-! ### names and constants -/
def eVar (i : Nat) : M L := fun ε => match ε[i]? with
  | some (.sh d) => some (.v d, ε)
  | some (.ow _) => some (.s i, ε)
  | some (.pw _) => some (.s i, ε)
  | _ => none
theorem qe_var {i : Nat} {x : Str} {pos : Pos} (hN : X.N[i]? = some x := by rfl) (hv : Vis X.env.scope x := by first | exact Or.inl rfl | exact Or.inr (Or.inl rfl) | exact Or.inr (Or.inr rfl)) (hd : (x == ("__debug__" : Str)) = false := by decide) (hcd : (x == ("__classdict__" : Str)) = false := by decide) :
    PE X (.Name x pos) (tE X.gx (eVar i)) := by
  refine (pe_var (i := i) hN hv hd hcd).imp fun σ H Q h => ?_
  obtain ⟨π, ε, F, cs, R, l, ε', e, k⟩ := h
  unfold eVar at e
  split at e
  · rename_i q
    cases e
    obtain ⟨v, a, r, _⟩ := R.slot i _ q
    exact ⟨v, a, k v H F cs .refl R r⟩
  · rename_i q
    cases e
    obtain ⟨v, a, r⟩ := R.slot i _ q
    exact ⟨v, a, k v H F cs .refl R a⟩
  · rename_i q
    cases e
    obtain ⟨a, r⟩ := R.slot i _ q
    exact ⟨_, a, k _ H F cs .refl R a⟩
  · cases e
def eC (d : D) : M L := mr (.v d)
theorem tC_of {v : V} {d : D} (hr : ∀ F, Rep mg F v d) (σ : St) (H : Hp) (Q : VK) (h : tE mg (eC d) σ H Q) : tC v σ H Q := by
  obtain ⟨π, ε, F, cs, R, l, ε', e, k⟩ := h
  cases e
  exact k v H F cs .refl R (hr F)
theorem qe_int {i : Int} {j : Nat} {pos : Pos} : PE X (.Constant (.int i) j pos) (tE X.gx (eC (.int i))) := pe_int.imp (tC_of fun _ => .int i)
theorem qe_bl {b : Bool} {j : Nat} {pos : Pos} : PE X (.Constant (.bool b) j pos) (tE X.gx (eC (.bl b))) := pe_bl.imp (tC_of fun _ => .bl b)
theorem qe_non {j : Nat} {pos : Pos} : PE X (.Constant .none j pos) (tE X.gx (eC .non)) := pe_non.imp (tC_of fun _ => .non)
theorem qe_str {x : Str} {j : Nat} {pos : Pos} : PE X (.Constant (.str x) j pos) (tE X.gx (eC (.str x))) := pe_str.imp (tC_of fun _ => .str x)
theorem qe_gint {x : Str} {i : Int} {t : Tok} {pos : Pos} (hg : Gl X x) (hm : X.mg x = some (.int i t)) (hd : (x == ("__debug__" : Str)) = false := by decide) : PE X (.Name x pos) (tE X.gx (eC (.int i))) := (pe_glob (v := .int i) hg hm ⟨_, rfl⟩ hd).imp (tC_of fun _ => .int i)
theorem qe_gstr {x y : Str} {t : Tok} {pos : Pos} (hg : Gl X x) (hm : X.mg x = some (.str y t)) (hd : (x == ("__debug__" : Str)) = false := by decide) : PE X (.Name x pos) (tE X.gx (eC (.str y))) := (pe_glob (v := .str y) hg hm ⟨_, rfl⟩ hd).imp (tC_of fun _ => .str y)

/-! ### operators -/
/-- a rule by values told by plain data -/
def OpS (mg : GX) (r : R2) (g : D → D → Option D) : Prop := ∀ F H v w x y d Q, Same F H → Rd1 mg F H v x → Rd1 mg F H w y → g x y = some d →
  (∀ z F' H', Grow F H F' H' → Rep mg F' z d → Q z H') → r v w H Q
/-- .. that gives a new object -/
def OpN (mg : GX) (r : R2) (g : D → D → Option D) : Prop := ∀ F H v w x y d Q, Same F H → Rd1 mg F H v x → Rd1 mg F H w y → g x y = some d →
  (∀ p o, H p = none → Top mg F (upd H p o) p [p] d → Q (.ref p) (upd H p o)) → r v w H Q
def UnS (mg : GX) (r : V → Hp → VK → Prop) (g : D → Option D) : Prop := ∀ F H v x d Q, Same F H → Rd1 mg F H v x → g x = some d →
  (∀ z F' H', Grow F H F' H' → Rep mg F' z d → Q z H') → r v H Q
def UnN (mg : GX) (r : V → Hp → VK → Prop) (g : D → Option D) : Prop := ∀ F H v x d Q, Same F H → Rd1 mg F H v x → g x = some d →
  (∀ p o, H p = none → Top mg F (upd H p o) p [p] d → Q (.ref p) (upd H p o)) → r v H Q

theorem Top.new_rep {p : Addr} {o : HO} {d : D} (s : Same F H) (hp : H p = none) (t : Top mg F (upd H p o) p [p] d) : Rep mg (upd F p o) (.ref p) d := by
  have nf : F p = none := by
    cases q : F p with
    | none => rfl
    | some u => rw [s p u q] at hp; cases hp
  have h := t.fixed (fun b hb => by simp at hb; subst hb; exact nf)
  refine h.mono fun b x e => ?_
  unfold fixH at e
  split at e
  · rename_i hb; simp at hb; subst hb; rw [upd_same] at e ⊢; exact e
  · rename_i hb; simp at hb; rw [upd_ne hb]; exact e
theorem OpN.s {r : R2} {g : D → D → Option D} (h : OpN mg r g) : OpS mg r g := fun F H v w x y d Q s hv hw hg k =>
  h F H v w x y d Q s hv hw hg fun p o hp t => k _ _ _ (growUpd s hp) (t.new_rep s hp)
theorem UnN.s {r : V → Hp → VK → Prop} {g : D → Option D} (h : UnN mg r g) : UnS mg r g := fun F H v x d Q s hv hg k =>
  h F H v x d Q s hv hg fun p o hp t => k _ _ _ (growUpd s hp) (t.new_rep s hp)

def bin (g : D → D → Option D) (fa fb : M L) : M D := mb fa fun la => mb fb fun lb => mb (mrd la) fun x => mb (mrd lb) fun y => mo (g x y)
def un (g : D → Option D) (fa : M L) : M D := mb fa fun la => mb (mrd la) fun x => mo (g x)
theorem bin_some {g : D → D → Option D} {fa fb : M L} {ε ε2 : Env} {d : D} (h : bin g fa fb ε = some (d, ε2)) :
    ∃ la ε1 lb x y, fa ε = some (la, ε1) ∧ fb ε1 = some (lb, ε2) ∧ la.rd ε2 = some x ∧ lb.rd ε2 = some y ∧ g x y = some d := by
  obtain ⟨la, ε1, h1, k1⟩ := mb_some h
  obtain ⟨lb, ε2', h2, k2⟩ := mb_some k1
  obtain ⟨x, ε3, h3, k3⟩ := mb_some k2
  obtain ⟨y, ε4, h4, k4⟩ := mb_some k3
  obtain ⟨h3, rfl⟩ := mrd_some h3
  obtain ⟨h4, rfl⟩ := mrd_some h4
  obtain ⟨h5, rfl⟩ := mo_some k4
  exact ⟨la, ε1, lb, x, y, h1, h2, h3, h4, h5⟩
theorem un_some {g : D → Option D} {fa : M L} {ε ε2 : Env} {d : D} (h : un g fa ε = some (d, ε2)) :
    ∃ la x, fa ε = some (la, ε2) ∧ la.rd ε2 = some x ∧ g x = some d := by
  obtain ⟨la, ε1, h1, k1⟩ := mb_some h
  obtain ⟨x, ε3, h3, k2⟩ := mb_some k1
  obtain ⟨h3, rfl⟩ := mrd_some h3
  obtain ⟨h5, rfl⟩ := mo_some k2
  exact ⟨la, x, h1, h3, h5⟩
theorem mv_some {m : M D} {l : L} {ε ε2 : Env} (h : mv m ε = some (l, ε2)) : ∃ d, m ε = some (d, ε2) ∧ l = .v d := by
  obtain ⟨d, ε1, h1, h⟩ := mb_some h
  cases h
  exact ⟨d, h1, rfl⟩

theorem tOp_of {r : R2} {g : D → D → Option D} (hs : OpS mg r g) {fa fb : M L} (σ : St) (H : Hp) (Q : VK) (h : tE mg (mv (bin g fa fb)) σ H Q) : tOp r (tE mg fa) (tE mg fb) σ H Q := by
  obtain ⟨π, ε, F, cs, R, l, ε', e, k⟩ := h
  obtain ⟨d, e0, rfl⟩ := mv_some e
  obtain ⟨la, ε1, lb, x, y, h1, h2, h3, h4, h5⟩ := bin_some e0
  refine ⟨π, ε, F, cs, R, la, ε1, h1, fun v H1 F1 cs1 s1 R1 r1 => ?_⟩
  refine ⟨π, ε1, F1, cs1, R1, lb, ε', h2, fun w H2 F2 cs2 s2 R2 r2 => ?_⟩
  refine hs F2 H2 v w x y d Q R2.sub (R2.rd (r1.mono s2.same) h3) (R2.rd r2 h4) h5 fun z F3 H3 gr rz => ?_
  exact k z H3 F3 cs2 ((s1.trans s2).trans (gr.stp R2.sub)) (R2.grow gr) rz
theorem tOp_ofN {r : R2} {g : D → D → Option D} (hs : OpN mg r g) {fa fb : M L} (σ : St) (H : Hp) (Q : VK) (h : tN mg (bin g fa fb) σ H Q) : tOp r (tE mg fa) (tE mg fb) σ H Q := by
  obtain ⟨π, ε, F, cs, R, d, ε', e, k⟩ := h
  obtain ⟨la, ε1, lb, x, y, h1, h2, h3, h4, h5⟩ := bin_some e
  refine ⟨π, ε, F, cs, R, la, ε1, h1, fun v H1 F1 cs1 s1 R1 r1 => ?_⟩
  refine ⟨π, ε1, F1, cs1, R1, lb, ε', h2, fun w H2 F2 cs2 s2 R2 r2 => ?_⟩
  refine hs F2 H2 v w x y d Q R2.sub (R2.rd (r1.mono s2.same) h3) (R2.rd r2 h4) h5 fun p o hp t => ?_
  have st := s1.trans s2
  have hF : F2 p = none := by
    cases q : F2 p with
    | none => rfl
    | some u => rw [R2.sub p u q] at hp; cases hp
  have R3 : ER mg π ε' σ (upd H2 p o) F2 cs2 := ⟨R2.len, fun b u e => by rw [upd_ne (ne_of_none (R2.sub b u e) hp)]; exact R2.sub b u e, fun i s e => (R2.slot i s e).keepH (Same.refl _) fun b hb u e => by rw [upd_ne (ne_of_none e hp)]; exact e, R2.off, R2.nf, R2.dj⟩
  refine k p [p] (upd H2 p o) F2 cs2 (st.trans ⟨Same.refl _, fun b u e => ⟨u, by rw [upd_ne (ne_of_none e hp)]; exact e⟩, fun b u e n c => ⟨by rw [upd_ne (ne_of_none e hp)]; exact e, n, c⟩⟩) R3 t fun q hq => ?_
  simp at hq; subst hq
  refine ⟨?_, hF, fun i hi => ?_⟩
  · cases z : H q with
    | none => rfl
    | some u => obtain ⟨u', e'⟩ := st.sol q u z; rw [e'] at hp; cases hp
  · obtain ⟨u, e'⟩ := R2.cells i q hi; rw [e'] at hp; cases hp
theorem tUn_of {r : V → Hp → VK → Prop} {g : D → Option D} (hs : UnS mg r g) {fa : M L} (σ : St) (H : Hp) (Q : VK) (h : tE mg (mv (un g fa)) σ H Q) : tUn r (tE mg fa) σ H Q := by
  obtain ⟨π, ε, F, cs, R, l, ε', e, k⟩ := h
  obtain ⟨d, e0, rfl⟩ := mv_some e
  obtain ⟨la, x, h1, h3, h5⟩ := un_some e0
  refine ⟨π, ε, F, cs, R, la, ε', h1, fun v H1 F1 cs1 s1 R1 r1 => ?_⟩
  refine hs F1 H1 v x d Q R1.sub (R1.rd r1 h3) h5 fun z F3 H3 gr rz => ?_
  exact k z H3 F3 cs1 (s1.trans (gr.stp R1.sub)) (R1.grow gr) rz
theorem ER.newCell {p : Addr} {o : HO} (R : ER mg π ε σ H F cs) (hp : H p = none) : ER mg π ε σ (upd H p o) F cs :=
  ⟨R.len, fun b u e => by rw [upd_ne (ne_of_none (R.sub b u e) hp)]; exact R.sub b u e, fun i s e => (R.slot i s e).keepH (Same.refl _) fun b hb u e => by rw [upd_ne (ne_of_none e hp)]; exact e, R.off, R.nf, R.dj⟩
theorem Stp.newCell {p : Addr} {o : HO} (hp : H p = none) : Stp H F cs (upd H p o) F cs :=
  ⟨Same.refl _, fun b u e => ⟨u, by rw [upd_ne (ne_of_none e hp)]; exact e⟩, fun b u e n c => ⟨by rw [upd_ne (ne_of_none e hp)]; exact e, n, c⟩⟩
theorem ER.freshF (R : ER mg π ε σ H F cs) {p : Addr} (hp : H p = none) : F p = none := by
  cases q : F p with
  | none => rfl
  | some u => rw [R.sub p u q] at hp; cases hp
theorem ER.freshC (R : ER mg π ε σ H F cs) {p : Addr} (hp : H p = none) (i : Nat) : p ∉ cs i := fun hi => by
  obtain ⟨u, e'⟩ := R.cells i p hi; rw [e'] at hp; cases hp
theorem Stp.fresh (s : Stp H F cs H' F' cs') {p : Addr} (hp : H' p = none) : H p = none := by
  cases z : H p with
  | none => rfl
  | some u => obtain ⟨u', e'⟩ := s.sol p u z; rw [e'] at hp; cases hp
theorem tUn_ofN {r : V → Hp → VK → Prop} {g : D → Option D} (hs : UnN mg r g) {fa : M L} (σ : St) (H : Hp) (Q : VK) (h : tN mg (un g fa) σ H Q) : tUn r (tE mg fa) σ H Q := by
  obtain ⟨π, ε, F, cs, R, d, ε', e, k⟩ := h
  obtain ⟨la, x, h1, h3, h5⟩ := un_some e
  refine ⟨π, ε, F, cs, R, la, ε', h1, fun v H1 F1 cs1 s1 R1 r1 => ?_⟩
  refine hs F1 H1 v x d Q R1.sub (R1.rd r1 h3) h5 fun p o hp t => ?_
  refine k p [p] (upd H1 p o) F1 cs1 (s1.trans (.newCell hp)) (R1.newCell hp) t fun q hq => ?_
  simp at hq; subst hq
  exact ⟨s1.fresh hp, R1.freshF hp, R1.freshC hp⟩
/-- a new object is fixed at once -/
theorem tN_tE {f : M D} (σ : St) (H : Hp) (Q : VK) (h : tE mg (mv f) σ H Q) : tN mg f σ H Q := by
  obtain ⟨π, ε, F, cs, R, l, ε', e, k⟩ := h
  obtain ⟨d, e0, rfl⟩ := mv_some e
  refine ⟨π, ε, F, cs, R, d, ε', e0, fun a l H1 F1 cs1 s1 R1 t hl => ?_⟩
  have nf : ∀ p ∈ l, F1 p = none := fun p hp => (hl p hp).2.1
  have sF : Same F1 (fixH F1 H1 l) := fix_same nf
  refine k (.ref a) H1 (fixH F1 H1 l) cs1 ⟨s1.same.trans sF, s1.sol, fun b o hb hn hc => ?_⟩ ⟨R1.len, fun b o e => ?_, fun i s e => (R1.slot i s e).keepH sF fun _ _ _ e => e, R1.off, fun i p hp => ?_, R1.dj⟩ (t.fixed nf)
  · obtain ⟨h1, n1, c1⟩ := s1.frn b o hb hn hc
    refine ⟨h1, ?_, c1⟩
    unfold fixH
    rw [if_neg fun hi => by rw [(hl b hi).1] at hb; cases hb]
    exact n1
  · unfold fixH at e
    split at e
    · exact e
    · exact R1.sub b o e
  · unfold fixH
    rw [if_neg fun hi => (hl p hi).2.2 i hp]
    exact R1.nf i p hp
theorem qe_new {e : Expr} {f : M D} (h : PE X e (tN X.gx f)) : PE X e (tE X.gx (mv f)) := h.imp tN_tE

section
variable {a b : Expr} {fa fb : M L} {pos : Pos} {g : D → D → Option D} {r : R2}
theorem qe_op {op : Operator} (ho : OpR X (binaryOp op) r) (hs : OpS X.gx r g) (ha : PE X a (tE X.gx fa)) (hb : PE X b (tE X.gx fb)) : PE X (.BinOp a op b pos) (tE X.gx (mv (bin g fa fb))) := (pe_op ho ha hb).imp (tOp_of hs)
theorem qn_op {op : Operator} (ho : OpR X (binaryOp op) r) (hs : OpN X.gx r g) (ha : PE X a (tE X.gx fa)) (hb : PE X b (tE X.gx fb)) : PE X (.BinOp a op b pos) (tN X.gx (bin g fa fb)) := (pe_op ho ha hb).imp (tOp_ofN hs)
theorem qe_cmp {op : CmpOp} (ho : OpR X (compareOp op) r) (hs : OpS X.gx r g) (ha : PE X a (tE X.gx fa)) (hb : PE X b (tE X.gx fb)) (hm : behindInMarks op b = false) : PE X (.Compare a [op] [b] pos) (tE X.gx (mv (bin g fa fb))) := (pe_cmpR ho ha hb hm).imp (tOp_of hs)
theorem qe_un {op : UnaryOp} {r : V → Hp → VK → Prop} {g : D → Option D} (ho : UnR X (unaryOp op) r) (hs : UnS X.gx r g) (ha : PE X a (tE X.gx fa)) : PE X (.UnaryOp op a pos) (tE X.gx (mv (un g fa))) := (pe_un ho ha).imp (tUn_of hs)
theorem qe_ix (hr : IxR X r) (hs : OpS X.gx r g) (ha : PE X a (tE X.gx fa)) (hb : PE X b (tE X.gx fb)) (hp : PlainIx b) : PE X (.Subscript a b pos) (tE X.gx (mv (bin g fa fb))) := (pe_ix hr ha hb hp).imp (tOp_of hs)
end

/-! ### tests, and, or, not, if -/
def asB : D → Option Bool
  | .bl b => some b
  | _ => none
def cB (f : M L) : M Bool := mb f fun l => mb (mrd l) fun d => mo (asB d)
theorem asB_some {d : D} {b : Bool} (h : asB d = some b) : d = .bl b := by
  cases d <;> simp [asB] at h
  subst h; rfl
theorem cB_some {f : M L} {b : Bool} (h : cB f ε = some (b, ε')) : ∃ l, f ε = some (l, ε') ∧ l.rd ε' = some (.bl b) := by
  obtain ⟨l, ε1, h1, k1⟩ := mb_some h
  obtain ⟨d, ε2, h2, k2⟩ := mb_some k1
  obtain ⟨h2, rfl⟩ := mrd_some h2
  obtain ⟨h3, rfl⟩ := mo_some k2
  exact ⟨l, h1, by rw [h2, asB_some h3]⟩
theorem tB_of {f : M L} (σ : St) (H : Hp) (Q : Bool → Hp → Prop) (h : tT mg (cB f) σ H Q) : tB (tE mg f) σ H Q := by
  obtain ⟨π, ε, F, cs, R, b, ε', e, k⟩ := h
  obtain ⟨l, e1, e2⟩ := cB_some e
  refine ⟨π, ε, F, cs, R, l, ε', e1, fun v H1 F1 cs1 s1 R1 r1 => ?_⟩
  exact ⟨b, (R1.rd r1 e2).bl, k H1 F1 cs1 s1 R1⟩
def cAnd (f g : M Bool) : M Bool := mb f fun b => if b then g else mr false
def cOr (f g : M Bool) : M Bool := mb f fun b => if b then mr true else g
def cNot (f : M Bool) : M Bool := mb f fun b => mr (!b)
def eAnd (f : M L) (g : M L) : M L := mb (cB f) fun b => if b then g else mr (.v (.bl false))
def eOr (f : M L) (g : M L) : M L := mb (cB f) fun b => if b then mr (.v (.bl true)) else g
def eNot (f : M L) : M L := mb (cB f) fun b => mr (.v (.bl (!b)))
def eIf (c : M Bool) (f g : M L) : M L := mb c fun b => if b then f else g
section
variable {a b c : Expr} {rest : List Expr} {pos : Pos} {fa fb : M Bool} {f g : M L}
theorem qt_val (h : PE X a (tE X.gx f)) (he : ∀ whole, isTrue a X.env whole = (do let v ← whole; standAt a.pos; holding [v] (truthy v)) := by intro _; rfl) : PT X a (tT X.gx (cB f)) := (pt_val h he).imp tB_of
theorem qw_and1 (ha : PT X a (tT X.gx fa)) : PW X (.BoolOp .And [a] pos) (tT X.gx fa) := pw_and1 ha
theorem qw_or1 (ha : PT X a (tT X.gx fa)) : PW X (.BoolOp .Or [a] pos) (tT X.gx fa) := pw_or1 ha
theorem qw_and (ha : PT X a (tT X.gx fa)) (hb : PW X (.BoolOp .And (b :: rest) pos) (tT X.gx fb)) : PW X (.BoolOp .And (a :: b :: rest) pos) (tT X.gx (cAnd fa fb)) := (pw_and ha hb).imp fun σ H Q h => by
  obtain ⟨π, ε, F, cs, R, b, ε', e, k⟩ := h
  obtain ⟨c, ε1, h1, h⟩ := mb_some e
  refine ⟨π, ε, F, cs, R, c, ε1, h1, fun H1 F1 cs1 s1 R1 => ?_⟩
  cases c with
  | true => exact iteT ⟨π, ε1, F1, cs1, R1, b, ε', h, fun H2 F2 cs2 s2 R2 => k H2 F2 cs2 (s1.trans s2) R2⟩
  | false => cases h; exact iteF (k H1 F1 cs1 s1 R1)
theorem qw_or (ha : PT X a (tT X.gx fa)) (hb : PW X (.BoolOp .Or (b :: rest) pos) (tT X.gx fb)) : PW X (.BoolOp .Or (a :: b :: rest) pos) (tT X.gx (cOr fa fb)) := (pw_or ha hb).imp fun σ H Q h => by
  obtain ⟨π, ε, F, cs, R, b, ε', e, k⟩ := h
  obtain ⟨c, ε1, h1, h⟩ := mb_some e
  refine ⟨π, ε, F, cs, R, c, ε1, h1, fun H1 F1 cs1 s1 R1 => ?_⟩
  cases c with
  | true => cases h; exact iteT (k H1 F1 cs1 s1 R1)
  | false => exact iteF ⟨π, ε1, F1, cs1, R1, b, ε', h, fun H2 F2 cs2 s2 R2 => k H2 F2 cs2 (s1.trans s2) R2⟩
theorem qt_not (ha : PT X a (tT X.gx fa)) : PT X (.UnaryOp .Not a pos) (tT X.gx (cNot fa)) := (pt_not ha).imp fun σ H Q h => by
  obtain ⟨π, ε, F, cs, R, b, ε', e, k⟩ := h
  obtain ⟨c, ε1, h1, h⟩ := mb_some e
  cases h
  exact ⟨π, ε, F, cs, R, c, ε', h1, k⟩
theorem qe_one {op} (h : PE X a (tE X.gx f)) : PE X (.BoolOp op [a] pos) (tE X.gx f) := pe_one h
theorem qe_and (ha : PE X a (tE X.gx f)) (hb : PE X (.BoolOp .And (b :: rest) pos) (tE X.gx g)) : PE X (.BoolOp .And (a :: b :: rest) pos) (tE X.gx (eAnd f g)) := (pe_and ha hb).imp fun σ H Q h => by
  obtain ⟨π, ε, F, cs, R, l, ε', e, k⟩ := h
  obtain ⟨c, ε1, h1, h⟩ := mb_some e
  obtain ⟨l1, e1, e2⟩ := cB_some h1
  refine ⟨π, ε, F, cs, R, l1, ε1, e1, fun v H1 F1 cs1 s1 R1 r1 => ⟨c, (R1.rd r1 e2).bl, ?_⟩⟩
  cases c with
  | true => exact iteT ⟨π, ε1, F1, cs1, R1, l, ε', h, fun v H2 F2 cs2 s2 R2 r2 => k v H2 F2 cs2 (s1.trans s2) R2 r2⟩
  | false => cases h; exact iteF (k _ H1 F1 cs1 s1 R1 (.bl false))
theorem qe_or (ha : PE X a (tE X.gx f)) (hb : PE X (.BoolOp .Or (b :: rest) pos) (tE X.gx g)) : PE X (.BoolOp .Or (a :: b :: rest) pos) (tE X.gx (eOr f g)) := (pe_or ha hb).imp fun σ H Q h => by
  obtain ⟨π, ε, F, cs, R, l, ε', e, k⟩ := h
  obtain ⟨c, ε1, h1, h⟩ := mb_some e
  obtain ⟨l1, e1, e2⟩ := cB_some h1
  refine ⟨π, ε, F, cs, R, l1, ε1, e1, fun v H1 F1 cs1 s1 R1 r1 => ⟨c, (R1.rd r1 e2).bl, ?_⟩⟩
  cases c with
  | true => cases h; exact iteT (k _ H1 F1 cs1 s1 R1 (.bl true))
  | false => exact iteF ⟨π, ε1, F1, cs1, R1, l, ε', h, fun v H2 F2 cs2 s2 R2 r2 => k v H2 F2 cs2 (s1.trans s2) R2 r2⟩
theorem qe_not (ha : PE X a (tE X.gx f)) : PE X (.UnaryOp .Not a pos) (tE X.gx (eNot f)) := (pe_not ha).imp fun σ H Q h => by
  obtain ⟨π, ε, F, cs, R, l, ε', e, k⟩ := h
  obtain ⟨c, ε1, h1, h⟩ := mb_some e
  obtain ⟨l1, e1, e2⟩ := cB_some h1
  cases h
  exact ⟨π, ε, F, cs, R, l1, ε', e1, fun v H1 F1 cs1 s1 R1 r1 => ⟨c, (R1.rd r1 e2).bl, k _ H1 F1 cs1 s1 R1 (.bl _)⟩⟩
theorem qe_ifExp (hc : PT X c (tT X.gx fa)) (ha : PE X a (tE X.gx f)) (hb : PE X b (tE X.gx g)) : PE X (.IfExp c a b pos) (tE X.gx (eIf fa f g)) := (pe_ifExp hc ha hb).imp fun σ H Q h => by
  obtain ⟨π, ε, F, cs, R, l, ε', e, k⟩ := h
  obtain ⟨c, ε1, h1, h⟩ := mb_some e
  refine ⟨π, ε, F, cs, R, c, ε1, h1, fun H1 F1 cs1 s1 R1 => ?_⟩
  cases c with
  | true => exact iteT ⟨π, ε1, F1, cs1, R1, l, ε', h, fun v H2 F2 cs2 s2 R2 r2 => k v H2 F2 cs2 (s1.trans s2) R2 r2⟩
  | false => exact iteF ⟨π, ε1, F1, cs1, R1, l, ε', h, fun v H2 F2 cs2 s2 R2 r2 => k v H2 F2 cs2 (s1.trans s2) R2 r2⟩
end

/-! ### argument lists -/
def aNil : M (List L) := mr []
def aCons (f : M L) (g : M (List L)) : M (List L) := mb f fun l => mb g fun ls => mr (l :: ls)
theorem qa_nil : PA X [] (tA X.gx aNil) := pa_nil.imp fun σ H Q h => by
  obtain ⟨π, ε, F, cs, R, l, ε', e, k⟩ := h
  cases e
  exact k [] H F cs .refl R .nil
theorem aCons_some {f : M L} {g : M (List L)} {ls : List L} (h : aCons f g ε = some (ls, ε')) : ∃ l ε1 r, f ε = some (l, ε1) ∧ g ε1 = some (r, ε') ∧ ls = l :: r := by
  obtain ⟨l, ε1, h1, h⟩ := mb_some h
  obtain ⟨r, ε2, h2, h⟩ := mb_some h
  cases h
  exact ⟨l, ε1, r, h1, h2, rfl⟩
theorem qa_cons {e : Expr} {es : List Expr} {f : M L} {g : M (List L)} (ha : PE X e (tE X.gx f)) (hr : PA X es (tA X.gx g)) (hs : starEach (e :: es) X.env = (false, eval e X.env) :: starEach es X.env := by rfl) :
    PA X (e :: es) (tA X.gx (aCons f g)) := (pa_cons ha hr hs).imp fun σ H Q h => by
  obtain ⟨π, ε, F, cs, R, ls, ε', e, k⟩ := h
  obtain ⟨l, ε1, r, h1, h2, rfl⟩ := aCons_some e
  refine ⟨π, ε, F, cs, R, l, ε1, h1, fun v H1 F1 cs1 s1 R1 r1 => ?_⟩
  exact ⟨π, ε1, F1, cs1, R1, r, ε', h2, fun vs H2 F2 cs2 s2 R2 r2 => k (v :: vs) H2 F2 cs2 (s1.trans s2) R2 (.cons (r1.mono s2.same) r2)⟩
/-- all are fixed, one after another -/
def fzAll : List L → M (List D)
  | [] => mr []
  | l :: r => mb (mfz l) fun d => mb (fzAll r) fun ds => mr (d :: ds)
theorem ER.fzAll : ∀ {ls : List L} {vs : List V} {ds : List D} {F : Hp} {cs : Nat → List Addr} {ε : Env} (R : ER mg π ε σ H F cs) (h : LRs mg σ F vs ls) (e : fzAll ls ε = some (ds, ε')),
    ∃ F' cs', Stp H F cs H F' cs' ∧ ER mg π ε' σ H F' cs' ∧ RepAll mg F' vs ds
  | [], _, _, F, cs, _, R, .nil, e => by
    cases e
    exact ⟨F, cs, .refl, R, .nil⟩
  | l :: r, _, _, F, cs, ε, R, .cons h1 h2, e => by
    obtain ⟨d, ε1, e1, e⟩ := mb_some e
    obtain ⟨ds, ε2, e2, e⟩ := mb_some e
    cases e
    obtain ⟨F1, cs1, s1, R1, r1⟩ := R.fz h1 e1
    obtain ⟨F2, cs2, s2, R2, r2⟩ := ER.fzAll R1 (h2.mono s1.same) e2
    exact ⟨F2, cs2, s1.trans s2, R2, .cons (r1.mono s2.same) r2⟩
/-- displays -/
def mTup (g : M (List L)) : M D := mb g fun ls => mb (fzAll ls) fun ds => mr (.tup ds)
def mLst (g : M (List L)) : M D := mb g fun ls => mb (fzAll ls) fun ds => mr (.lst ds)
def LenA (g : M (List L)) (n : Nat) : Prop := ∀ ε ls ε', g ε = some (ls, ε') → ls.length = n
theorem lenA_nil : LenA aNil 0 := fun ε ls ε' h => by cases h; rfl
theorem lenA_cons {f : M L} {g : M (List L)} {n : Nat} (h : LenA g n) : LenA (aCons f g) (n + 1) := fun ε ls ε' e => by
  obtain ⟨l, ε1, r, h1, h2, rfl⟩ := aCons_some e
  rw [List.length_cons, h _ _ _ h2]
theorem LRs.length : ∀ {vs : List V} {ls : List L}, LRs mg σ F vs ls → vs.length = ls.length
  | _, _, .nil => rfl
  | _, _, .cons _ r => congrArg (· + 1) (LRs.length r)
section
variable {es : List Expr} {g : M (List L)} {pos : Pos}
theorem qe_tup {x1} {n : Nat} (h : PA X es (tA X.gx g)) (hl : LenA g n) (hn : n ≤ 1000 := by decide) : PE X (.Tuple es x1 pos) (tE X.gx (mv (mTup g))) := (pe_tup h).imp fun σ H Q q => by
  obtain ⟨π, ε, F, cs, R, l, ε', e, k⟩ := q
  obtain ⟨d, e0, rfl⟩ := mv_some e
  obtain ⟨ls, ε1, e1, e2⟩ := mb_some e0
  obtain ⟨ds, ε2, e3, e4⟩ := mb_some e2
  cases e4
  refine ⟨π, ε, F, cs, R, ls, ε1, e1, fun vs H1 F1 cs1 s1 R1 r1 => ?_⟩
  have hz : vs.length ≤ sizeLine := by rw [r1.length, hl _ _ _ e1]; exact Nat.le_trans hn (by decide)
  refine ⟨hz, fun p hp => ?_⟩
  obtain ⟨F2, cs2, s2, R2, r2⟩ := R1.fzAll r1 e3
  have gr := growUpd (o := HO.tup vs) R2.sub hp
  exact k _ _ _ cs2 ((s1.trans s2).trans (gr.stp R2.sub)) (R2.grow gr) (.tup upd_same hz (r2.mono (gr.same R2.sub)))
theorem qn_lst {n : Nat} (h : PA X es (tA X.gx g)) (hl : LenA g n) (hn : n ≤ 1000 := by decide) : PE X (.List es pos) (tN X.gx (mLst g)) := (pe_lst h).imp fun σ H Q q => by
  obtain ⟨π, ε, F, cs, R, d, ε', e, k⟩ := q
  obtain ⟨ls, ε1, e1, e2⟩ := mb_some e
  obtain ⟨ds, ε2, e3, e4⟩ := mb_some e2
  cases e4
  refine ⟨π, ε, F, cs, R, ls, ε1, e1, fun vs H1 F1 cs1 s1 R1 r1 => ?_⟩
  have hz : vs.length ≤ sizeLine := by rw [r1.length, hl _ _ _ e1]; exact Nat.le_trans hn (by decide)
  refine ⟨hz, fun p hp => ?_⟩
  obtain ⟨F2, cs2, s2, R2, r2⟩ := R1.fzAll r1 e3
  refine k p [p] (upd H1 p (.lst vs)) F2 cs2 ((s1.trans s2).trans (.newCell hp)) (R2.newCell hp) ⟨vs, upd_same, hz, r2, rfl⟩ fun q hq => ?_
  simp at hq; subst hq
  exact ⟨(s1.trans s2).fresh hp, R2.freshF hp, R2.freshC hp⟩
end
end
end Q

namespace Q
open PySem PySem.Spec L2

/-! ### statements -/
def gNil : S := fun ε => some (.nx ε)
def gSeq (f g : S) : S := fun ε => match f ε with
  | some (.nx ε1) => g ε1
  | some (.rt d ε1) => some (.rt d ε1)
  | some (.bk ε1) => some (.bk ε1)
  | some (.ct ε1) => some (.ct ε1)
  | none => none
def gIf (c : M Bool) (f g : S) : S := fun ε => match c ε with
  | some (true, ε1) => f ε1
  | some (false, ε1) => g ε1
  | none => none
def gX (f : M L) : S := fun ε => match f ε with
  | some (_, ε1) => some (.nx ε1)
  | none => none
def gRet (f : M L) : S := fun ε => match mb f mfz ε with
  | some (d, ε1) => some (.rt d ε1)
  | none => none
def gRetN : S := fun ε => some (.rt .non ε)
def gBk : S := fun ε => some (.bk ε)
def gCt : S := fun ε => some (.ct ε)
def gSet (i : Nat) (f : M L) : S := fun ε => match mb f mfz ε with
  | some (d, ε1) => some (.nx (ε1.set i (.sh d)))
  | none => none
def gSetN (i : Nat) (f : M D) : S := fun ε => match f ε with
  | some (d, ε1) => if i < ε1.length then some (.nx (ε1.set i (.ow (.flat d)))) else none
  | none => none
/-- name op= e, by what is fixed -/
def gAug (i : Nat) (g : D → D → Option D) (f : M L) : S := fun ε => match ε[i]? with
  | some (.sh x) => match f ε with
    | some (l, ε1) => match l.rd ε1 with
      | some y => match g x y with
        | some d => some (.nx (ε1.set i (.sh d)))
        | none => none
      | none => none
    | none => none
  | _ => none

section
variable {X : Cx} {mg : GX} {F F' F2 F1 H H' H2 H1 : Hp} {cs cs' cs2 cs1 : Nat → List Addr} {ε ε' : Env} {σ : St} {π : Nat → V} {Dn : Ends}

theorem EndOk.next {o : Out} (k : EndOk mg π Dn H F cs o) (s : Stp H F cs H1 F1 cs1) : EndOk mg π Dn H1 F1 cs1 o := by
  cases o with
  | nx ε => exact fun σ' H' F' cs' s' R => k σ' H' F' cs' (s.trans s') R
  | rt d ε => exact fun v σ' H' F' cs' s' R r => k v σ' H' F' cs' (s.trans s') R r
  | bk ε => exact fun σ' H' F' cs' s' R => k σ' H' F' cs' (s.trans s') R
  | ct ε => exact fun σ' H' F' cs' s' R => k σ' H' F' cs' (s.trans s') R

theorem qs_nil : PSs X [] (tS X.gx gNil) := pss_nil.imp fun D σ H h => by
  obtain ⟨π, ε, F, cs, R, o, e, k⟩ := h
  cases e
  exact k σ H F cs .refl R
section
variable {st : Stmt} {rest : List Stmt} {f g : S} {a b c : Expr} {fa fb : M L} {fc : M Bool} {fn : M D} {pos : Pos}
theorem qs_one (h1 : PS X st (tS X.gx f)) : PSs X [st] (tS X.gx f) := pss_one h1
theorem qs_cons (h1 : PS X st (tS X.gx f)) (h2 : PSs X rest (tS X.gx g)) : PSs X (st :: rest) (tS X.gx (gSeq f g)) := (pss_cons h1 h2).imp fun D σ H h => by
  obtain ⟨π, ε, F, cs, R, o, e, k⟩ := h
  unfold gSeq at e
  split at e
  · rename_i ε1 q
    exact ⟨π, ε, F, cs, R, _, q, fun σ' H' F' cs' s R' => ⟨π, ε1, F', cs', R', o, e, k.next s⟩⟩
  · rename_i d ε1 q
    cases e
    exact ⟨π, ε, F, cs, R, _, q, k⟩
  · rename_i ε1 q
    cases e
    exact ⟨π, ε, F, cs, R, _, q, k⟩
  · rename_i ε1 q
    cases e
    exact ⟨π, ε, F, cs, R, _, q, k⟩
  · cases e
theorem qs_if {p q : List Stmt} (hc : PT X c (tT X.gx fc)) (ha : PSs X p (tS X.gx f)) (hb : PSs X q (tS X.gx g)) : PS X (.If c p q pos) (tS X.gx (gIf fc f g)) := (ps_if hc ha hb).imp fun D σ H h => by
  obtain ⟨π, ε, F, cs, R, o, e, k⟩ := h
  unfold gIf at e
  split at e
  · rename_i ε1 q
    exact ⟨π, ε, F, cs, R, _, _, q, fun H' F' cs' s R' => iteT ⟨π, ε1, F', cs', R', o, e, k.next s⟩⟩
  · rename_i ε1 q
    exact ⟨π, ε, F, cs, R, _, _, q, fun H' F' cs' s R' => iteF ⟨π, ε1, F', cs', R', o, e, k.next s⟩⟩
  · cases e
theorem qs_expr (he : PE X a (tE X.gx fa)) (hs : swapsWith a none pos.line X.env = pure false := by rfl) : PS X (.Expr a pos) (tS X.gx (gX fa)) := (ps_expr he hs).imp fun D σ H h => by
  obtain ⟨π, ε, F, cs, R, o, e, k⟩ := h
  unfold gX at e
  split at e
  · rename_i l ε1 q
    cases e
    exact ⟨π, ε, F, cs, R, _, _, q, fun v H' F' cs' s R' _ => k σ H' F' cs' s R'⟩
  · cases e
theorem qs_doc {x j pos pos'} : PS X (.Expr (.Constant (.str x) j pos) pos') (tS X.gx gNil) := ps_doc.imp fun D σ H h => by
  obtain ⟨π, ε, F, cs, R, o, e, k⟩ := h
  cases e
  exact k σ H F cs .refl R
theorem qs_pass : PS X (.Pass pos) (tS X.gx gNil) := ps_pass.imp fun D σ H h => by
  obtain ⟨π, ε, F, cs, R, o, e, k⟩ := h
  cases e
  exact k σ H F cs .refl R
theorem qs_break : PS X (.Break pos) (tS X.gx gBk) := ps_break.imp fun D σ H h => by
  obtain ⟨π, ε, F, cs, R, o, e, k⟩ := h
  cases e
  exact k σ H F cs .refl R
theorem qs_continue : PS X (.Continue pos) (tS X.gx gCt) := ps_continue.imp fun D σ H h => by
  obtain ⟨π, ε, F, cs, R, o, e, k⟩ := h
  cases e
  exact k σ H F cs .refl R
theorem qs_ret (he : PE X a (tE X.gx fa)) : PS X (.Return (some a) pos) (tS X.gx (gRet fa)) := (ps_ret he).imp fun D σ H h => by
  obtain ⟨π, ε, F, cs, R, o, e, k⟩ := h
  unfold gRet at e
  split at e
  · rename_i d ε1 q
    cases e
    obtain ⟨l, ε2, q1, q2⟩ := mb_some q
    refine ⟨π, ε, F, cs, R, l, ε2, q1, fun v H1 F1 cs1 s1 R1 r1 => ?_⟩
    obtain ⟨F2, cs2, s2, R2, r2⟩ := R1.fz r1 q2
    exact k v σ H1 F2 cs2 (s1.trans s2) R2 r2
  · cases e
theorem qs_retN : PS X (.Return none pos) (tS X.gx gRetN) := ps_retN.imp fun D σ H h => by
  obtain ⟨π, ε, F, cs, R, o, e, k⟩ := h
  cases e
  exact k .non σ H F cs .refl R .non
end

/-! ### storing -/
def csSet (cs : Nat → List Addr) (i : Nat) (l : List Addr) : Nat → List Addr := fun j => if j = i then l else cs j
theorem csSet_self {i : Nat} {l : List Addr} : csSet cs i l i = l := if_pos rfl
theorem csSet_ne {i j : Nat} {l : List Addr} (h : j ≠ i) : csSet cs i l j = cs j := if_neg h
theorem ER.setG (R : ER mg π ε σ H F cs) {i : Nat} {s : Sl} {o : Option V} {l : List Addr} (hi : i < ε.length) (q : SlR mg F H (π i) (some o) l s) (nf : ∀ p ∈ l, F p = none) (nc : ∀ p ∈ l, ∀ j, j ≠ i → p ∉ cs j) :
    ER mg π (ε.set i s) (σ.set i o) H F (csSet cs i l) := by
  refine ⟨by rw [List.length_set, List.length_set]; exact R.len, R.sub, fun j t e => ?_, fun j hj => ?_, fun j p hp => ?_, fun j k p hj hk => ?_⟩
  · by_cases h : j = i
    · subst h
      rw [List.getElem?_set_self hi] at e
      cases e
      rw [List.getElem?_set_self (by rw [← R.len]; exact hi), csSet_self]
      exact q
    · rw [List.getElem?_set_ne (Ne.symm h)] at e ⊢
      rw [csSet_ne h]
      exact R.slot j t e
  · rw [List.length_set] at hj
    rw [csSet_ne (by omega)]
    exact R.off j hj
  · by_cases h : j = i
    · subst h; rw [csSet_self] at hp; exact nf p hp
    · rw [csSet_ne h] at hp; exact R.nf j p hp
  · by_cases h : j = i
    · subst h
      rw [csSet_self] at hj
      by_cases h2 : k = j
      · exact h2.symm
      · rw [csSet_ne h2] at hk; exact absurd hk (nc p hj k h2)
    · rw [csSet_ne h] at hj
      by_cases h2 : k = i
      · subst h2
        rw [csSet_self] at hk
        exact absurd hj (nc p hk j h)
      · rw [csSet_ne h2] at hk
        exact R.dj j k p hj hk
theorem ER.setOut (R : ER mg π ε σ H F cs) {i : Nat} {s : Sl} {o : Option V} (hi : ¬ i < ε.length) : ε.set i s = ε ∧ σ.set i o = σ := by
  rw [List.set_eq_of_length_le (by omega), List.set_eq_of_length_le (by rw [← R.len]; omega)]
  exact ⟨rfl, rfl⟩
theorem ER.setSh (R : ER mg π ε σ H F cs) (i : Nat) {v : V} {d : D} (r : Rep mg F v d) : ∃ cs', Stp H F cs H F cs' ∧ ER mg π (ε.set i (.sh d)) (σ.set i (some v)) H F cs' := by
  by_cases hi : i < ε.length
  · refine ⟨csSet cs i [], ⟨Same.refl _, fun b o h => ⟨o, h⟩, fun b o h n c => ⟨h, n, fun j => ?_⟩⟩, R.setG hi ⟨v, rfl, r, rfl⟩ (fun p hp => nomatch hp) fun p hp => nomatch hp⟩
    by_cases hj : j = i
    · subst hj; rw [csSet_self]; simp
    · rw [csSet_ne hj]; exact c j
  · obtain ⟨e1, e2⟩ := R.setOut (i := i) (s := .sh d) (o := some v) hi
    rw [e1, e2]
    exact ⟨cs, .refl, R⟩
theorem ER.setOw {H0 : Hp} {F0 : Hp} {cs0 : Nat → List Addr} (s0 : Stp H0 F0 cs0 H F cs) (R : ER mg π ε σ H F cs) {i : Nat} {v : V} {l : List Addr} {x : O} (hi : i < ε.length) (t : OR mg F H v l x) (hl : ∀ p ∈ l, H0 p = none ∧ F p = none ∧ ∀ i, p ∉ cs i) :
    Stp H0 F0 cs0 H F (csSet cs i l) ∧ ER mg π (ε.set i (.ow x)) (σ.set i (some v)) H F (csSet cs i l) := by
  refine ⟨⟨s0.same, s0.sol, fun b o h n c => ?_⟩, R.setG hi ⟨_, rfl, t⟩ (fun p hp => (hl p hp).2.1) fun p hp j _ => (hl p hp).2.2 j⟩
  obtain ⟨h1, n1, c1⟩ := s0.frn b o h n c
  refine ⟨h1, n1, fun j hj => ?_⟩
  by_cases hji : j = i
  · subst hji
    rw [csSet_self] at hj
    rw [(hl b hj).1] at h; cases h
  · rw [csSet_ne hji] at hj
    exact c1 j hj
section
variable {st : Stmt} {rest : List Stmt} {f g : S} {a b c : Expr} {fa fb : M L} {fc : M Bool} {fn : M D} {pos : Pos}
theorem tAsg_of {i : Nat} (D : Ends) (σ : St) (H : Hp) (h : tS mg (gSet i fa) D σ H) : tAsg (tE mg fa) (gName i) D σ H := by
  obtain ⟨π, ε, F, cs, R, o, e, k⟩ := h
  unfold gSet at e
  split at e
  · rename_i d ε1 q
    cases e
    obtain ⟨l, ε2, q1, q2⟩ := mb_some q
    refine ⟨π, ε, F, cs, R, l, ε2, q1, fun v H1 F1 cs1 s1 R1 r1 => ?_⟩
    obtain ⟨F2, cs2, s2, R2, r2⟩ := R1.fz r1 q2
    obtain ⟨cs3, s3, R3⟩ := R2.setSh i r2
    exact k _ H1 F2 cs3 ((s1.trans s2).trans s3) R3
  · cases e
theorem tAsg_ofN {i : Nat} (D : Ends) (σ : St) (H : Hp) (h : tS mg (gSetN i fn) D σ H) : tAsg (tN mg fn) (gName i) D σ H := by
  obtain ⟨π, ε, F, cs, R, o, e, k⟩ := h
  unfold gSetN at e
  split at e
  · rename_i d ε1 q
    split at e
    · rename_i hi
      cases e
      refine ⟨π, ε, F, cs, R, d, ε1, q, fun a l H1 F1 cs1 s1 R1 t hl => ?_⟩
      obtain ⟨s2, R2⟩ := R1.setOw (x := .flat d) s1 hi ⟨a, rfl, t⟩ hl
      exact k _ H1 F1 _ s2 R2
    · cases e
  · cases e
theorem qs_set {i : Nat} {x : Str} {pos' : Pos} (hN : X.N.Nodup) (he : PE X a (tE X.gx fa)) (hi : X.N[i]? = some x := by rfl) (hx : Loc X.env.scope x := by first | exact Or.inl rfl | exact Or.inr rfl) (hs : swapsWith a (some (.Name x pos')) pos.line X.env = pure false := by rfl) (hf : X.fn x = true ∨ X.env.scope.names.lookup x = some .local := by first | exact .inl rfl | exact .inr rfl | assumption) :
    PS X (.Assign [.Name x pos'] a pos) (tS X.gx (gSet i fa)) := (ps_set hN hi hx he hs hf).imp tAsg_of
theorem qs_setN {i : Nat} {x : Str} {pos' : Pos} (hN : X.N.Nodup) (he : PE X a (tN X.gx fn)) (hi : X.N[i]? = some x := by rfl) (hx : Loc X.env.scope x := by first | exact Or.inl rfl | exact Or.inr rfl) (hs : swapsWith a (some (.Name x pos')) pos.line X.env = pure false := by rfl) (hf : X.fn x = true ∨ X.env.scope.names.lookup x = some .local := by first | exact .inl rfl | exact .inr rfl | assumption) :
    PS X (.Assign [.Name x pos'] a pos) (tS X.gx (gSetN i fn)) := (ps_set hN hi hx he hs hf).imp tAsg_ofN
/-- x op= e by values -/
def IpS (mg : GX) (r : TIp) (g : D → D → Option D) : Prop := OpS mg r g
theorem qs_aug {i : Nat} {x : Str} {op : Operator} {pos' : Pos} {ti : TIp} {g : D → D → Option D} (hN : X.N.Nodup) (ho : PIp X op ti) (hg : OpS X.gx ti g) (he : PE X a (tE X.gx fa)) (hi : X.N[i]? = some x := by rfl) (hx : Loc X.env.scope x := by first | exact Or.inl rfl | exact Or.inr rfl)
    (hf : X.fn x = true ∨ X.env.scope.names.lookup x = some .local := by first | exact .inl rfl | exact .inr rfl | assumption) : PS X (.AugAssign (.Name x pos') op a pos) (tS X.gx (gAug i g fa)) := (ps_aug hN hi hx he ho hf).imp fun D σ H h => by
  obtain ⟨π, ε, F, cs, R, o, e, k⟩ := h
  unfold gAug at e
  split at e
  · rename_i x q
    split at e
    · rename_i l ε1 q1
      split at e
      · rename_i y q2
        split at e
        · rename_i d q3
          cases e
          obtain ⟨v, a, r, _⟩ := R.slot i _ q
          refine ⟨v, a, π, ε, F, cs, R, l, ε1, q1, fun w H1 F1 cs1 s1 R1 r1 => ?_⟩
          refine hg F1 H1 v w x y d _ R1.sub (.inl (r.mono s1.same)) (R1.rd r1 q2) q3 fun z F2 H2 gr rz => ?_
          obtain ⟨cs3, s3, R3⟩ := (R1.grow gr).setSh i rz
          exact k _ H2 F2 cs3 ((s1.trans (gr.stp R1.sub)).trans s3) R3
        · cases e
      · cases e
    · cases e
  · cases e
end

/-! ### several names at once -/
inductive A where
  | l (d : D)
  | n (x : O)
def A.sl : A → Sl
  | .l d => .sh d
  | .n x => .ow x
section
variable (mg)
inductive AR (F H : Hp) : List V → List A → List (List Addr) → Prop
  | nil : AR F H [] [] []
  | l {v : V} {d : D} {vs : List V} {as : List A} {ls : List (List Addr)} : Rep mg F v d → AR F H vs as ls → AR F H (v :: vs) (.l d :: as) ([] :: ls)
  | n {v : V} {l : List Addr} {x : O} {vs : List V} {as : List A} {ls : List (List Addr)} : OR mg F H v l x → (∀ p ∈ l, ∀ m ∈ ls, p ∉ m) → AR F H vs as ls → AR F H (v :: vs) (.n x :: as) (l :: ls)
def tAN (f : M (List A)) : TA := fun σ H Q => ∃ π ε F cs, ER mg π ε σ H F cs ∧ ∃ as ε', f ε = some (as, ε') ∧
  ∀ vs ls H' F' cs', Stp H F cs H' F' cs' → ER mg π ε' σ H' F' cs' → AR mg F' H' vs as ls → (∀ l ∈ ls, ∀ p ∈ l, H p = none ∧ F' p = none ∧ ∀ i, p ∉ cs' i) → Q vs H'
end
def aNilN : M (List A) := mr []
def aConsL (f : M L) (g : M (List A)) : M (List A) := mb f fun l => mb (mfz l) fun d => mb g fun r => mr (.l d :: r)
def aConsO (f : M O) (g : M (List A)) : M (List A) := mb f fun x => mb g fun r => mr (.n x :: r)
def flatM (f : M D) : M O := mb f fun d => mr (.flat d)
def aConsN (f : M D) (g : M (List A)) : M (List A) := aConsO (flatM f) g
section
variable (mg)
/-- a new object of any kind that nothing else holds -/
def tNO (f : M O) : TE := fun σ H Q => ∃ π ε F cs, ER mg π ε σ H F cs ∧ ∃ x ε', f ε = some (x, ε') ∧
  ∀ v l H' F' cs', Stp H F cs H' F' cs' → ER mg π ε' σ H' F' cs' → OR mg F' H' v l x → (∀ p ∈ l, H p = none ∧ F' p = none ∧ ∀ i, p ∉ cs' i) → Q v H'
end
theorem tN_NO {f : M D} (σ : St) (H : Hp) (Q : VK) (h : tNO mg (flatM f) σ H Q) : tN mg f σ H Q := by
  obtain ⟨π, ε, F, cs, R, x, ε', e, k⟩ := h
  obtain ⟨d, ε1, e1, e2⟩ := mb_some e
  cases e2
  exact ⟨π, ε, F, cs, R, d, _, e1, fun a l H' F' cs' s' R' t hl => k (.ref a) l H' F' cs' s' R' ⟨a, rfl, t⟩ hl⟩
theorem qan_nil : PA X [] (tAN X.gx aNilN) := pa_nil.imp fun σ H Q h => by
  obtain ⟨π, ε, F, cs, R, l, ε', e, k⟩ := h
  cases e
  exact k [] [] H F cs .refl R .nil (fun _ h => nomatch h)
theorem qan_l {e : Expr} {es : List Expr} {f : M L} {g : M (List A)} (ha : PE X e (tE X.gx f)) (hr : PA X es (tAN X.gx g)) (hs : starEach (e :: es) X.env = (false, eval e X.env) :: starEach es X.env := by rfl) :
    PA X (e :: es) (tAN X.gx (aConsL f g)) := (pa_cons ha hr hs).imp fun σ H Q h => by
  obtain ⟨π, ε, F, cs, R, as, ε', e, k⟩ := h
  obtain ⟨l, ε1, e1, e⟩ := mb_some e
  obtain ⟨d, ε2, e2, e⟩ := mb_some e
  obtain ⟨r, ε3, e3, e⟩ := mb_some e
  cases e
  refine ⟨π, ε, F, cs, R, l, ε1, e1, fun v H1 F1 cs1 s1 R1 r1 => ?_⟩
  obtain ⟨F2, cs2, s2, R2, r2⟩ := R1.fz r1 e2
  refine ⟨π, ε2, F2, cs2, R2, r, ε', e3, fun vs ls H3 F3 cs3 s3 R3 r3 hl => ?_⟩
  have st := (s1.trans s2).trans s3
  refine k (v :: vs) ([] :: ls) H3 F3 cs3 st R3 (.l (r2.mono s3.same) r3) fun m hm p hp => ?_
  rcases List.mem_cons.mp hm with z | z
  · subst z; cases hp
  · obtain ⟨h1, h2, h3⟩ := hl m z p hp
    exact ⟨(s1.trans s2).fresh h1, h2, h3⟩
theorem qan_o {e : Expr} {es : List Expr} {f : M O} {g : M (List A)} (ha : PE X e (tNO X.gx f)) (hr : PA X es (tAN X.gx g)) (hs : starEach (e :: es) X.env = (false, eval e X.env) :: starEach es X.env := by rfl) :
    PA X (e :: es) (tAN X.gx (aConsO f g)) := (pa_cons ha hr hs).imp fun σ H Q h => by
  obtain ⟨π, ε, F, cs, R, as, ε', e, k⟩ := h
  obtain ⟨x, ε1, e1, e⟩ := mb_some e
  obtain ⟨r, ε3, e3, e⟩ := mb_some e
  cases e
  refine ⟨π, ε, F, cs, R, x, ε1, e1, fun v l H1 F1 cs1 s1 R1 t1 hl1 => ?_⟩
  refine ⟨π, ε1, F1, cs1, R1, r, ε', e3, fun vs ls H3 F3 cs3 s3 R3 r3 hl => ?_⟩
  have st := s1.trans s3
  have hk : ∀ p ∈ l, ∀ o, H1 p = some o → H3 p = some o ∧ F3 p = none ∧ ∀ i, p ∉ cs3 i := fun p hp o e => s3.frn p o e (hl1 p hp).2.1 (hl1 p hp).2.2
  refine k (v :: vs) (l :: ls) H3 F3 cs3 st R3 (.n (t1.keepH s3.same fun b hb o e => (hk b hb o e).1) (fun p hp m hm hpm => ?_) r3) fun m hm p hp => ?_
  · obtain ⟨o, ho⟩ := t1.cells p hp
    rw [(hl m hm p hpm).1] at ho; cases ho
  · rcases List.mem_cons.mp hm with z | z
    · subst z
      obtain ⟨o, ho⟩ := t1.cells p hp
      obtain ⟨h1, h2, h3⟩ := hk p hp o ho
      exact ⟨(hl1 p hp).1, h2, h3⟩
    · obtain ⟨h1, h2, h3⟩ := hl m z p hp
      exact ⟨s1.fresh h1, h2, h3⟩
theorem qan_n {e : Expr} {es : List Expr} {f : M D} {g : M (List A)} (ha : PE X e (tN X.gx f)) (hr : PA X es (tAN X.gx g)) (hs : starEach (e :: es) X.env = (false, eval e X.env) :: starEach es X.env := by rfl) :
    PA X (e :: es) (tAN X.gx (aConsN f g)) := qan_o (ha.imp tN_NO) hr hs
/-- names stored one after another -/
def setAll : List Nat → List A → Env → Option Env
  | [], [], ε => some ε
  | i :: is, a :: as, ε => if i < ε.length then setAll is as (ε.set i a.sl) else none
  | _, _, _ => none
def stAll : List Nat → List V → St → St
  | i :: is, v :: vs, σ => stAll is vs (σ.set i (some v))
  | _, _, σ => σ
theorem ER.setSh' (R : ER mg π ε σ H F cs) {i : Nat} (hi : i < ε.length) {v : V} {d : D} (r : Rep mg F v d) : Stp H F cs H F (csSet cs i []) ∧ ER mg π (ε.set i (.sh d)) (σ.set i (some v)) H F (csSet cs i []) := by
  refine ⟨⟨Same.refl _, fun b o h => ⟨o, h⟩, fun b o h n c => ⟨h, n, fun j => ?_⟩⟩, R.setG hi ⟨v, rfl, r, rfl⟩ (fun p hp => nomatch hp) fun p hp => nomatch hp⟩
  by_cases hj : j = i
  · subst hj; rw [csSet_self]; simp
  · rw [csSet_ne hj]; exact c j
theorem csSet_notin {i : Nat} {l : List Addr} {p : Addr} (h1 : p ∉ l) (h2 : ∀ j, p ∉ cs j) (j : Nat) : p ∉ csSet cs i l j := by
  by_cases hj : j = i
  · subst hj; rw [csSet_self]; exact h1
  · rw [csSet_ne hj]; exact h2 j
theorem ER.setAll {H0 F0 : Hp} {cs0 : Nat → List Addr} : ∀ {is : List Nat} {as : List A} {vs : List V} {ls : List (List Addr)} {ε ε' : Env} {σ : St} {cs : Nat → List Addr} (s0 : Stp H0 F0 cs0 H F cs) (R : ER mg π ε σ H F cs) (r : AR mg F H vs as ls)
    (hl : ∀ l ∈ ls, ∀ p ∈ l, H0 p = none ∧ F p = none ∧ ∀ i, p ∉ cs i) (e : setAll is as ε = some ε'), ∃ cs', Stp H0 F0 cs0 H F cs' ∧ ER mg π ε' (stAll is vs σ) H F cs'
  | [], [], _, _, _, _, _, cs, s0, R, .nil, _, e => by
    cases e
    exact ⟨cs, s0, R⟩
  | i :: is, _, _, _, _, _, _, cs, s0, R, .l (d := d) r1 r2, hl, e => by
    unfold Q.setAll at e
    split at e
    · rename_i hi
      obtain ⟨s1, R1⟩ := R.setSh' hi r1
      have q := ER.setAll (s0.trans s1) R1 r2 (fun l hm p hp => by
        obtain ⟨h1, h2, h3⟩ := hl l (List.mem_cons_of_mem _ hm) p hp
        exact ⟨h1, h2, csSet_notin (fun z => nomatch z) h3⟩) e
      exact q
    · cases e
  | i :: is, _, _, _, _, _, _, cs, s0, R, .n t nd r2, hl, e => by
    unfold Q.setAll at e
    split at e
    · rename_i hi
      have h0 := hl _ List.mem_cons_self
      obtain ⟨s1, R1⟩ := R.setOw s0 hi t h0
      have q := ER.setAll s1 R1 r2 (fun l hm p hp => by
        obtain ⟨h1, h2, h3⟩ := hl l (List.mem_cons_of_mem _ hm) p hp
        exact ⟨h1, h2, csSet_notin (fun z => nd p z l hm hp) h3⟩) e
      exact q
    · cases e
def gPar (is : List Nat) (f : M (List A)) : S := fun ε => match f ε with
  | some (as, ε1) => match setAll is as ε1 with
    | some ε2 => some (.nx ε2)
    | none => none
  | none => none
theorem setAll_len : ∀ {is : List Nat} {as : List A} {ε ε' : Env}, setAll is as ε = some ε' → is.length = as.length
  | [], [], _, _, _ => rfl
  | i :: is, a :: as, ε, ε', e => by
    unfold setAll at e
    split at e
    · rw [List.length_cons, List.length_cons, setAll_len e]
    · cases e
  | [], _ :: _, _, _, e => by cases e
  | _ :: _, [], _, _, e => by cases e
theorem AR.length : ∀ {vs : List V} {as : List A} {ls : List (List Addr)}, AR mg F H vs as ls → vs.length = as.length
  | _, _, _, .nil => rfl
  | _, _, _, .l _ r => congrArg (· + 1) (AR.length r)
  | _, _, _, .n _ _ r => congrArg (· + 1) (AR.length r)
section
variable {a b c : Expr} {f : M (List A)} {pos : Pos}
theorem qs_par {i j : Nat} {x y : Str} {px py pt : Pos} {kt k2 pt2} (hc : X.calm = true) (hN : X.N.Nodup) (ha : PA X [a, b] (tAN X.gx f)) (hi : X.N[i]? = some x := by rfl) (hj : X.N[j]? = some y := by rfl) (hij : i ≠ j := by decide)
    (hx : X.env.scope.names.lookup x = some .local := by rfl) (hy : X.env.scope.names.lookup y = some .local := by rfl)
    (hw : swappedStores [.Tuple [.Name x px, .Name y py] kt pt] (.Tuple [a, b] k2 pt2) X.env = pure (some [x, y]) := by rfl)
    (hs : swapsWithSole [.Tuple [.Name x px, .Name y py] kt pt] (.Tuple [a, b] k2 pt2) pos.line X.env = pure false := by rfl) :
    PS X (.Assign [.Tuple [.Name x px, .Name y py] kt pt] (.Tuple [a, b] k2 pt2) pos) (tS X.gx (gPar [i, j] f)) := (ps_par hc hN hi hj hij hx hy ha hw hs).imp fun D σ H h => by
  obtain ⟨π, ε, F, cs, R, o, e, k⟩ := h
  unfold gPar at e
  split at e
  · rename_i as ε1 q
    split at e
    · rename_i ε2 q2
      cases e
      refine ⟨π, ε, F, cs, R, as, ε1, q, fun vs ls H1 F1 cs1 s1 R1 r1 hl => ?_⟩
      obtain ⟨cs2, s2, R2⟩ := ER.setAll s1 R1 r1 hl q2
      have e1 := setAll_len q2
      rw [← r1.length] at e1
      match vs, e1 with
      | [v, w], _ => exact ⟨v, w, rfl, k _ H1 F1 cs2 s2 R2⟩
    · cases e
  · cases e
theorem qs_par3 {i j l : Nat} {x y z : Str} {px py pz pt : Pos} {kt k2 pt2} (hc : X.calm = true) (hN : X.N.Nodup) (ha : PA X [a, b, c] (tAN X.gx f)) (hi : X.N[i]? = some x := by rfl) (hj : X.N[j]? = some y := by rfl) (hl : X.N[l]? = some z := by rfl) (hij : i ≠ j := by decide) (hil : i ≠ l := by decide) (hjl : j ≠ l := by decide)
    (hx : X.env.scope.names.lookup x = some .local := by rfl) (hy : X.env.scope.names.lookup y = some .local := by rfl) (hz : X.env.scope.names.lookup z = some .local := by rfl)
    (hw : swappedStores [.Tuple [.Name x px, .Name y py, .Name z pz] kt pt] (.Tuple [a, b, c] k2 pt2) X.env = pure (some [x, y, z]) := by rfl)
    (hs : swapsWithSole [.Tuple [.Name x px, .Name y py, .Name z pz] kt pt] (.Tuple [a, b, c] k2 pt2) pos.line X.env = pure false := by rfl) :
    PS X (.Assign [.Tuple [.Name x px, .Name y py, .Name z pz] kt pt] (.Tuple [a, b, c] k2 pt2) pos) (tS X.gx (gPar [i, j, l] f)) := (ps_par3 hc hN hi hj hl hij hil hjl hx hy hz ha hw hs).imp fun D σ H h => by
  obtain ⟨π, ε, F, cs, R, o, e, k⟩ := h
  unfold gPar at e
  split at e
  · rename_i as ε1 q
    split at e
    · rename_i ε2 q2
      cases e
      refine ⟨π, ε, F, cs, R, as, ε1, q, fun vs ls H1 F1 cs1 s1 R1 r1 hl => ?_⟩
      obtain ⟨cs2, s2, R2⟩ := ER.setAll s1 R1 r1 hl q2
      have e1 := setAll_len q2
      rw [← r1.length] at e1
      match vs, e1 with
      | [u, v, w], _ => exact ⟨u, v, w, rfl, k _ H1 F1 cs2 s2 R2⟩
    · cases e
  · cases e
end
end
end Q

namespace Q
open PySem PySem.Spec L2

/-! ### while -/
def gWhile (c : M Bool) (b : S) : Nat → S
  | 0 => fun _ => none
  | n + 1 => fun ε => match c ε with
    | some (false, ε1) => some (.nx ε1)
    | some (true, ε1) => match b ε1 with
      | some (.nx ε2) => gWhile c b n ε2
      | some (.ct ε2) => gWhile c b n ε2
      | some (.bk ε2) => some (.nx ε2)
      | some (.rt d ε2) => some (.rt d ε2)
      | none => none
    | none => none
section
variable {X : Cx} {mg : GX} {F F' F2 F1 H H' H2 H1 : Hp} {cs cs' cs2 cs1 : Nat → List Addr} {ε ε' : Env} {σ : St} {π : Nat → V} {Dn : Ends}
theorem qs_while {c : Expr} {body : List Stmt} {fc : M Bool} {fb : S} {pos : Pos} (n : Nat) (hp : PassesOwn (model X.prog X.w) X.A X.env X.xe) (hc : PT X c (tT X.gx fc)) (hb : PSs X body (tS X.gx fb)) : PS X (.While c body [] pos) (tS X.gx (gWhile fc fb n)) := (ps_while hp hc hb).imp fun D σ H h => by
  obtain ⟨π, ε, F, cs, R, o, e, k⟩ := h
  refine ⟨fun m σ H => ∃ ε F cs, ER X.gx π ε σ H F cs ∧ ∃ o, gWhile fc fb m ε = some o ∧ EndOk X.gx π D H F cs o, ⟨n, ε, F, cs, R, o, e, k⟩, fun m σ H hw => ?_⟩
  obtain ⟨ε, F, cs, R, o, e, k⟩ := hw
  cases m with
  | zero => cases e
  | succ m =>
    unfold gWhile at e
    split at e
    · rename_i ε1 q
      cases e
      exact ⟨π, ε, F, cs, R, false, ε1, q, fun H1 F1 cs1 s1 R1 => iteF (k σ H1 F1 cs1 s1 R1)⟩
    · rename_i ε1 q
      refine ⟨π, ε, F, cs, R, true, ε1, q, fun H1 F1 cs1 s1 R1 => iteT ⟨fun σ' H' => ∃ ε F cs, ER X.gx π ε σ' H' F cs ∧ ∃ o, gWhile fc fb m ε = some o ∧ EndOk X.gx π D H' F cs o, fun σ' H' hN => ⟨m, Nat.lt_succ_self _, hN⟩, ?_⟩⟩
      split at e
      · rename_i ε2 q2
        exact ⟨π, ε1, F1, cs1, R1, _, q2, fun σ' H' F' cs' s' R' => ⟨ε2, F', cs', R', o, e, k.next (s1.trans s')⟩⟩
      · rename_i ε2 q2
        exact ⟨π, ε1, F1, cs1, R1, _, q2, fun σ' H' F' cs' s' R' => ⟨ε2, F', cs', R', o, e, k.next (s1.trans s')⟩⟩
      · rename_i ε2 q2
        cases e
        exact ⟨π, ε1, F1, cs1, R1, _, q2, fun σ' H' F' cs' s' R' => k σ' H' F' cs' (s1.trans s') R'⟩
      · rename_i d ε2 q2
        cases e
        exact ⟨π, ε1, F1, cs1, R1, _, q2, fun v σ' H' F' cs' s' R' r' => k v σ' H' F' cs' (s1.trans s') R' r'⟩
      · cases e
    · cases e
end

/-! ### targets -/
def tgName (i : Nat) : D → Env → Option Env := fun d ε => some (ε.set i (.sh d))
def tgNil : List D → Env → Option Env
  | [], ε => some ε
  | _, _ => none
def tgCons (a : D → Env → Option Env) (b : List D → Env → Option Env) : List D → Env → Option Env
  | d :: r, ε => match a d ε with
    | some ε1 => b r ε1
    | none => none
  | [], _ => none
def tgTup (n : Nat) (b : List D → Env → Option Env) : D → Env → Option Env
  | .tup ds, ε => if ds.length = n then b ds ε else none
  | _, _ => none
section
variable {X : Cx} {pos : Pos}
theorem qg_name {i : Nat} {x : Str} (hN : X.N.Nodup) (hi : X.N[i]? = some x := by rfl) (hx : Loc X.env.scope x := by first | exact Or.inl rfl | exact Or.inr rfl) (hf : X.fn x = true ∨ X.env.scope.names.lookup x = some .local := by first | exact .inl rfl | exact .inr rfl | assumption) : PG X (.Name x pos) (tG X.gx [i] (tgName i)) :=
  (pg_name hN hi hx hf).imp fun v σ H Q h => by
    obtain ⟨π, ε, F, cs, R, d, ε', r, e, k⟩ := h
    cases e
    obtain ⟨cs', s, R'⟩ := R.setSh i r
    exact k _ cs' s R' List.length_set fun j hj => List.getElem?_set_ne (by simp at hj; exact Ne.symm hj)
theorem qgs_nil : PGs X [] (tGs X.gx [] tgNil) := pgs_nil.imp fun v σ H Q h => by
  obtain ⟨π, ε, F, cs, R, ds, ε', r, e, k⟩ := h
  cases ds with
  | nil =>
    cases e
    cases r
    exact ⟨rfl, k σ cs .refl R rfl fun _ _ => rfl⟩
  | cons d ds => cases e
theorem RepAll.consD {mg : GX} {F : Hp} {vs : List V} {d : D} {ds : List D} (h : RepAll mg F vs (d :: ds)) : ∃ v vr, vs = v :: vr ∧ Rep mg F v d ∧ RepAll mg F vr ds := by
  cases h with
  | cons a b => exact ⟨_, _, rfl, a, b⟩
theorem tgCons_some {a : D → Env → Option Env} {b : List D → Env → Option Env} {ds : List D} {ε ε' : Env} (h : tgCons a b ds ε = some ε') : ∃ d r ε1, ds = d :: r ∧ a d ε = some ε1 ∧ b r ε1 = some ε' := by
  cases ds with
  | nil => cases h
  | cons d r =>
    replace h : (match a d ε with
      | some ε1 => b r ε1
      | none => none) = some ε' := h
    cases q : a d ε with
    | none => rw [q] at h; cases h
    | some ε1 => rw [q] at h; exact ⟨d, r, ε1, rfl, q, h⟩
theorem qgs_cons {e : Expr} {es : List Expr} {js js' : List Nat} {a : D → Env → Option Env} {b : List D → Env → Option Env} (h1 : PG X e (tG X.gx js a)) (h2 : PGs X es (tGs X.gx js' b)) (hs : (assignEach (e :: es) X.env).map (·.2) = assign e X.env :: (assignEach es X.env).map (·.2) := by rfl) : PGs X (e :: es) (tGs X.gx (js ++ js') (tgCons a b)) :=
  (pgs_cons h1 h2 hs).imp fun v σ H Q h => by
    obtain ⟨π, ε, F, cs, R, ds, ε', r, e, k⟩ := h
    obtain ⟨d, ds', ε1, rfl, q1, q2⟩ := tgCons_some e
    obtain ⟨v1, vr, rfl, r1, r2⟩ := r.consD
    refine ⟨v1, vr, rfl, π, ε, F, cs, R, d, ε1, r1, q1, fun σ' cs' s R' l1 n1 => ?_⟩
    exact ⟨π, ε1, F, cs', R', ds', ε', r2, q2, fun σ2 cs2 s2 R2 l2 n2 => k σ2 cs2 (s.trans s2) R2 (l2.trans l1) fun j hj => by
      simp only [List.mem_append, not_or] at hj
      exact (n2 j hj.2).trans (n1 j hj.1)⟩
theorem tgTup_some {n : Nat} {b : List D → Env → Option Env} {d : D} {ε ε' : Env} (h : tgTup n b d ε = some ε') : ∃ ds, d = .tup ds ∧ ds.length = n ∧ b ds ε = some ε' := by
  cases d with
  | tup ds =>
    replace h : (if ds.length = n then b ds ε else none) = some ε' := h
    by_cases hl : ds.length = n
    · rw [if_pos hl] at h; exact ⟨ds, rfl, hl, h⟩
    · rw [if_neg hl] at h; cases h
  | _ => cases h
theorem Rep.tupD {mg : GX} {F : Hp} {v : V} {ds : List D} (h : Rep mg F v (.tup ds)) : ∃ a vs, v = .ref a ∧ F a = some (.tup vs) ∧ vs.length ≤ sizeLine ∧ RepAll mg F vs ds := by
  cases h with
  | tup h z r => exact ⟨_, _, rfl, h, z, r⟩
theorem qg_tup {es : List Expr} {k : Nat} {b : List D → Env → Option Env} {n : Nat} {js : List Nat} (hc : X.calm = true) (h : PGs X es (tGs X.gx js b)) (hn : (assignEach es X.env).length = n := by rfl) (hst : (assignEach es X.env).findIdx? (·.1) = none := by rfl) : PG X (.Tuple es k pos) (tG X.gx js (tgTup n b)) :=
  (pg_tup hc h hn hst).imp fun v σ H Q h => by
    obtain ⟨π, ε, F, cs, R, d, ε', r, e, k⟩ := h
    obtain ⟨ds, rfl, hl, q⟩ := tgTup_some e
    obtain ⟨a, vs, rfl, h, z, ra⟩ := r.tupD
    exact ⟨a, vs, rfl, .inl (.inl (R.sub _ _ h)), by rw [ra.length]; exact hl, π, ε, F, cs, R, ds, ε', ra, q, k⟩
end

/-! ### what is walked -/
section
variable {X : Cx} {tg : Expr}
/-- a list, a tuple, a text -/
def iSeq (K : PySem.W.Frag) (tl : TE) : TI := fun σ H R => tl σ H fun x H1 => (∃ a, x = .ref a ∧ (∃ xs, SqL K H1 a xs) ∧ R (Itl K a) H1) ∨ (∃ a, x = .ref a ∧ (∃ xs, SqT K H1 a xs) ∧ R (Itt K a) H1) ∨ ∃ z, x = .str z ∧ R (Its z) H1
theorem pi_seq {l : Expr} {tl : TE} (hl : PE X l tl) : PI X tg l (iSeq X.K tl) := by
  refine ⟨fun pins s σ H R I h => ?_⟩
  refine thn (hl.run pins s σ H _ I h) fun v s1 ⟨x, H1, I1, r1, q1⟩ => ?_
  rcases q1 with ⟨a, rfl, ⟨xs, hq⟩, q⟩ | ⟨a, rfl, ⟨xs, hq⟩, q⟩ | ⟨z, rfl, q⟩
  · cases r1
    obtain ⟨us, _, pl, _⟩ := I1.list hq
    exact wpAny_pyIter_list pl.isList (pi_one (tk := s1.toks) I1 _ (turn_list a _) ⟨_, Heap.get?_push_size _ rfl, rfl, rfl⟩ q)
  · cases r1
    obtain ⟨us, _, pt, _⟩ := I1.tuple hq
    exact wpAny_pyIter_tuple pt (pi_one (tk := s1.toks) I1 _ (turn_tuple a _) ⟨_, Heap.get?_push_size _ rfl, rfl, rfl⟩ q)
  · obtain ⟨t, rfl⟩ := r1
    by_cases ha : z.cps.all (· < 128) = true
    · exact wpAny_pyIter_ascii ha (pi_one (tk := s1.toks) I1 _ (turn_str _ z t _ (Or.inl rfl)) ⟨_, Heap.get?_push_size _ rfl, rfl, rfl⟩ q)
    · exact wpAny_pyIter_wide (Bool.eq_false_iff.mpr ha) (pi_one (tk := s1.toks) I1 _ (turn_str _ z t _ (Or.inr rfl)) ⟨_, Heap.get?_push_size _ rfl, rfl, rfl⟩ q)
/-- the items -/
def itemsOf : D → Option (List D)
  | .lst ds => some ds
  | .tup ds => some ds
  | .str x => if x.cps.size ≤ 1000000 then some (x.cps.toList.map fun c => .str ⟨#[c]⟩) else none
  | _ => none
def iterM (f : M L) : M (List D) := mb f fun l => mb (mfz l) fun d => mo (itemsOf d)
variable {mg : GX} {F F' F2 F1 H H' H2 H1 : Hp} {cs cs' cs2 cs1 : Nat → List Addr} {ε ε' : Env} {σ : St} {π : Nat → V} {Dn : Ends}
theorem itS_list {K : PySem.W.Frag} {a : Addr} {vs : List V} {ds : List D} (h : F a = some (.lst vs)) (z : vs.length ≤ sizeLine) (r : RepAll mg F vs ds) : ItS mg (Itl K a) F ds := ⟨by rw [← r.length]; exact z, fun i H2 F2 s1 s2 => by
  have hl : SqL K H2 a vs := .inl (.inl (s2 _ _ (s1 _ _ h)))
  refine ⟨fun d hd => ?_, fun hi => ⟨vs, hl, by rw [r.length]; exact hi⟩⟩
  obtain ⟨v, hv, rv⟩ := r.get hd
  exact ⟨⟨vs, v, hl, hv⟩, fun x H3 y => ⟨F2, by rw [y.1]; exact growNone s2, by
    have := y.2 vs hl
    rw [hv] at this; cases this
    exact rv.mono s1⟩⟩⟩
theorem itS_tup {K : PySem.W.Frag} {a : Addr} {vs : List V} {ds : List D} (h : F a = some (.tup vs)) (z : vs.length ≤ sizeLine) (r : RepAll mg F vs ds) : ItS mg (Itt K a) F ds := ⟨by rw [← r.length]; exact z, fun i H2 F2 s1 s2 => by
  have hl : SqT K H2 a vs := .inl (.inl (s2 _ _ (s1 _ _ h)))
  refine ⟨fun d hd => ?_, fun hi => ⟨vs, hl, by rw [r.length]; exact hi⟩⟩
  obtain ⟨v, hv, rv⟩ := r.get hd
  exact ⟨⟨vs, v, hl, hv⟩, fun x H3 y => ⟨F2, by rw [y.1]; exact growNone s2, by
    have := y.2 vs hl
    rw [hv] at this; cases this
    exact rv.mono s1⟩⟩⟩
theorem itS_str {z : Str} (hz : z.cps.size ≤ 1000000) : ItS mg (Its z) F (z.cps.toList.map fun c => .str ⟨#[c]⟩) := ⟨by rw [List.length_map]; exact Nat.le_trans (by simpa using hz) (by decide), fun i H2 F2 s1 s2 => by
  refine ⟨fun d hd => ?_, fun hi => ?_⟩
  · rw [List.getElem?_map] at hd
    cases q : z.cps.toList[i]? with
    | none => rw [q] at hd; cases hd
    | some c =>
      rw [q] at hd
      cases hd
      have q' : z.cps[i]? = some c := by rw [← Array.getElem?_toList]; exact q
      have hlt : i < z.cps.size := by
        rcases Nat.lt_or_ge i z.cps.size with h | h
        · exact h
        · rw [Array.getElem?_eq_none h] at q'; cases q'
      refine ⟨hlt, fun x H3 y => ⟨F2, by rw [y.1]; exact growNone s2, ?_⟩⟩
      obtain ⟨_, c', hc, rfl⟩ := y
      rw [q'] at hc; cases hc
      exact .str _
  · have hi' : z.cps.size ≤ i := by simpa using hi
    exact hi'⟩
theorem qi_seq {e : Expr} {f : M L} (h : PE X e (tE X.gx f)) : PI X tg e (tI X.gx (iterM f)) := (pi_seq h).imp fun σ H R h => by
  obtain ⟨π, ε, F, cs, R0, ds, ε', e, k⟩ := h
  obtain ⟨l, ε1, e1, e⟩ := mb_some e
  obtain ⟨d, ε2, e2, e⟩ := mb_some e
  obtain ⟨e3, rfl⟩ := mo_some e
  refine ⟨π, ε, F, cs, R0, l, ε1, e1, fun v H1 F1 cs1 s1 R1 r1 => ?_⟩
  obtain ⟨F2, cs2, s2, R2, r2⟩ := R1.fz r1 e2
  have k := fun J => k J H1 F2 cs2 (s1.trans s2) R2
  cases d with
  | lst ds' =>
    cases e3
    cases r2 with
    | lst h z r => exact .inl ⟨_, rfl, ⟨_, .inl (.inl (R2.sub _ _ h))⟩, k _ (itS_list h z r)⟩
  | tup ds' =>
    cases e3
    cases r2 with
    | tup h z r => exact .inr (.inl ⟨_, rfl, ⟨_, .inl (.inl (R2.sub _ _ h))⟩, k _ (itS_tup h z r)⟩)
  | str x =>
    replace e3 : (if x.cps.size ≤ 1000000 then some (x.cps.toList.map fun c => D.str ⟨#[c]⟩) else none) = some ds := e3
    by_cases hz : x.cps.size ≤ 1000000
    · rw [if_pos hz] at e3
      cases e3
      cases r2
      exact .inr (.inr ⟨_, rfl, k _ (itS_str hz)⟩)
    · rw [if_neg hz] at e3; cases e3
  | _ => cases e3
/-- range -/
def rgD (lo : Int) (n : Nat) : List D := (List.range n).map fun i => .int (lo + (i : Nat))
def inRg (i : Int) : Bool := decide (-1000000 ≤ i) && decide (i ≤ 1000000)
def rangeOf : List D → Option (List D)
  | [.int j] => if inRg j then some (rgD 0 j.toNat) else none
  | [.int i, .int j] => if inRg i && inRg j then some (rgD i (j - i).toNat) else none
  | _ => none
def iRange (g : M (List L)) : M (List D) := mb g fun ls => mb (fzAll ls) fun ds => mo (rangeOf ds)
theorem itS_range {lo : Int} {n : Nat} (hn : n ≤ 2000000) : ItS mg (Itr lo n) F (rgD lo n) := ⟨by rw [rgD, List.length_map, List.length_range]; exact Nat.le_trans hn (by decide), fun i H2 F2 s1 s2 => by
  refine ⟨fun d hd => ?_, fun hi => show n ≤ i by simpa [rgD] using hi⟩
  unfold rgD at hd
  rw [List.getElem?_map] at hd
  by_cases h : i < n
  · rw [List.getElem?_range h] at hd
    cases hd
    exact ⟨h, fun x H3 y => ⟨F2, by rw [y.1]; exact growNone s2, by rw [y.2]; exact .int _⟩⟩
  · rw [List.getElem?_eq_none (by simpa using h)] at hd; cases hd⟩
theorem inRg_of {i : Int} (h : inRg i = true) : -1000000 ≤ i ∧ i ≤ 1000000 := by
  unfold inRg at h
  rw [Bool.and_eq_true] at h
  exact ⟨of_decide_eq_true h.1, of_decide_eq_true h.2⟩
theorem RepAll.one_int {v : List V} {i : Int} (h : RepAll mg F v [.int i]) : v = [.int i] := by
  cases h with
  | cons a b => cases a; cases b; rfl
theorem RepAll.two_int {v : List V} {i j : Int} (h : RepAll mg F v [.int i, .int j]) : v = [.int i, .int j] := by
  cases h with
  | cons a b =>
    cases a
    rw [b.one_int]
theorem qi_range1 {a : Expr} {g : M (List L)} {p pos : Pos} (hm : X.mg "range" = none) (ha : PA X [a] (tA X.gx g)) (hg : Gl X "range" := by rfl) (hl : LenA g 1 := by exact lenA_cons lenA_nil) (hs : starEach [a] X.env = [(false, eval a X.env)] := by rfl) : PI X tg (.Call (.Name "range" p) [a] [] pos) (tI X.gx (iRange g)) := (pi_range1 hg hm ha hs).imp fun σ H R h => by
  obtain ⟨π, ε, F, cs, R0, ds, ε', e, k⟩ := h
  obtain ⟨ls, ε1, e1, e⟩ := mb_some e
  obtain ⟨xs, ε2, e2, e⟩ := mb_some e
  obtain ⟨e3, rfl⟩ := mo_some e
  refine ⟨π, ε, F, cs, R0, ls, ε1, e1, fun v H1 F1 cs1 s1 R1 r1 => ?_⟩
  obtain ⟨F2, cs2, s2, R2, r2⟩ := R1.fzAll r1 e2
  have hlen := r2.length
  rw [r1.length, hl _ _ _ e1] at hlen
  match xs, hlen with
  | [x], _ =>
    cases x with
    | int j =>
      replace e3 : (if inRg j = true then some (rgD 0 j.toNat) else none) = some ds := e3
      by_cases hj : inRg j = true
      · rw [if_pos hj] at e3
        cases e3
        have hb := inRg_of hj
        exact ⟨j, r2.one_int, by omega, by omega, k _ H1 F2 cs2 (s1.trans s2) R2 (itS_range (by omega))⟩
      · rw [if_neg hj] at e3; cases e3
    | _ => cases e3
theorem qi_range2 {a b : Expr} {g : M (List L)} {p pos : Pos} (hm : X.mg "range" = none) (ha : PA X [a, b] (tA X.gx g)) (hg : Gl X "range" := by rfl) (hl : LenA g 2 := by exact lenA_cons (lenA_cons lenA_nil)) (hs : starEach [a, b] X.env = [(false, eval a X.env), (false, eval b X.env)] := by rfl) (hs2 : starEach [b] X.env = [(false, eval b X.env)] := by rfl) : PI X tg (.Call (.Name "range" p) [a, b] [] pos) (tI X.gx (iRange g)) := (pi_range2 hg hm ha hs hs2).imp fun σ H R h => by
  obtain ⟨π, ε, F, cs, R0, ds, ε', e, k⟩ := h
  obtain ⟨ls, ε1, e1, e⟩ := mb_some e
  obtain ⟨xs, ε2, e2, e⟩ := mb_some e
  obtain ⟨e3, rfl⟩ := mo_some e
  refine ⟨π, ε, F, cs, R0, ls, ε1, e1, fun v H1 F1 cs1 s1 R1 r1 => ?_⟩
  obtain ⟨F2, cs2, s2, R2, r2⟩ := R1.fzAll r1 e2
  have hlen := r2.length
  rw [r1.length, hl _ _ _ e1] at hlen
  match xs, hlen with
  | [x, y], _ =>
    cases x with
    | int i =>
      cases y with
      | int j =>
        replace e3 : (if (inRg i && inRg j) = true then some (rgD i (j - i).toNat) else none) = some ds := e3
        by_cases hj : (inRg i && inRg j) = true
        · rw [if_pos hj] at e3
          cases e3
          rw [Bool.and_eq_true] at hj
          have hb := inRg_of hj.1
          have hb2 := inRg_of hj.2
          exact ⟨i, j, r2.two_int, ⟨by omega, by omega, by omega, by omega⟩, k _ H1 F2 cs2 (s1.trans s2) R2 (itS_range (by omega))⟩
        · rw [if_neg hj] at e3; cases e3
      | _ => cases e3
    | _ => cases e3
/-- enumerate of a list, zip of two lists -/
def enumD (ds : List D) : List D := ds.zipIdx.map fun p => .tup [.int (p.2 : Nat), p.1]
def zipD (ds es : List D) : List D := (ds.zip es).map fun p => .tup [p.1, p.2]
def enumOf : List D → Option (List D)
  | [.lst ds] => some (enumD ds)
  | _ => none
def zipOf : List D → Option (List D)
  | [.lst ds, .lst es] => some (zipD ds es)
  | _ => none
def iEnumM (g : M (List L)) : M (List D) := mb g fun ls => mb (fzAll ls) fun ds => mo (enumOf ds)
def iZipM (g : M (List L)) : M (List D) := mb g fun ls => mb (fzAll ls) fun ds => mo (zipOf ds)
theorem tup_new {p : Addr} {v w : V} {d e : D} (hp : H2 p = none) (s : Same F2 H2) (r1 : Rep mg F2 v d) (r2 : Rep mg F2 w e) : ∃ F3, Grow F2 H2 F3 (upd H2 p (.tup [v, w])) ∧ Rep mg F3 (.ref p) (.tup [d, e]) := by
  have gr := growUpd (o := HO.tup [v, w]) s hp
  exact ⟨_, gr, .tup upd_same (by show 2 ≤ sizeLine; decide) (.cons (r1.mono (gr.same s)) (.cons (r2.mono (gr.same s)) .nil))⟩
theorem itS_enum {K : PySem.W.Frag} {a : Addr} {vs : List V} {ds : List D} (h : F a = some (.lst vs)) (z : vs.length ≤ sizeLine) (r : RepAll mg F vs ds) : ItS mg (Ite K a) F (enumD ds) := ⟨by rw [r.length] at z; simpa [enumD] using z, fun i H2 F2 s1 s2 => by
  have hl : SqL K H2 a vs := .inl (.inl (s2 _ _ (s1 _ _ h)))
  refine ⟨fun d hd => ?_, fun hi => ⟨vs, hl, by rw [r.length]; simpa [enumD] using hi⟩⟩
  unfold enumD at hd
  rw [List.getElem?_map, List.getElem?_zipIdx] at hd
  cases q : ds[i]? with
  | none => rw [q] at hd; cases hd
  | some d0 =>
    rw [q] at hd
    simp at hd
    subst hd
    obtain ⟨v, hv, rv⟩ := r.get q
    refine ⟨⟨vs, v, hl, hv⟩, fun x H3 y => ?_⟩
    obtain ⟨T, x', rfl, hT, rfl, hx⟩ := y
    have := hx vs hl
    rw [hv] at this; cases this
    exact tup_new hT s2 (.int _) (rv.mono s1)⟩
theorem itS_zip {K : PySem.W.Frag} {a b : Addr} {vs ws : List V} {ds es : List D} (h : F a = some (.lst vs)) (z : vs.length ≤ sizeLine) (r : RepAll mg F vs ds) (h' : F b = some (.lst ws)) (r' : RepAll mg F ws es) : ItS mg (Itz K a b) F (zipD ds es) := ⟨by rw [r.length] at z; simp [zipD]; omega, fun i H2 F2 s1 s2 => by
  have hl : SqL K H2 a vs := .inl (.inl (s2 _ _ (s1 _ _ h)))
  have hl' : SqL K H2 b ws := .inl (.inl (s2 _ _ (s1 _ _ h')))
  refine ⟨fun d hd => ?_, fun hi => ⟨vs, ws, hl, hl', by rw [r.length, r'.length]; simp [zipD] at hi; omega⟩⟩
  unfold zipD at hd
  rw [List.getElem?_map] at hd
  cases q : (ds.zip es)[i]? with
  | none => rw [q] at hd; cases hd
  | some p =>
    rw [q] at hd
    simp at hd
    subst hd
    obtain ⟨q1, q2⟩ := List.getElem?_zip_eq_some.mp q
    obtain ⟨v, hv, rv⟩ := r.get q1
    obtain ⟨w, hw, rw'⟩ := r'.get q2
    refine ⟨⟨vs, ws, v, w, hl, hl', hv, hw⟩, fun x H3 y => ?_⟩
    obtain ⟨T, x', y', rfl, hT, rfl, hx, hy⟩ := y
    have e1 := hx vs hl
    rw [hv] at e1; cases e1
    have e2 := hy ws hl'
    rw [hw] at e2; cases e2
    exact tup_new hT s2 (rv.mono s1) (rw'.mono s1)⟩
theorem qi_enum {e : Expr} {g : M (List L)} {p pos tpos : Pos} {elts : List Expr} {kk : Nat} (hm : X.mg "enumerate" = none) (ha : PA X [e] (tA X.gx g)) (hg : Gl X "enumerate" := by rfl) (hs : starEach [e] X.env = [(false, eval e X.env)] := by rfl) :
    PI X (.Tuple elts kk tpos) (.Call (.Name "enumerate" p) [e] [] pos) (tI X.gx (iEnumM g)) := (pi_enum hg hm ha hs).imp fun σ H R h => by
  obtain ⟨π, ε, F, cs, R0, ds, ε', e, k⟩ := h
  obtain ⟨ls, ε1, e1, e⟩ := mb_some e
  obtain ⟨xs, ε2, e2, e⟩ := mb_some e
  obtain ⟨e3, rfl⟩ := mo_some e
  refine ⟨π, ε, F, cs, R0, ls, ε1, e1, fun v H1 F1 cs1 s1 R1 r1 => ?_⟩
  obtain ⟨F2, cs2, s2, R2, r2⟩ := R1.fzAll r1 e2
  match xs, e3 with
  | [.lst ds'], e3 =>
    cases e3
    cases r2 with
    | cons a b =>
      cases b
      cases a with
      | lst h z r => exact ⟨_, _, rfl, .inl (.inl (R2.sub _ _ h)), k _ H1 F2 cs2 (s1.trans s2) R2 (itS_enum h z r)⟩
theorem qi_zip {e e' : Expr} {g : M (List L)} {p pos tpos : Pos} {elts : List Expr} {kk : Nat} (hm : X.mg "zip" = none) (ha : PA X [e, e'] (tA X.gx g)) (hg : Gl X "zip" := by rfl) (hs : starEach [e, e'] X.env = (false, eval e X.env) :: starEach [e'] X.env := by rfl) (hpl : (backTo pos (starEach [e'] X.env)).any (·.1) = false := by rfl) :
    PI X (.Tuple elts kk tpos) (.Call (.Name "zip" p) [e, e'] [] pos) (tI X.gx (iZipM g)) := (pi_zip hg hm ha hs hpl).imp fun σ H R h => by
  obtain ⟨π, ε, F, cs, R0, ds, ε', e, k⟩ := h
  obtain ⟨ls, ε1, e1, e⟩ := mb_some e
  obtain ⟨xs, ε2, e2, e⟩ := mb_some e
  obtain ⟨e3, rfl⟩ := mo_some e
  refine ⟨π, ε, F, cs, R0, ls, ε1, e1, fun v H1 F1 cs1 s1 R1 r1 => ?_⟩
  obtain ⟨F2, cs2, s2, R2, r2⟩ := R1.fzAll r1 e2
  match xs, e3 with
  | [.lst ds', .lst es'], e3 =>
    cases e3
    cases r2 with
    | cons a b =>
      cases b with
      | cons a' b =>
        cases b
        cases a with
        | lst h z r =>
          cases a' with
          | lst h' z' r' => exact ⟨_, _, _, _, rfl, .inl (.inl (R2.sub _ _ h)), .inl (.inl (R2.sub _ _ h')), k _ H1 F2 cs2 (s1.trans s2) R2 (itS_zip h z r h' r')⟩
end

/-! ### for -/
def forL (a : D → Env → Option Env) (b : S) : List D → S
  | [] => fun ε => some (.nx ε)
  | d :: r => fun ε => match a d ε with
    | some ε1 => match b ε1 with
      | some (.nx ε2) => forL a b r ε2
      | some (.ct ε2) => forL a b r ε2
      | some (.bk ε2) => some (.nx ε2)
      | some (.rt x ε2) => some (.rt x ε2)
      | none => none
    | none => none
def gFor (it : M (List D)) (a : D → Env → Option Env) (b : S) : S := fun ε => match it ε with
  | some (ds, ε1) => forL a b ds ε1
  | none => none
section
variable {X : Cx} {mg : GX} {F F' F2 F1 H H' H2 H1 : Hp} {cs cs' cs2 cs1 : Nat → List Addr} {ε ε' : Env} {σ : St} {π : Nat → V} {Dn : Ends}
theorem qs_for {tg iter : Expr} {body : List Stmt} {it : M (List D)} {a : D → Env → Option Env} {b : S} {pos : Pos} (hp : PassesOwn (model X.prog X.w) X.A X.env X.xe) (hc : X.calm = true) (hi : PI X tg iter (tI X.gx it)) {js : List Nat} (hg : PG X tg (tG X.gx js a)) (hb : PSs X body (tS X.gx b))
    (hs : ∀ x, foldedSetIterable iter X.env x = pure x := by intro _; rfl) : PS X (.For tg iter body [] pos) (tS X.gx (gFor it a b)) := (ps_for hp hc hi hg hb hs).imp fun D σ H h => by
  obtain ⟨π, ε, F, cs, R, o, e, k⟩ := h
  unfold gFor at e
  cases q : it ε with
  | none => rw [q] at e; cases e
  | some p =>
    obtain ⟨ds, ε1⟩ := p
    rw [q] at e
    replace e : forL a b ds ε1 = some o := e
    refine ⟨π, ε, F, cs, R, ds, ε1, q, fun J H1 F1 cs1 s1 R1 hJ => ?_⟩
    refine ⟨fun i m σ H => i + m = ds.length ∧ ∃ ε F cs, ER X.gx π ε σ H F cs ∧ Same F1 F ∧ forL a b (ds.drop i) ε = some o ∧ EndOk X.gx π D H F cs o, ⟨ds.length, by omega, ε1, F1, cs1, R1, Same.refl _, e, k.next s1⟩, fun i m σ H hw => ?_⟩
    obtain ⟨hm, ε, F, cs, R, sF, e, k⟩ := hw
    obtain ⟨j1, j2⟩ := hJ.2 i H F sF R.sub
    cases hd : ds[i]? with
    | none =>
      have hi : ds.length ≤ i := List.getElem?_eq_none_iff.mp hd
      rw [List.drop_eq_nil_of_le hi] at e
      cases e
      exact .inl ⟨j2 hi, k σ H F cs .refl R⟩
    | some d =>
      obtain ⟨go, yl⟩ := j1 d hd
      have hlt : i < ds.length := (List.getElem?_eq_some_iff.mp hd).1
      have hdr : ds.drop i = d :: ds.drop (i + 1) := by
        rw [List.drop_eq_getElem_cons hlt]
        rw [List.getElem?_eq_getElem hlt] at hd
        cases hd; rfl
      rw [hdr] at e
      unfold forL at e
      refine .inr ⟨go, fun σ' H' => ∃ ε F cs, ER X.gx π ε σ' H' F cs ∧ Same F1 F ∧ forL a b (ds.drop (i + 1)) ε = some o ∧ EndOk X.gx π D H' F cs o, fun σ' H' hN => ⟨m - 1, by omega, by omega, hN⟩, fun x H' hy => ?_⟩
      obtain ⟨F3, gr, rx⟩ := yl x H' hy
      have R3 := R.grow gr
      have s3 := gr.stp (cs := cs) R.sub
      cases qa : a d ε with
      | none => rw [qa] at e; cases e
      | some ε2 =>
        rw [qa] at e
        dsimp only at e
        refine ⟨π, ε, F3, cs, R3, d, ε2, rx, qa, fun σ4 cs4 s4 R4 _ _ => ?_⟩
        have k4 := k.next (s3.trans s4)
        have sF4 : Same F1 F3 := sF.trans s3.same
        cases qb : b ε2 with
        | none => rw [qb] at e; cases e
        | some ob =>
          rw [qb] at e
          refine ⟨π, ε2, F3, cs4, R4, ob, qb, ?_⟩
          cases ob with
          | nx ε5 => exact fun σ5 H5 F5 cs5 s5 R5 => ⟨ε5, F5, cs5, R5, sF4.trans s5.same, e, k4.next s5⟩
          | ct ε5 => exact fun σ5 H5 F5 cs5 s5 R5 => ⟨ε5, F5, cs5, R5, sF4.trans s5.same, e, k4.next s5⟩
          | bk ε5 =>
            cases e
            exact fun σ5 H5 F5 cs5 s5 R5 => k4 σ5 H5 F5 cs5 s5 R5
          | rt d5 ε5 =>
            cases e
            exact fun v σ5 H5 F5 cs5 s5 R5 r5 => k4 v σ5 H5 F5 cs5 s5 R5 r5
end
end Q

namespace Q
open PySem PySem.Spec L2

/-! ### comprehensions -/
def wipeE (ε : Env) : List Nat → Env
  | [] => ε
  | v :: vs => (wipeE ε vs).set v .no
def backE (ε1 ε : Env) : List Nat → Env
  | [] => ε
  | v :: vs => match ε1[v]? with
    | some s => (backE ε1 ε vs).set v s
    | none => backE ε1 ε vs
def plainS : Option Sl → Bool
  | some (.ow _) => false
  | some (.pw _) => false
  | _ => true
def ownOk (ε : Env) : List Nat → Bool
  | [] => true
  | v :: vs => plainS ε[v]? && ownOk ε vs
def lcL (a : D → Env → Option Env) (tt : M Bool) (te : M L) (own : List Nat) : List D → M (List D)
  | [] => fun ε => some ([], ε)
  | d :: r => fun ε => match a d ε with
    | some ε1 => match tt ε1 with
      | some (false, ε2) => lcL a tt te own r (wipeE ε2 own)
      | some (true, ε2) => match mb te mfz ε2 with
        | some (x, ε3) => match lcL a tt te own r (wipeE ε3 own) with
          | some (xs, ε4) => some (x :: xs, ε4)
          | none => none
        | none => none
      | none => none
    | none => none
def gLc (it : M (List D)) (a : D → Env → Option Env) (tt : M Bool) (te : M L) (own : List Nat) : M D := fun ε => match it ε with
  | some (ds, ε1) => if ownOk ε1 own then match lcL a tt te own ds (wipeE ε1 own) with
      | some (xs, ε2) => some (.lst xs, backE ε1 ε2 own)
      | none => none
    else none
  | none => none
def cYes : M Bool := mr true

section
variable {X : Cx} {mg : GX} {F F' F2 F1 H H' H2 H1 : Hp} {cs cs' cs2 cs1 : Nat → List Addr} {ε ε' ε1 : Env} {σ : St} {π : Nat → V} {Dn : Ends}
theorem wipeE_len : ∀ vs : List Nat, (wipeE ε vs).length = ε.length
  | [] => rfl
  | v :: vs => by unfold wipeE; rw [List.length_set, wipeE_len vs]
theorem wipeE_in {j : Nat} : ∀ {vs : List Nat}, j ∈ vs → j < ε.length → (wipeE ε vs)[j]? = some .no
  | v :: vs, h, hl => by
    unfold wipeE
    by_cases e : v = j
    · subst e; rw [List.getElem?_set_self (by rw [wipeE_len]; exact hl)]
    · rw [List.getElem?_set_ne e]
      exact wipeE_in ((List.mem_cons.mp h).resolve_left (fun z => e z.symm)) hl
theorem wipeE_out {j : Nat} : ∀ {vs : List Nat}, j ∉ vs → (wipeE ε vs)[j]? = ε[j]?
  | [], _ => rfl
  | v :: vs, h => by
    simp only [List.mem_cons, not_or] at h
    unfold wipeE
    rw [List.getElem?_set_ne (Ne.symm h.1), wipeE_out h.2]
theorem wipe_in {j : Nat} : ∀ {vs : List Nat}, j ∈ vs → j < σ.length → (wipe σ vs)[j]? = some none
  | v :: vs, h, hl => by
    unfold wipe
    by_cases e : v = j
    · subst e; rw [List.getElem?_set_self (by rw [wipe_length]; exact hl)]
    · rw [List.getElem?_set_ne e]
      exact wipe_in ((List.mem_cons.mp h).resolve_left (fun z => e z.symm)) hl
theorem ownOk_in {j : Nat} : ∀ {vs : List Nat}, ownOk ε vs = true → j ∈ vs → plainS ε[j]? = true
  | v :: vs, h, hj => by
    unfold ownOk at h
    rw [Bool.and_eq_true] at h
    rcases List.mem_cons.mp hj with z | z
    · subst z; exact h.1
    · exact ownOk_in h.2 z
theorem backE_len : ∀ vs : List Nat, (backE ε1 ε vs).length = ε.length
  | [] => rfl
  | v :: vs => by
    unfold backE
    split
    · rw [List.length_set, backE_len vs]
    · exact backE_len vs
theorem backE_out {j : Nat} : ∀ {vs : List Nat}, j ∉ vs → (backE ε1 ε vs)[j]? = ε[j]?
  | [], _ => rfl
  | v :: vs, h => by
    simp only [List.mem_cons, not_or] at h
    unfold backE
    split
    · rw [List.getElem?_set_ne (Ne.symm h.1), backE_out h.2]
    · exact backE_out h.2
theorem backE_in {j : Nat} (hl : ε.length = ε1.length) : ∀ {vs : List Nat}, j ∈ vs → (backE ε1 ε vs)[j]? = ε1[j]?
  | v :: vs, h => by
    unfold backE
    by_cases e : v = j
    · subst e
      split
      · rename_i s q
        have hv : v < ε1.length := (List.getElem?_eq_some_iff.mp q).1
        rw [List.getElem?_set_self (by rw [backE_len, hl]; exact hv), q]
      · rename_i q
        have hv := List.getElem?_eq_none_iff.mp q
        rw [q, List.getElem?_eq_none (by rw [backE_len, hl]; exact hv)]
    · have hj := (List.mem_cons.mp h).resolve_left (fun z => e z.symm)
      split
      · rw [List.getElem?_set_ne e]; exact backE_in hl hj
      · exact backE_in hl hj
theorem ER.csNo (R : ER mg π ε σ H F cs) {j : Nat} (h : plainS ε[j]? = true) : cs j = [] := by
  cases q : ε[j]? with
  | none => exact R.off j (List.getElem?_eq_none_iff.mp q)
  | some s =>
    have z := R.slot j s q
    rw [q] at h
    cases s with
    | no => exact z
    | sh d => obtain ⟨_, _, _, c⟩ := z; exact c
    | ow x => cases h
    | pw x => cases h
/-- into the block -/
theorem ER.wipe (R : ER mg π ε σ H F cs) {own : List Nat} (ok : ∀ j ∈ own, cs j = []) : ER mg π (wipeE ε own) (L2.wipe σ own) H F cs := by
  refine ⟨by rw [wipeE_len, wipe_length]; exact R.len, R.sub, fun j s e => ?_, fun j hj => R.off j (by rw [wipeE_len] at hj; exact hj), R.nf, R.dj⟩
  by_cases h : j ∈ own
  · have hl : j < ε.length := by rw [← wipeE_len (ε := ε) own]; exact (List.getElem?_eq_some_iff.mp e).1
    rw [wipeE_in h hl] at e
    cases e
    exact ok j h
  · rw [wipeE_out h] at e
    rw [wipe_out h]
    exact R.slot j s e
/-- behind a store of the block's own names -/
theorem wipe_congr {σ σ' : St} {vs : List Nat} (hl : σ'.length = σ.length) (h : ∀ j, j ∉ vs → σ'[j]? = σ[j]?) : L2.wipe σ' vs = L2.wipe σ vs := by
  apply List.ext_getElem?
  intro j
  by_cases hj : j ∈ vs
  · by_cases hlt : j < σ.length
    · rw [wipe_in hj (by omega), wipe_in hj hlt]
    · rw [List.getElem?_eq_none (by rw [wipe_length]; omega), List.getElem?_eq_none (by rw [wipe_length]; omega)]
  · rw [wipe_out hj, wipe_out hj, h j hj]
theorem wipe_wipe {σ : St} {vs : List Nat} : L2.wipe (L2.wipe σ vs) vs = L2.wipe σ vs := wipe_congr (wipe_length _ _) fun j hj => wipe_out hj
/-- names of the block hold no objects of their own -/
theorem ER.blkNo (R : ER mg π ε (L2.wipe σ vs) H F cs) {j : Nat} (hj : j ∈ vs) : cs j = [] := by
  by_cases hl : j < σ.length
  · have hs : ∃ s, ε[j]? = some s := ⟨ε[j]'(by rw [R.len, wipe_length]; exact hl), List.getElem?_eq_getElem _⟩
    obtain ⟨s, hs⟩ := hs
    have z := R.slot j s hs
    rw [wipe_in hj hl] at z
    cases s with
    | no => exact z
    | sh d => obtain ⟨_, e, _⟩ := z; cases e
    | ow x => obtain ⟨_, e, _⟩ := z; cases e
    | pw x => obtain ⟨e, _⟩ := z; cases e
  · exact R.off j (by rw [R.len, wipe_length]; omega)
/-- .. a turn's names hold nothing of their own either: they are stored as they come -/
theorem ER.back (R1 : ER mg π ε1 σ H1 F1 cs1) (R : ER mg π ε (L2.wipe σ own) H F cs) (s : Same F1 F) (ok : ownOk ε1 own = true) : ER mg π (backE ε1 ε own) σ H F cs := by
  have hl : ε.length = ε1.length := by rw [R.len, wipe_length, R1.len]
  refine ⟨by rw [backE_len, hl]; exact R1.len, R.sub, fun j t e => ?_, fun j hj => R.off j (by rw [backE_len] at hj; exact hj), R.nf, R.dj⟩
  by_cases h : j ∈ own
  · rw [backE_in hl h] at e
    have z := R1.slot j t e
    have p := ownOk_in ok h
    rw [e] at p
    rw [R.blkNo h]
    cases t with
    | no => rfl
    | sh d => obtain ⟨v, a, r, _⟩ := z; exact ⟨v, a, r.mono s, rfl⟩
    | ow x => cases p
    | pw x => cases p
  · rw [backE_out h] at e
    have z := R.slot j t e
    rw [wipe_out h] at z
    exact z
/-- a turn's end: the block's names are wiped (what they held of their own, if they did, is let go) -/
theorem ER.turn (R : ER mg π ε σ H F cs) (own : List Nat) : ∃ cs', Stp H F cs H F cs' ∧ ER mg π (wipeE ε own) (L2.wipe σ own) H F cs' := by
  refine ⟨fun j => if j ∈ own then [] else cs j, ⟨Same.refl _, fun b o h => ⟨o, h⟩, fun b o h n c => ⟨h, n, fun j => ?_⟩⟩, ⟨by rw [wipeE_len, wipe_length]; exact R.len, R.sub, fun j s e => ?_, fun j hj => ?_, fun j p hp => ?_, fun j k p hj hk => ?_⟩⟩
  · split
    · simp
    · exact c j
  · by_cases h : j ∈ own
    · have hl : j < ε.length := by rw [← wipeE_len (ε := ε) own]; exact (List.getElem?_eq_some_iff.mp e).1
      rw [wipeE_in h hl] at e
      cases e
      rw [if_pos h]
      rfl
    · rw [wipeE_out h] at e
      rw [wipe_out h, if_neg h]
      exact R.slot j s e
  · rw [wipeE_len] at hj
    split
    · rfl
    · exact R.off j hj
  · split at hp
    · cases hp
    · exact R.nf j p hp
  · split at hj
    · cases hj
    · split at hk
      · cases hk
      · exact R.dj j k p hj hk

/-- the new list as it grows: it stands at D, no name holds it -/
structure Acc (mg : GX) (H F : Hp) (cs : Nat → List Addr) (Da : Addr) (ds : List D) : Prop where
  at_ : ∃ vs, H Da = some (.lst vs) ∧ RepAll mg F vs ds
  nf : F Da = none
  nc : ∀ j, Da ∉ cs j
theorem Acc.next {Da : Addr} {ds : List D} (a : Acc mg H F cs Da ds) (s : Stp H F cs H' F' cs') : Acc mg H' F' cs' Da ds := by
  obtain ⟨vs, h, r⟩ := a.at_
  obtain ⟨h1, n1, c1⟩ := s.frn Da _ h a.nf a.nc
  exact ⟨⟨vs, h1, r.mono s.same⟩, n1, c1⟩
theorem Stp.updNew {p : Addr} {o : HO} (s : Stp H F cs H' F' cs') (hp : H p = none) : Stp H F cs (upd H' p o) F' cs' :=
  ⟨s.same, fun b u e => by
    obtain ⟨u', e'⟩ := s.sol b u e
    exact ⟨u', by rw [upd_ne (ne_of_none e hp)]; exact e'⟩, fun b u e n c => by
    rw [upd_ne (ne_of_none e hp)]; exact s.frn b u e n c⟩
theorem ER.updF {Da : Addr} {o o' : HO} (R : ER mg π ε σ H F cs) (h : H Da = some o) (n : F Da = none) (c : ∀ j, Da ∉ cs j) : ER mg π ε σ (upd H Da o') F cs :=
  ⟨R.len, fun b u e => by rw [upd_ne (fun z => by rw [z, n] at e; cases e)]; exact R.sub b u e, fun i s e => (R.slot i s e).keepH (Same.refl _) fun b hb u e => by rw [upd_ne (fun z => c i (by rw [← z]; exact hb))]; exact e, R.off, R.nf, R.dj⟩
theorem lcL_len {a : D → Env → Option Env} {tt : M Bool} {te : M L} {own : List Nat} : ∀ {ds : List D} {ε ε' : Env} {xs : List D}, lcL a tt te own ds ε = some (xs, ε') → xs.length ≤ ds.length
  | [], _, _, _, e => by cases e; exact Nat.le_refl _
  | d :: r, ε, ε', xs, e => by
    unfold lcL at e
    cases qa : a d ε with
    | none => rw [qa] at e; cases e
    | some ε1 =>
      rw [qa] at e
      dsimp only at e
      cases qt : tt ε1 with
      | none => rw [qt] at e; cases e
      | some p =>
        obtain ⟨b, ε2⟩ := p
        rw [qt] at e
        cases b with
        | false => exact Nat.le_succ_of_le (lcL_len e)
        | true =>
          dsimp only at e
          cases qe : mb te mfz ε2 with
          | none => rw [qe] at e; cases e
          | some px =>
            obtain ⟨x, ε3⟩ := px
            rw [qe] at e
            dsimp only at e
            cases qr : lcL a tt te own r (wipeE ε3 own) with
            | none => rw [qr] at e; cases e
            | some pr =>
              obtain ⟨zs, ε4⟩ := pr
              rw [qr] at e
              cases e
              exact Nat.succ_le_succ (lcL_len qr)
theorem lc_loop {J : It} {ds : List D} {a : D → Env → Option Env} {tt : M Bool} {te : M L} {own js : List Nat} (hjs : ∀ j ∈ js, j ∈ own) {F0 : Hp} {Da : Addr} {acc0 xs : List D} {ε2 : Env} {Qd : Hp → Prop}
    (hJ : ItS mg J F0 ds) (hDa : H1 Da = none) (R : ER mg π ε (L2.wipe σ own) H F cs) (s0 : Same F0 F) (s1 : Stp H1 F1 cs1 H F cs) (ac : Acc mg H F cs Da acc0) (hx : (acc0 ++ xs).length ≤ sizeLine) (e : lcL a tt te own ds ε = some (xs, ε2))
    (k : ∀ H F cs, ER mg π ε2 (L2.wipe σ own) H F cs → Stp H1 F1 cs1 H F cs → Acc mg H F cs Da (acc0 ++ xs) → Qd H) :
    ∃ W : Nat → Nat → Hp → Prop, (∃ m, W 0 m H) ∧ ∀ i m H, W i m H →
      (J.stop i H ∧ Qd H) ∨ (J.go i H ∧ ∃ Nx : Hp → Prop, (∀ H', Nx H' → ∃ m', m' < m ∧ W (i + 1) m' H') ∧ ∀ x H', J.yld i H x H' → tG mg js a x (L2.wipe σ own) H' fun σ2 H2 => L2.wipe σ2 own = L2.wipe σ own ∧ tT mg tt σ2 H2 fun b H3 =>
        if b = true then tE mg te σ2 H3 fun y H4 => ∃ acc, H4 Da = some (.lst acc) ∧ acc.length < sizeLine ∧ Nx (upd H4 Da (.lst (acc ++ [y]))) else Nx H3) := by
  refine ⟨fun i m H => i + m = ds.length ∧ ∃ ε F2 cs2 acc, ER mg π ε (L2.wipe σ own) H F2 cs2 ∧ Same F0 F2 ∧ Stp H1 F1 cs1 H F2 cs2 ∧ Acc mg H F2 cs2 Da acc ∧
    ∃ ys, lcL a tt te own (ds.drop i) ε = some (ys, ε2) ∧ acc ++ ys = acc0 ++ xs, ⟨ds.length, by omega, ε, F, cs, acc0, R, s0, s1, ac, xs, e, rfl⟩, fun i m H5 hw => ?_⟩
  obtain ⟨hm, ε5, F5, cs5, acc, R5, f5, s5, ac, ys, e5, hys⟩ := hw
  obtain ⟨j1, j2⟩ := hJ.2 i H5 F5 f5 R5.sub
  cases hd : ds[i]? with
  | none =>
    have hi : ds.length ≤ i := List.getElem?_eq_none_iff.mp hd
    rw [List.drop_eq_nil_of_le hi] at e5
    cases e5
    rw [List.append_nil] at hys
    subst hys
    exact .inl ⟨j2 hi, k H5 F5 cs5 R5 s5 ac⟩
  | some d =>
    obtain ⟨go, yl⟩ := j1 d hd
    have hlt : i < ds.length := (List.getElem?_eq_some_iff.mp hd).1
    have hdr : ds.drop i = d :: ds.drop (i + 1) := by
      rw [List.drop_eq_getElem_cons hlt]
      rw [List.getElem?_eq_getElem hlt] at hd
      cases hd; rfl
    rw [hdr] at e5
    unfold lcL at e5
    refine .inr ⟨go, fun H => ∃ ε F2 cs2 acc, ER mg π ε (L2.wipe σ own) H F2 cs2 ∧ Same F0 F2 ∧ Stp H1 F1 cs1 H F2 cs2 ∧ Acc mg H F2 cs2 Da acc ∧
      ∃ ys, lcL a tt te own (ds.drop (i + 1)) ε = some (ys, ε2) ∧ acc ++ ys = acc0 ++ xs, fun H' hN => ⟨m - 1, by omega, by omega, hN⟩, fun x H' hy => ?_⟩
    obtain ⟨F3, gr, rx⟩ := yl x H' hy
    have R6 := R5.grow gr
    have s6 := gr.stp (cs := cs5) R5.sub
    cases qa : a d ε5 with
    | none => rw [qa] at e5; cases e5
    | some ε6 =>
      rw [qa] at e5
      dsimp only at e5
      refine ⟨π, ε5, F3, cs5, R6, d, ε6, rx, qa, fun σ7 cs7 s7 R7 l7 n7 => ?_⟩
      have hwp : L2.wipe σ7 own = L2.wipe (L2.wipe σ own) own := wipe_congr l7 fun j hj => n7 j fun z => hj (hjs j z)
      rw [wipe_wipe] at hwp
      refine ⟨hwp, ?_⟩
      cases qt : tt ε6 with
      | none => rw [qt] at e5; cases e5
      | some pb =>
        obtain ⟨b, ε7⟩ := pb
        rw [qt] at e5
        refine ⟨π, ε6, F3, cs7, R7, b, ε7, qt, fun H8 F8 cs8 s8 R8 => ?_⟩
        have st8 := ((s5.trans s6).trans s7).trans s8
        have f8 : Same F0 F8 := f5.trans ((s6.trans s7).trans s8).same
        have ac8 := ((ac.next s6).next s7).next s8
        cases b with
        | false =>
          refine iteF ?_
          obtain ⟨cs9, s9, R9⟩ := R8.turn own
          rw [hwp] at R9
          exact ⟨_, F8, cs9, acc, R9, f8, st8.trans s9, ac8.next s9, ys, e5, hys⟩
        | true =>
          refine iteT ?_
          dsimp only at e5
          cases qe : mb te mfz ε7 with
          | none => rw [qe] at e5; cases e5
          | some px =>
            obtain ⟨x9, ε9⟩ := px
            rw [qe] at e5
            dsimp only at e5
            cases qr : lcL a tt te own (ds.drop (i + 1)) (wipeE ε9 own) with
            | none => rw [qr] at e5; cases e5
            | some pr =>
              obtain ⟨zs, ε10⟩ := pr
              rw [qr] at e5
              cases e5
              obtain ⟨l9, ε8, q9, q10⟩ := mb_some qe
              refine ⟨π, ε7, F8, cs8, R8, l9, ε8, q9, fun v H9 F9 cs9 s9 R9 r9 => ?_⟩
              obtain ⟨F10, cs10, s10, R10, r10⟩ := R9.fz r9 q10
              have ac10 := (ac8.next s9).next s10
              obtain ⟨vs, hv, rv⟩ := ac10.at_
              have hvl : vs.length < sizeLine := by
                rw [rv.length]
                rw [← hys] at hx
                simp at hx
                omega
              refine ⟨vs, hv, hvl, ?_⟩
              have R11 := R10.updF (o' := .lst (vs ++ [v])) hv ac10.nf ac10.nc
              obtain ⟨cs12, s12, R12⟩ := R11.turn own
              rw [hwp] at R12
              have st10 := (st8.trans s9).trans s10
              have stU : Stp H1 F1 cs1 (upd H9 Da (.lst (vs ++ [v]))) F10 cs10 := st10.updNew hDa
              refine ⟨_, F10, cs12, acc ++ [x9], R12, (f8.trans s9.same).trans (s10.same.trans s12.same), stU.trans s12, ?_, zs, qr, by rw [List.append_assoc]; exact hys⟩
              exact Acc.next ⟨⟨vs ++ [v], upd_same, rv.append (.cons r10 .nil)⟩, ac10.nf, ac10.nc⟩ s12
theorem lc_of {it : M (List D)} {a : D → Env → Option Env} {tt : M Bool} {te : M L} {own js : List Nat} (hjs : ∀ j ∈ js, j ∈ own) (σ : St) (H : Hp) (Q : VK) (h : tN mg (gLc it a tt te own) σ H Q) :
    tLc (tI mg it) (tG mg js a) (tT mg tt) (tE mg te) own σ H Q := by
  obtain ⟨π, ε, F, cs, R, dd, ε', e, k⟩ := h
  unfold gLc at e
  cases q : it ε with
  | none => rw [q] at e; cases e
  | some p =>
    obtain ⟨ds, ε1⟩ := p
    rw [q] at e
    dsimp only at e
    by_cases hok : ownOk ε1 own = true
    · rw [if_pos hok] at e
      cases q2 : lcL a tt te own ds (wipeE ε1 own) with
      | none => rw [q2] at e; cases e
      | some p2 =>
        obtain ⟨xs, ε2⟩ := p2
        rw [q2] at e
        cases e
        refine ⟨π, ε, F, cs, R, ds, ε1, q, fun J H1 F1 cs1 s1 R1 hJ => fun Da hDa => ?_⟩
        have R1w : ER mg π (wipeE ε1 own) (L2.wipe σ own) (upd H1 Da (.lst [])) F1 cs1 := (R1.newCell hDa).wipe fun j hj => R1.csNo (ownOk_in hok hj)
        have hxs : xs.length ≤ sizeLine := Nat.le_trans (lcL_len q2) hJ.1
        refine lc_loop hjs hJ hDa R1w (Same.refl _) (.newCell hDa) ⟨⟨[], upd_same, .nil⟩, R1.freshF hDa, R1.freshC hDa⟩ (by simpa using hxs) q2 fun H5 F5 cs5 R5 s5 ac => ?_
        obtain ⟨vs, h1, r1⟩ := ac.at_
        refine k Da [Da] H5 F5 cs5 (s1.trans s5) (ER.back (R1.newCell (o := .lst []) hDa) R5 s5.same hok) ⟨vs, h1, by rw [r1.length]; exact hxs, r1, rfl⟩ fun p hp => ?_
        simp at hp; subst hp
        exact ⟨s1.fresh hDa, ac.nf, ac.nc⟩
    · rw [if_neg hok] at e; cases e

/-! two clauses -/
def lc2L (a : D → Env → Option Env) (tt : M Bool) (it1 : M (List D)) (a1 : D → Env → Option Env) (tt1 : M Bool) (te : M L) (own own1 : List Nat) : List D → M (List D)
  | [] => fun ε => some ([], ε)
  | d :: r => fun ε => match a d ε with
    | some ε1 => match tt ε1 with
      | some (false, ε2) => lc2L a tt it1 a1 tt1 te own own1 r (wipeE ε2 own)
      | some (true, ε2) => match it1 ε2 with
        | some (es, ε3) => match lcL a1 tt1 te own1 es (wipeE ε3 own1) with
          | some (xs, ε4) => match lc2L a tt it1 a1 tt1 te own own1 r (wipeE ε4 own) with
            | some (ys, ε5) => some (xs ++ ys, ε5)
            | none => none
          | none => none
        | none => none
      | none => none
    | none => none
def gLc2 (it : M (List D)) (a : D → Env → Option Env) (tt : M Bool) (it1 : M (List D)) (a1 : D → Env → Option Env) (tt1 : M Bool) (te : M L) (own own1 : List Nat) : M D := fun ε => match it ε with
  | some (ds, ε1) => if ownOk ε1 own then match lc2L a tt it1 a1 tt1 te own own1 ds (wipeE ε1 own) with
      | some (xs, ε2) => if xs.length ≤ 1000000 then some (.lst xs, backE ε1 ε2 own) else none
      | none => none
    else none
  | none => none
theorem lc2_of {it it1 : M (List D)} {a a1 : D → Env → Option Env} {tt tt1 : M Bool} {te : M L} {own own1 js js1 : List Nat} (hjs : ∀ j ∈ js, j ∈ own) (hjs1 : ∀ j ∈ js1, j ∈ own1) (ho : ∀ j ∈ own1, j ∈ own) (σ : St) (H : Hp) (Q : VK) (h : tN mg (gLc2 it a tt it1 a1 tt1 te own own1) σ H Q) :
    tLc2 (tI mg it) (tG mg js a) (tT mg tt) (tI mg it1) (tG mg js1 a1) (tT mg tt1) (tE mg te) own own1 σ H Q := by
  obtain ⟨π, ε, F, cs, R, dd, ε', e, k⟩ := h
  unfold gLc2 at e
  cases q : it ε with
  | none => rw [q] at e; cases e
  | some p =>
    obtain ⟨ds, ε1⟩ := p
    rw [q] at e
    dsimp only at e
    by_cases hok : ownOk ε1 own = true
    · rw [if_pos hok] at e
      cases q2 : lc2L a tt it1 a1 tt1 te own own1 ds (wipeE ε1 own) with
      | none => rw [q2] at e; cases e
      | some p2 =>
        obtain ⟨xs, ε2⟩ := p2
        rw [q2] at e
        dsimp only at e
        by_cases hz : xs.length ≤ 1000000
        · rw [if_pos hz] at e
          cases e
          refine ⟨π, ε, F, cs, R, ds, ε1, q, fun J H1 F1 cs1 s1 R1 hJ => fun Da hDa => ?_⟩
          have R1w : ER mg π (wipeE ε1 own) (L2.wipe σ own) (upd H1 Da (.lst [])) F1 cs1 := (R1.newCell hDa).wipe fun j hj => R1.csNo (ownOk_in hok hj)
          have hxs : xs.length ≤ sizeLine := Nat.le_trans hz (by decide)
          refine ⟨fun i m H => i + m = ds.length ∧ ∃ ε F2 cs2 acc, ER mg π ε (L2.wipe σ own) H F2 cs2 ∧ Stp H1 F1 cs1 H F2 cs2 ∧ Acc mg H F2 cs2 Da acc ∧
            ∃ ys, lc2L a tt it1 a1 tt1 te own own1 (ds.drop i) ε = some (ys, ε2) ∧ acc ++ ys = xs, ⟨ds.length, by omega, wipeE ε1 own, F1, cs1, [], R1w, .newCell hDa, ⟨⟨[], upd_same, .nil⟩, R1.freshF hDa, R1.freshC hDa⟩, xs, q2, rfl⟩, fun i m H5 hw => ?_⟩
          obtain ⟨hm, ε5, F5, cs5, acc, R5, s5, ac, ys, e5, hys⟩ := hw
          obtain ⟨j1, j2⟩ := hJ.2 i H5 F5 s5.same R5.sub
          cases hd : ds[i]? with
          | none =>
            have hi : ds.length ≤ i := List.getElem?_eq_none_iff.mp hd
            rw [List.drop_eq_nil_of_le hi] at e5
            cases e5
            rw [List.append_nil] at hys
            subst hys
            obtain ⟨vs, h1, r1⟩ := ac.at_
            refine .inl ⟨j2 hi, k Da [Da] H5 F5 cs5 (s1.trans s5) (ER.back (R1.newCell (o := .lst []) hDa) R5 s5.same hok) ⟨vs, h1, by rw [r1.length]; exact hxs, r1, rfl⟩ fun p hp => ?_⟩
            simp at hp; subst hp
            exact ⟨s1.fresh hDa, ac.nf, ac.nc⟩
          | some d =>
            obtain ⟨go, yl⟩ := j1 d hd
            have hlt : i < ds.length := (List.getElem?_eq_some_iff.mp hd).1
            have hdr : ds.drop i = d :: ds.drop (i + 1) := by
              rw [List.drop_eq_getElem_cons hlt]
              rw [List.getElem?_eq_getElem hlt] at hd
              cases hd; rfl
            rw [hdr] at e5
            unfold lc2L at e5
            refine .inr ⟨go, fun H => ∃ ε F2 cs2 acc, ER mg π ε (L2.wipe σ own) H F2 cs2 ∧ Stp H1 F1 cs1 H F2 cs2 ∧ Acc mg H F2 cs2 Da acc ∧
              ∃ ys, lc2L a tt it1 a1 tt1 te own own1 (ds.drop (i + 1)) ε = some (ys, ε2) ∧ acc ++ ys = xs, fun H' hN => ⟨m - 1, by omega, by omega, hN⟩, fun x H' hy => ?_⟩
            obtain ⟨F3, gr, rx⟩ := yl x H' hy
            have R6 := R5.grow gr
            have s6 := gr.stp (cs := cs5) R5.sub
            cases qa : a d ε5 with
            | none => rw [qa] at e5; cases e5
            | some ε6 =>
              rw [qa] at e5
              dsimp only at e5
              refine ⟨π, ε5, F3, cs5, R6, d, ε6, rx, qa, fun σ7 cs7 s7 R7 l7 n7 => ?_⟩
              have hwp : L2.wipe σ7 own = L2.wipe (L2.wipe σ own) own := wipe_congr l7 fun j hj => n7 j fun z => hj (hjs j z)
              rw [wipe_wipe] at hwp
              refine ⟨hwp, ?_⟩
              cases qt : tt ε6 with
              | none => rw [qt] at e5; cases e5
              | some pb =>
                obtain ⟨b, ε7⟩ := pb
                rw [qt] at e5
                refine ⟨π, ε6, F3, cs7, R7, b, ε7, qt, fun H8 F8 cs8 s8 R8 => ?_⟩
                have st8 := ((s5.trans s6).trans s7).trans s8
                have ac8 := ((ac.next s6).next s7).next s8
                cases b with
                | false =>
                  refine iteF ?_
                  obtain ⟨cs9, s9, R9⟩ := R8.turn own
                  rw [hwp] at R9
                  exact ⟨_, F8, cs9, acc, R9, st8.trans s9, ac8.next s9, ys, e5, hys⟩
                | true =>
                  refine iteT ?_
                  dsimp only at e5
                  cases qi : it1 ε7 with
                  | none => rw [qi] at e5; cases e5
                  | some pi =>
                    obtain ⟨es, ε8⟩ := pi
                    rw [qi] at e5
                    dsimp only at e5
                    cases ql : lcL a1 tt1 te own1 es (wipeE ε8 own1) with
                    | none => rw [ql] at e5; cases e5
                    | some pl =>
                      obtain ⟨xs1, ε9⟩ := pl
                      rw [ql] at e5
                      dsimp only at e5
                      cases qr : lc2L a tt it1 a1 tt1 te own own1 (ds.drop (i + 1)) (wipeE ε9 own) with
                      | none => rw [qr] at e5; cases e5
                      | some pr =>
                        obtain ⟨zs, ε10⟩ := pr
                        rw [qr] at e5
                        cases e5
                        refine ⟨π, ε7, F8, cs8, R8, es, ε8, qi, fun J1 H9 F9 cs9 s9 R9 hJ1 => ?_⟩
                        obtain ⟨cs10, s10, R10⟩ := R9.turn own1
                        have st10 := (st8.trans s9).trans s10
                        have ac10 := (ac8.next s9).next s10
                        refine lc_loop hjs1 hJ1 hDa R10 s10.same st10 ac10 (by rw [← hys] at hxs; simp at hxs ⊢; omega) ql fun H11 F11 cs11 R11 s11 ac11 => ?_
                        obtain ⟨cs12, s12, R12⟩ := R11.turn own
                        have hw2 : L2.wipe (L2.wipe σ7 own1) own = L2.wipe σ own := by
                          rw [← hwp]
                          exact wipe_congr (wipe_length _ _) fun j hj => wipe_out fun z => hj (ho j z)
                        rw [hw2] at R12
                        exact ⟨_, F11, cs12, acc ++ xs1, R12, s11.trans s12, ac11.next s12, zs, qr, by rw [List.append_assoc]; exact hys⟩
        · rw [if_neg hz] at e; cases e
    · rw [if_neg hok] at e; cases e

section
variable {elt tg iter : Expr} {ifs : List Expr} {scope : Scope} {own : List (Str × Nat)} {js : List Nat} {pos : Pos} {it : M (List D)} {a : D → Env → Option Env} {tt : M Bool} {te : M L}
theorem qts_nil : PTs X [] (tT X.gx cYes) := pts_nil.imp fun σ H Q h => by
  obtain ⟨π, ε, F, cs, R, b, ε', e, k⟩ := h
  cases e
  exact k H F cs .refl R
theorem qts_one {c : Expr} {f : M Bool} (h : PT X c (tT X.gx f)) : PTs X [c] (tT X.gx f) := pts_one h
theorem qn_lc (hc : X.calm = true) (hN : X.N.Nodup) (hi : PI X tg iter (tI X.gx it)) (ok : BlkOk X.N X.env.scope scope own)
    (hg : ∀ (s : Shared) (H : Hp) (C : Addr) (cl : List (Str × Addr)) (fp : List Addr), PG (X.blk s H scope (compEnvC scope cl C X.env) fp) tg (tG X.gx js a)) (ht : ∀ (s : Shared) (H : Hp) (C : Addr) (cl : List (Str × Addr)) (fp : List Addr), PTs (X.blk s H scope (compEnvC scope cl C X.env) fp) ifs (tT X.gx tt))
    (he : ∀ (s : Shared) (H : Hp) (C : Addr) (cl : List (Str × Addr)) (fp : List Addr), PE (X.blk s H scope (compEnvC scope cl C X.env) fp) elt (tE X.gx te)) (hjs : ∀ j ∈ js, j ∈ own.map (·.2) := by decide) (hs : ∀ x, foldedSetIterable iter X.env x = pure x := by intro _; rfl) :
    PE X (.ListComp elt [⟨tg, iter, ifs, 0⟩] scope pos) (tN X.gx (gLc it a tt te (own.map (·.2)))) := (pe_lc hc hN hi ok hg ht he hs).imp (lc_of hjs)
theorem qn_lc2 {tg1 iter1 : Expr} {ifs1 : List Expr} {js1 : List Nat} {it1 : M (List D)} {a1 : D → Env → Option Env} {tt1 : M Bool} (hc : X.calm = true) (hN : X.N.Nodup) (hi : PI X tg iter (tI X.gx it)) (ok : BlkOk X.N X.env.scope scope own)
    (hg : ∀ (s : Shared) (H : Hp) (C : Addr) (cl : List (Str × Addr)) (fp : List Addr), PG (X.blk s H scope (compEnvC scope cl C X.env) fp) tg (tG X.gx js a)) (ht : ∀ (s : Shared) (H : Hp) (C : Addr) (cl : List (Str × Addr)) (fp : List Addr), PTs (X.blk s H scope (compEnvC scope cl C X.env) fp) ifs (tT X.gx tt))
    (hi1 : ∀ (s : Shared) (H : Hp) (C : Addr) (cl : List (Str × Addr)) (fp : List Addr), PI (X.blk s H scope (compEnvC scope cl C X.env) fp) tg1 iter1 (tI X.gx it1))
    (hg1 : ∀ (s : Shared) (H : Hp) (C : Addr) (cl : List (Str × Addr)) (fp : List Addr), PG (X.blk s H scope (compEnvC scope cl C X.env) fp) tg1 (tG X.gx js1 a1)) (ht1 : ∀ (s : Shared) (H : Hp) (C : Addr) (cl : List (Str × Addr)) (fp : List Addr), PTs (X.blk s H scope (compEnvC scope cl C X.env) fp) ifs1 (tT X.gx tt1))
    (he : ∀ (s : Shared) (H : Hp) (C : Addr) (cl : List (Str × Addr)) (fp : List Addr), PE (X.blk s H scope (compEnvC scope cl C X.env) fp) elt (tE X.gx te)) (own1 : List Nat) (hjs : ∀ j ∈ js, j ∈ own.map (·.2) := by decide) (hjs1 : ∀ j ∈ js1, j ∈ own1 := by decide) (ho : ∀ j ∈ own1, j ∈ own.map (·.2) := by decide)
    (hs : ∀ x, foldedSetIterable iter X.env x = pure x := by intro _; rfl) (hs1 : ∀ env x, foldedSetIterable iter1 env x = pure x := by intro _ _; rfl) :
    PE X (.ListComp elt [⟨tg, iter, ifs, 0⟩, ⟨tg1, iter1, ifs1, 0⟩] scope pos) (tN X.gx (gLc2 it a tt it1 a1 tt1 te (own.map (·.2)) own1)) := (pe_lc2 hc hN hi ok ho hg ht hi1 hg1 ht1 he hs hs1).imp (lc2_of hjs hjs1 ho)
/-- name = [..] -/
theorem qs_setLc {i : Nat} {y : Str} {py spos : Pos} (hc : X.calm = true) (hN : X.N.Nodup) (hi : PI X tg iter (tI X.gx it)) (ok : BlkOk X.N X.env.scope scope own)
    (hg : ∀ (s : Shared) (H : Hp) (C : Addr) (cl : List (Str × Addr)) (fp : List Addr), PG (X.blk s H scope (compEnvC scope cl C X.env) fp) tg (tG X.gx js a)) (ht : ∀ (s : Shared) (H : Hp) (C : Addr) (cl : List (Str × Addr)) (fp : List Addr), PTs (X.blk s H scope (compEnvC scope cl C X.env) fp) ifs (tT X.gx tt))
    (he : ∀ (s : Shared) (H : Hp) (C : Addr) (cl : List (Str × Addr)) (fp : List Addr), PE (X.blk s H scope (compEnvC scope cl C X.env) fp) elt (tE X.gx te)) (hsw : swapsWith (.ListComp elt [⟨tg, iter, ifs, 0⟩] scope pos) (some (.Name y py)) spos.line X.env = pure true) (hy : X.N[i]? = some y := by rfl) (hyl : X.env.scope.names.lookup y = some .local := by rfl) (hjs : ∀ j ∈ js, j ∈ own.map (·.2) := by decide) (hs : ∀ x, foldedSetIterable iter X.env x = pure x := by intro _; rfl) :
    PS X (.Assign [.Name y py] (.ListComp elt [⟨tg, iter, ifs, 0⟩] scope pos) spos) (tS X.gx (gSetN i (gLc it a tt te (own.map (·.2))))) :=
  (ps_setLc hc hN hy hyl hsw hi ok hg ht he hs).imp fun D σ H h => lc_of hjs σ H _ (tAsg_ofN D σ H h)
end
end
end Q

namespace Q
open PySem PySem.Spec L2

/-! ### what a def promises, by plain data -/
abbrev Fn := List Sl → Option (D × List Sl)
def prm (vs : List V) : Nat → V := fun i => vs.getD i .non
def spI (mg : GX) (n : Nat) (G : Fn) : Sp := fun vs H Q _ => vs.length = n ∧ ∃ ε F cs, ER mg (prm vs) ε (vs.map some) H F cs ∧ ∃ d ε', G ε = some (d, ε') ∧
  ∀ v H' F' cs', Stp H F cs H' F' cs' → ER mg (prm vs) ε' (vs.map some) H' F' cs' → Rep mg F' v d → Q v H'
/-- the parameters behind the body: those that are changed in place, as they are then -/
def keepP : List Sl → List Sl → Option (List Sl)
  | [], _ => some []
  | .pw _ :: r, .pw y :: q => match keepP r q with
    | some l => some (.pw y :: l)
    | none => none
  | .sh d :: r, _ :: q => match keepP r q with
    | some l => some (.sh d :: l)
    | none => none
  | _, _ => none
def bodyG (m : Nat) (g : S) : Fn := fun ε => match g (ε ++ List.replicate m .no) with
  | some (.rt d εb) => match keepP ε εb with
    | some l => some (d, l)
    | none => none
  | some (.nx εb) => match keepP ε εb with
    | some l => some (.non, l)
    | none => none
  | _ => none

section
variable {X : Cx} {mg : GX} {F F' F2 F1 H H' H2 H1 : Hp} {cs cs' cs2 cs1 c0 c0' : Nat → List Addr} {ε ε' ε1 : Env} {σ : St} {π : Nat → V} {Dn : Ends}

theorem keepP_len : ∀ {a b l : List Sl}, keepP a b = some l → l.length = a.length ∧ a.length ≤ b.length
  | [], b, l, h => by cases h; exact ⟨rfl, Nat.zero_le _⟩
  | .pw x :: r, .pw y :: q, l, h => by
    replace h : (match keepP r q with | some l => some (.pw y :: l) | none => none) = some l := h
    cases e : keepP r q with
    | none => rw [e] at h; cases h
    | some l' =>
      rw [e] at h; cases h
      have := keepP_len e
      simp only [List.length_cons]; omega
  | .sh d :: r, s :: q, l, h => by
    replace h : (match keepP r q with | some l => some (.sh d :: l) | none => none) = some l := h
    cases e : keepP r q with
    | none => rw [e] at h; cases h
    | some l' =>
      rw [e] at h; cases h
      have := keepP_len e
      simp only [List.length_cons]; omega
  | .pw _ :: _, [], _, h => by cases h
  | .pw _ :: _, .no :: _, _, h => by cases h
  | .pw _ :: _, .sh _ :: _, _, h => by cases h
  | .pw _ :: _, .ow _ :: _, _, h => by cases h
  | .sh _ :: _, [], _, h => by cases h
  | .no :: _, _, _, h => by cases h
  | .ow _ :: _, _, _, h => by cases h
theorem keepP_at : ∀ {a b l : List Sl} {i : Nat} {s : Sl}, keepP a b = some l → l[i]? = some s → (∃ d, s = .sh d ∧ a[i]? = some (.sh d)) ∨ (∃ x y, s = .pw y ∧ a[i]? = some (.pw x) ∧ b[i]? = some (.pw y))
  | [], b, l, i, s, h, e => by cases h; simp at e
  | .pw x :: r, .pw y :: q, l, i, s, h, e => by
    replace h : (match keepP r q with | some l => some (.pw y :: l) | none => none) = some l := h
    cases e' : keepP r q with
    | none => rw [e'] at h; cases h
    | some l' =>
      rw [e'] at h; cases h
      cases i with
      | zero => cases e; exact .inr ⟨x, y, rfl, rfl, rfl⟩
      | succ i =>
        have := keepP_at (i := i) (s := s) e' (by simpa using e)
        simpa using this
  | .sh d :: r, t :: q, l, i, s, h, e => by
    replace h : (match keepP r q with | some l => some (.sh d :: l) | none => none) = some l := h
    cases e' : keepP r q with
    | none => rw [e'] at h; cases h
    | some l' =>
      rw [e'] at h; cases h
      cases i with
      | zero => cases e; exact .inl ⟨d, rfl, rfl⟩
      | succ i =>
        have := keepP_at (i := i) (s := s) e' (by simpa using e)
        simpa using this
  | .pw _ :: _, [], _, _, _, h, _ => by cases h
  | .pw _ :: _, .no :: _, _, _, _, h, _ => by cases h
  | .pw _ :: _, .sh _ :: _, _, _, _, h, _ => by cases h
  | .pw _ :: _, .ow _ :: _, _, _, _, h, _ => by cases h
  | .sh _ :: _, [], _, _, _, h, _ => by cases h
  | .no :: _, _, _, _, _, h, _ => by cases h
  | .ow _ :: _, _, _, _, _, h, _ => by cases h
/-- the parameters, behind the body -/
theorem ER.params {vs : List V} {εb l : List Sl} {σb : St} {csb : Nat → List Addr} (R : ER mg (prm vs) ε (vs.map some) H F cs) (Rb : ER mg (prm vs) εb σb H' F' csb) (s : Stp H F cs H' F' csb) (e : keepP ε εb = some l) :
    ∃ c, Stp H F cs H' F' c ∧ ER mg (prm vs) l (vs.map some) H' F' c := by
  have hl := keepP_len e
  refine ⟨fun i => match ε[i]? with | some (.pw _) => csb i | _ => [], ⟨s.same, s.sol, fun b o h n c => ?_⟩, ⟨by rw [hl.1]; exact R.len, Rb.sub, fun i t q => ?_, fun i hi => ?_, fun i p hp => ?_, fun i j p hi hj => ?_⟩⟩
  · obtain ⟨h1, n1, c1⟩ := s.frn b o h n c
    refine ⟨h1, n1, fun i => ?_⟩
    split
    · exact c1 i
    · simp
  · rcases keepP_at e q with ⟨d, rfl, qa⟩ | ⟨x, y, rfl, qa, qb⟩
    · obtain ⟨v, a, r, _⟩ := R.slot i _ qa
      rw [qa]
      exact ⟨v, a, r.mono s.same, rfl⟩
    · obtain ⟨a, _⟩ := R.slot i _ qa
      obtain ⟨_, b⟩ := Rb.slot i _ qb
      rw [qa]
      exact ⟨a, b⟩
  · rw [hl.1] at hi
    rw [List.getElem?_eq_none hi]
  · split at hp
    · exact Rb.nf i p hp
    · cases hp
  · split at hi
    · split at hj
      · exact Rb.dj i j p hi hj
      · cases hj
    · cases hi
/-- into the body -/
theorem ER.body {vs : List V} {N : List Str} {m : Nat} (R : ER mg (prm vs) ε (vs.map some) H F cs) (hN : N.length = vs.length + m) : ER mg (prm vs) (ε ++ List.replicate m .no) (L2.start N vs) H F cs := by
  have hl : ε.length = vs.length := by rw [R.len, List.length_map]
  unfold L2.start
  rw [show N.length - vs.length = m by omega]
  refine ⟨by rw [List.length_append, List.length_append, List.length_replicate, List.length_replicate, hl, List.length_map], R.sub, fun i s e => ?_, fun i hi => R.off i (by rw [List.length_append] at hi; omega), R.nf, R.dj⟩
  by_cases h : i < ε.length
  · rw [List.getElem?_append_left h] at e
    have z := R.slot i s e
    rw [List.getElem?_append_left (by rw [List.length_map]; omega)]
    exact z
  · rw [List.getElem?_append_right (by omega)] at e
    rw [List.getElem?_replicate] at e
    split at e
    · cases e
      exact R.off i (by omega)
    · cases e

variable {P : Program} {w : World} {K : PySem.W.Frag} {mgl : Str → Option Value} {base : Heap}
/-- THE RULE for a def -/
theorem fnI {x qual : Str} {st : Stmt} {f : Addr} {fd : FuncData} {N ps : List Str} {k m : Nat} {g : S} {n : Nat} (Fu : Fun K x qual st f fd) (Sc : FnScope N ps (defScope st)) (hn : ps.length = n) (hN : N.length = n + m)
    (hb : ∀ (cdv : Value) (A : Around) (outer : List PySem.Env) (s : Shared) (H : Hp) (E : XK), Room k (A.deeper (PyProof.Rows.envOfC qual (defScope st) s.heap.objs.size f cdv)) →
      PSs (cxOf CX0 P w K mgl base N qual (defScope st) f cdv A outer s H E).nox (defBody st) (tS ⟨K, mgl⟩ g)) :
    FnOk P w K mgl base CX0 (k + 1) f fd ps (spI ⟨K, mgl⟩ n (bodyG m g)) := by
  refine Fu.ok Sc (fun vs H Q E h => ?_) (fun cdv A outer s H vs Q E hr h => ⟨_, hb cdv A outer s H E hr, ?_⟩)
  · rw [hn]; exact h.1
  · obtain ⟨hl, ε, F, cs, R, d, ε', e, k⟩ := h
    unfold bodyG at e
    cases q : g (ε ++ List.replicate m .no) with
    | none => rw [q] at e; cases e
    | some o =>
      rw [q] at e
      refine ⟨prm vs, _, F, cs, R.body (by omega), o, q, ?_⟩
      cases o with
      | rt d2 εb =>
        dsimp only at e
        cases q2 : keepP ε εb with
        | none => rw [q2] at e; cases e
        | some l =>
          rw [q2] at e; cases e
          intro v σ' H' F' cs' s' R' r'
          obtain ⟨c, s2, R2⟩ := R.params R' s' q2
          exact k v H' F' c s2 R2 r'
      | nx εb =>
        dsimp only at e
        cases q2 : keepP ε εb with
        | none => rw [q2] at e; cases e
        | some l =>
          rw [q2] at e; cases e
          intro σ' H' F' cs' s' R'
          obtain ⟨c, s2, R2⟩ := R.params R' s' q2
          exact k .non H' F' c s2 R2 .non
      | bk εb => cases e
      | ct εb => cases e
/-- another mirror -/
theorem fnI_imp {f : Addr} {fd : FuncData} {ps : List Str} {k n : Nat} {G G' : Fn} (h : FnOk P w K mgl base CX0 k f fd ps (spI mg n G)) (i : ∀ ε d ε', G' ε = some (d, ε') → G ε = some (d, ε')) : FnOk P w K mgl base CX0 k f fd ps (spI mg n G') :=
  h.imp fun vs H Q E ⟨hl, ε, F, cs, R, d, ε', e, k⟩ => ⟨hl, ε, F, cs, R, d, ε', i _ _ _ e, k⟩

/-! ### calls -/
/-- behind a call that was lent the objects c0 -/
theorem ER.called (R : ER mg π ε σ H F cs) (s : Stp H F c0 H' F' c0') (sub : Same F' H') (hc : ∀ i b, b ∈ cs i → ∀ j, b ∉ c0 j) : ER mg π ε σ H' F' cs := by
  have kp : ∀ i b, b ∈ cs i → ∀ o, H b = some o → H' b = some o ∧ F' b = none := fun i b hb o e => by
    obtain ⟨h1, n1, _⟩ := s.frn b o e (R.nf i b hb) (hc i b hb)
    exact ⟨h1, n1⟩
  exact ⟨R.len, sub, fun i t e => (R.slot i t e).keepH s.same fun b hb o e => (kp i b hb o e).1, R.off, fun i b hb => by
    obtain ⟨o, e⟩ := R.cells i b hb
    exact (kp i b hb o e).2, R.dj⟩
theorem Stp.called (s : Stp H F (fun _ => []) H' F' c0') (R : ER mg π ε σ H F cs) : Stp H F cs H' F' cs :=
  ⟨s.same, s.sol, fun b o h n c => by
    obtain ⟨h1, n1, _⟩ := s.frn b o h n (fun _ => by simp)
    exact ⟨h1, n1, c⟩⟩
theorem prm_at {vs : List V} {i : Nat} {v : V} (h : vs[i]? = some v) : prm vs i = v := by
  unfold prm
  rw [List.getD_eq_getElem?_getD, h]; rfl
theorem ER.shared {vs : List V} {ds : List D} (r : RepAll mg F vs ds) (sub : Same F H) : ER mg (prm vs) (ds.map .sh) (vs.map some) H F (fun _ => []) := by
  refine ⟨by rw [List.length_map, List.length_map, r.length], sub, fun i s e => ?_, fun _ _ => rfl, (fun i p hp => nomatch hp), (fun i j p hi _ => nomatch hi)⟩
  rw [List.getElem?_map] at e
  cases q : ds[i]? with
  | none => rw [q] at e; cases e
  | some d =>
    rw [q] at e; cases e
    obtain ⟨v, hv, rv⟩ := r.get q
    exact ⟨v, by rw [List.getElem?_map, hv]; rfl, rv, rfl⟩
/-- f(..), every argument is fixed -/
def gCall (G : Fn) (g : M (List L)) : M D := mb g fun ls => mb (fzAll ls) fun ds => fun ε => match G (ds.map .sh) with
  | some (d, _) => some (d, ε)
  | none => none
theorem tCall_of {n : Nat} {G : Fn} {g : M (List L)} (hl : LenA g n) {E : XK} (σ : St) (H : Hp) (Q : VK) (h : tE mg (mv (gCall G g)) σ H Q) : tCall (spI mg n G) [] E (tA mg g) σ H Q := by
  obtain ⟨π, ε, F, cs, R, l, ε', e, k⟩ := h
  obtain ⟨d, e0, rfl⟩ := mv_some e
  obtain ⟨ls, ε1, e1, e2⟩ := mb_some e0
  obtain ⟨ds, ε2, e3, e4⟩ := mb_some e2
  cases q : G (ds.map .sh) with
  | none => rw [q] at e4; cases e4
  | some p =>
    obtain ⟨d', o⟩ := p
    rw [q] at e4; cases e4
    refine ⟨π, ε, F, cs, R, ls, ε1, e1, fun vs H1 F1 cs1 s1 R1 r1 => ?_⟩
    obtain ⟨F2, cs2, s2, R2, r2⟩ := R1.fzAll r1 e3
    rw [List.append_nil]
    refine ⟨by rw [r1.length, hl _ _ _ e1], ds.map .sh, F2, _, ER.shared r2 R2.sub, d, o, q, fun v H3 F3 cs3 s3 R3 r3 => ?_⟩
    exact k v H3 F3 cs2 ((s1.trans s2).trans (s3.called R2)) (R2.called s3 R3.sub fun _ _ _ _ => by simp) r3
def lendS : Option Sl → Option O
  | some (.ow x) => some x
  | some (.pw x) => some x
  | _ => none
def likeS : Option Sl → O → Sl
  | some (.pw _), x => .pw x
  | _, x => .ow x
/-- f(x, ..), the first argument is a name's own object, changed in place -/
def gCall1 (G : Fn) (g : M (List L)) : M D := mb g fun ls => match ls with
  | .s i :: r => mb (fzAll r) fun ds => fun ε => match lendS ε[i]? with
    | some x => match G (.pw x :: ds.map .sh) with
      | some (d, .pw y :: _) => some (d, ε.set i (likeS ε[i]? y))
      | _ => none
    | none => none
  | _ => fun _ => none
theorem lendS_some {s : Option Sl} {x : O} (h : lendS s = some x) : s = some (.ow x) ∨ s = some (.pw x) := by
  cases s with
  | none => cases h
  | some s =>
    cases s with
    | ow y => cases h; exact .inl rfl
    | pw y => cases h; exact .inr rfl
    | no => cases h
    | sh d => cases h
theorem tCall1_of {n : Nat} {G : Fn} {g : M (List L)} (hl : LenA g n) {E : XK} (σ : St) (H : Hp) (Q : VK) (h : tE mg (mv (gCall1 G g)) σ H Q) : tCall (spI mg n G) [] E (tA mg g) σ H Q := by
  obtain ⟨π, ε, F, cs, R, l, ε', e, k⟩ := h
  obtain ⟨d, e0, rfl⟩ := mv_some e
  obtain ⟨ls, ε1, e1, e2⟩ := mb_some e0
  cases ls with
  | nil => cases e2
  | cons l0 r =>
    cases l0 with
    | v d0 => cases e2
    | s i =>
      obtain ⟨ds, ε2, e3, e4⟩ := mb_some e2
      replace e4 : (match lendS ε2[i]? with
        | some x => match G (.pw x :: ds.map .sh) with
          | some (d, .pw y :: _) => some (d, ε2.set i (likeS ε2[i]? y))
          | _ => none
        | none => none) = some (d, ε') := e4
      cases q1 : lendS ε2[i]? with
      | none => rw [q1] at e4; cases e4
      | some x =>
        rw [q1] at e4
        dsimp only at e4
        split at e4
        · rename_i d' y rest q
          cases e4
          refine ⟨π, ε, F, cs, R, _, ε1, e1, fun vs H1 F1 cs1 s1 R1 r1 => ?_⟩
          have hvl : vs.length = n := by rw [r1.length, hl _ _ _ e1]
          cases r1 with
          | @cons v0 _ vr _ h0 hr =>
            obtain ⟨F2, cs2, s2, R2, r2⟩ := R1.fzAll hr e3
            show spI mg n G ((v0 :: vr) ++ []) H1 Q E
            rw [List.append_nil]
            have hv0 : σ[i]? = some (some v0) := h0
            have hi : i < ε2.length := by
              rcases Nat.lt_or_ge i ε2.length with z | z
              · exact z
              · rw [List.getElem?_eq_none z] at q1; cases q1
            -- what is lent
            have own : OR mg F2 H1 v0 (cs2 i) x := by
              rcases lendS_some q1 with q2 | q2
              · obtain ⟨v', a, o⟩ := R2.slot i _ q2
                rw [hv0] at a; cases a; exact o
              · obtain ⟨a, o⟩ := R2.slot i _ q2
                rw [hv0] at a; cases a; exact o
            have Rc : ER mg (prm (v0 :: vr)) (.pw x :: ds.map .sh) ((v0 :: vr).map some) H1 F2 (fun j => if j = 0 then cs2 i else []) := by
              refine ⟨by simp [r2.length], R2.sub, fun j s e => ?_, fun j hj => ?_, fun j p hp => ?_, fun j k' p hj hk => ?_⟩
              · cases j with
                | zero =>
                  cases e
                  rw [if_pos rfl]
                  exact ⟨rfl, own⟩
                | succ j =>
                  have := (ER.shared r2 R2.sub).slot j s (by simpa using e)
                  rw [if_neg (Nat.succ_ne_zero j)]
                  cases s with
                  | no => rfl
                  | sh d => obtain ⟨v, a, b, _⟩ := this; exact ⟨v, by simpa using a, b, rfl⟩
                  | ow y => rw [List.getElem?_cons_succ, List.getElem?_map] at e; cases q9 : ds[j]? <;> rw [q9] at e <;> cases e
                  | pw y => rw [List.getElem?_cons_succ, List.getElem?_map] at e; cases q9 : ds[j]? <;> rw [q9] at e <;> cases e
              · rw [if_neg (by simp at hj; omega)]
              · split at hp
                · exact R2.nf i p hp
                · cases hp
              · split at hj
                · split at hk
                  · omega
                  · cases hk
                · cases hj
            refine ⟨hvl, _, F2, _, Rc, d, _, q, fun v H3 F3 cs3 s3 R3 r3 => ?_⟩
            -- the object behind the call
            obtain ⟨_, own3⟩ := R3.slot 0 _ rfl
            have hc2 : ∀ j b, j ≠ i → b ∈ cs2 j → ∀ j', b ∉ (fun j => if j = 0 then cs2 i else []) j' := fun j b hji hb j' hb' => by
              dsimp only at hb'
              split at hb'
              · exact hji (R2.dj j i b hb hb')
              · cases hb'
            have kp : ∀ j b, j ≠ i → b ∈ cs2 j → ∀ o, H1 b = some o → H3 b = some o ∧ F3 b = none ∧ ∀ j', b ∉ cs3 j' := fun j b hji hb o e => s3.frn b o e (R2.nf j b hb) (hc2 j b hji hb)
            refine k v H3 F3 (csSet cs2 i (cs3 0)) ((s1.trans s2).trans ⟨s3.same, s3.sol, fun b o h nn c => ?_⟩) ?_ r3
            · obtain ⟨h1, n1, c1⟩ := s3.frn b o h nn fun j hj => by
                split at hj
                · exact c i hj
                · cases hj
              exact ⟨h1, n1, csSet_notin (c1 0) c⟩
            · refine ⟨by rw [List.length_set]; exact R2.len, R3.sub, fun j s e => ?_, fun j hj => ?_, fun j p hp => ?_, fun j k' p hj hk => ?_⟩
              · by_cases hji : j = i
                · subst hji
                  rw [List.getElem?_set_self hi] at e
                  cases e
                  rw [csSet_self]
                  rcases lendS_some q1 with q2 | q2
                  · rw [q2]
                    exact ⟨v0, hv0, own3⟩
                  · rw [q2]
                    obtain ⟨a, _⟩ := R2.slot j _ q2
                    rw [hv0] at a; cases a
                    exact ⟨hv0, own3⟩
                · rw [List.getElem?_set_ne (Ne.symm hji)] at e
                  rw [csSet_ne hji]
                  exact (R2.slot j s e).keepH s3.same fun b hb o e => (kp j b hji hb o e).1
              · rw [List.length_set] at hj
                rw [csSet_ne (by omega)]
                exact R2.off j hj
              · by_cases hji : j = i
                · subst hji; rw [csSet_self] at hp; exact R3.nf 0 p hp
                · rw [csSet_ne hji] at hp
                  obtain ⟨o, e⟩ := R2.cells j p hp
                  exact (kp j p hji hp o e).2.1
              · by_cases hji : j = i
                · subst hji
                  rw [csSet_self] at hj
                  by_cases hki : k' = j
                  · exact hki.symm
                  · rw [csSet_ne hki] at hk
                    obtain ⟨o, e⟩ := R2.cells k' p hk
                    exact absurd hj ((kp k' p hki hk o e).2.2 0)
                · rw [csSet_ne hji] at hj
                  by_cases hki : k' = i
                  · subst hki
                    rw [csSet_self] at hk
                    obtain ⟨o, e⟩ := R2.cells j p hj
                    exact absurd hk ((kp j p hji hj o e).2.2 0)
                  · rw [csSet_ne hki] at hk
                    exact R2.dj j k' p hj hk
        · cases e4

section
variable {CX : CXT} {k n : Nat} {f : Addr} {fd : FuncData} {ps : List Str} {G : Fn} {E : XK} {x : Str} {p pos : Pos} {e : Expr} {es : List Expr} {g : M (List L)}
theorem qe_call (Fo : FnOk X.prog X.w X.K X.mg X.base CX k f fd ps (spI X.gx n G)) (hr : Room k X.A) (hm : X.mg x = some (.ref f)) (hk : PySem.W.keepIn X.K (.ref f) = true) (hb : Binds X.K fd ps []) (hx : Passes CX X E) (ha : PA X (e :: es) (tA X.gx g)) (hl : LenA g n)
    (hg : Gl X x := by rfl) (hdb : (x == ("__debug__" : Str)) = false := by decide) (he : starEach (e :: es) X.env = (false, eval e X.env) :: starEach es X.env := by rfl) (hpl : (backTo pos (starEach es X.env)).any (·.1) = false := by rfl) :
    PE X (.Call (.Name x p) (e :: es) [] pos) (tE X.gx (mv (gCall G g))) := (pe_call Fo hr hg hm hk hb .nil hx ha hdb he hpl).imp (tCall_of hl)
theorem qe_call1 (Fo : FnOk X.prog X.w X.K X.mg X.base CX k f fd ps (spI X.gx n G)) (hr : Room k X.A) (hm : X.mg x = some (.ref f)) (hk : PySem.W.keepIn X.K (.ref f) = true) (hb : Binds X.K fd ps []) (hx : Passes CX X E) (ha : PA X (e :: es) (tA X.gx g)) (hl : LenA g n)
    (hg : Gl X x := by rfl) (hdb : (x == ("__debug__" : Str)) = false := by decide) (he : starEach (e :: es) X.env = (false, eval e X.env) :: starEach es X.env := by rfl) (hpl : (backTo pos (starEach es X.env)).any (·.1) = false := by rfl) :
    PE X (.Call (.Name x p) (e :: es) [] pos) (tE X.gx (mv (gCall1 G g))) := (pe_call Fo hr hg hm hk hb .nil hx ha hdb he hpl).imp (tCall1_of hl)
end
end
end Q

namespace Q
open PySem PySem.Spec L2

section
variable {X : Cx} {mg : GX} {F F' F2 F1 H H' H2 H1 : Hp} {cs cs' cs2 cs1 : Nat → List Addr} {ε ε' ε1 : Env} {σ : St} {π : Nat → V}

/-! ### whole numbers -/
def dInt2 (f : Int → Int → Option D) : D → D → Option D
  | .int i, .int j => f i j
  | _, _ => none
theorem dInt2_some {f : Int → Int → Option D} {x y d : D} (h : dInt2 f x y = some d) : ∃ i j, x = .int i ∧ y = .int j ∧ f i j = some d := by
  cases x <;> cases y <;> first | exact ⟨_, _, rfl, rfl, h⟩ | cases h
theorem opS_int {C : Int → Int → Prop} {g : Int → Int → V} {f : Int → Int → Option D} (hf : ∀ i j d, f i j = some d → C i j ∧ ∀ F, Rep mg F (g i j) d) : OpS mg (rI C g) (dInt2 f) := fun F H v w x y d Q s hv hw hg k => by
  obtain ⟨i, j, rfl, rfl, e⟩ := dInt2_some hg
  obtain ⟨c, r⟩ := hf i j d e
  exact ⟨i, j, hv.int, hw.int, c, k _ F H (growNone s) (r F)⟩
theorem opS_int0 {g : Int → Int → V} {f : Int → Int → Option D} (hf : ∀ i j d, f i j = some d → ∀ F, Rep mg F (g i j) d) : OpS mg (rI0 g) (dInt2 f) := fun F H v w x y d Q s hv hw hg k => by
  obtain ⟨i, j, rfl, rfl, e⟩ := dInt2_some hg
  exact ⟨i, j, hv.int, hw.int, k _ F H (growNone s) (hf i j d e F)⟩
theorem OpS.or {r r' : R2} {g g' : D → D → Option D} (h : OpS mg r g) (h' : OpS mg r' g') {g2 : D → D → Option D} (hg : ∀ x y d, g2 x y = some d → g x y = some d ∨ g' x y = some d) : OpS mg (fun x y H Q => r x y H Q ∨ r' x y H Q) g2 := fun F H v w x y d Q s hv hw e k => by
  rcases hg x y d e with e | e
  · exact .inl (h F H v w x y d Q s hv hw e k)
  · exact .inr (h' F H v w x y d Q s hv hw e k)
def mulOk (i j : Int) : Bool := decide (i.natAbs < 2 ^ 64) || (decide (j.natAbs < 2 ^ 64) || decide (i.natAbs.log2 + j.natAbs.log2 < 1000000))
def dSub : D → D → Option D := dInt2 fun i j => some (.int (i - j))
def dMul : D → D → Option D := dInt2 fun i j => if mulOk i j then some (.int (i * j)) else none
def dFdiv : D → D → Option D := dInt2 fun i j => if decide (0 < j) && decide (j.natAbs.log2 < 9000) then some (.int (i / j)) else none
def dMod : D → D → Option D := dInt2 fun i j => if 0 < j then some (.int (i % j)) else none
def dPow : D → D → Option D := dInt2 fun i j => if decide (0 ≤ j) && (decide (j ≤ 1000000) && decide (i.natAbs < 2 ^ 64)) then some (.int (i ^ j.toNat)) else none
def dAnd : D → D → Option D := dInt2 fun i j => some (.int (Builtin.bitAnd i j))
def dOr : D → D → Option D := dInt2 fun i j => some (.int (Builtin.bitOr i j))
def dLt : D → D → Option D := dInt2 fun i j => some (.bl (decide (i < j)))
def dLe : D → D → Option D := dInt2 fun i j => some (.bl (decide (i ≤ j)))
def dGt : D → D → Option D := dInt2 fun i j => some (.bl (decide (j < i)))
def dGe : D → D → Option D := dInt2 fun i j => some (.bl (decide (j ≤ i)))
theorem sSub : OpS mg (rI0 fun i j => .int (i - j)) dSub := opS_int0 fun i j d e F => by cases e; exact .int _
theorem sAnd : OpS mg (rI0 fun i j => .int (Builtin.bitAnd i j)) dAnd := opS_int0 fun i j d e F => by cases e; exact .int _
theorem sOr : OpS mg (rI0 fun i j => .int (Builtin.bitOr i j)) dOr := opS_int0 fun i j d e F => by cases e; exact .int _
theorem sLt : OpS mg (rI0 fun i j => .bl (decide (i < j))) dLt := opS_int0 fun i j d e F => by cases e; exact .bl _
theorem sLe : OpS mg (rI0 fun i j => .bl (decide (i ≤ j))) dLe := opS_int0 fun i j d e F => by cases e; exact .bl _
theorem sGt : OpS mg (rI0 fun i j => .bl (decide (j < i))) dGt := opS_int0 fun i j d e F => by cases e; exact .bl _
theorem sGe : OpS mg (rI0 fun i j => .bl (decide (j ≤ i))) dGe := opS_int0 fun i j d e F => by cases e; exact .bl _
theorem sMod : OpS mg (rI (fun _ j => 0 < j) fun i j => .int (i % j)) dMod := opS_int fun i j d e => by
  by_cases h : 0 < j
  · rw [if_pos h] at e; cases e; exact ⟨h, fun _ => .int _⟩
  · rw [if_neg h] at e; cases e
theorem sFdiv : OpS mg (rI CDivW fun i j => .int (i / j)) dFdiv := opS_int fun i j d e => by
  by_cases h : (decide (0 < j) && decide (j.natAbs.log2 < 9000)) = true
  · rw [if_pos h] at e; cases e
    rw [Bool.and_eq_true] at h
    exact ⟨⟨of_decide_eq_true h.1, of_decide_eq_true h.2⟩, fun _ => .int _⟩
  · rw [if_neg h] at e; cases e
theorem sPow : OpS mg (rI CPow fun i j => .int (i ^ j.toNat)) dPow := opS_int fun i j d e => by
  by_cases h : (decide (0 ≤ j) && (decide (j ≤ 1000000) && decide (i.natAbs < 2 ^ 64))) = true
  · rw [if_pos h] at e; cases e
    rw [Bool.and_eq_true, Bool.and_eq_true] at h
    exact ⟨⟨of_decide_eq_true h.1, of_decide_eq_true h.2.1, of_decide_eq_true h.2.2⟩, fun _ => .int _⟩
  · rw [if_neg h] at e; cases e
def CMulA (i j : Int) : Prop := CMul i j ∨ CMulW i j
theorem op_mulA : OpR X (binaryOp .Mult) (rI CMulA fun i j => .int (i * j)) := opI fun _ _ _ _ _ _ _ hc q => hc.elim (fun h => PyProof.Rows.mul_int q h.ok) fun h => PyProof.Rows.mul_int q h.ok
theorem ip_mulA : OpR X (inplaceOp .Mult) (rI CMulA fun i j => .int (i * j)) := opI fun _ _ _ _ _ _ _ hc q => hc.elim (fun h => PyProof.Rows.imul_int q h.ok) fun h => PyProof.Rows.imul_int q h.ok
theorem mulOk_of {i j : Int} (h : mulOk i j = true) : CMulA i j := by
  unfold mulOk at h
  rw [Bool.or_eq_true, Bool.or_eq_true] at h
  rcases h with h | h | h
  · have := of_decide_eq_true h
    exact .inl (.inl (by omega))
  · have := of_decide_eq_true h
    exact .inl (.inr (by omega))
  · exact .inr (show i.natAbs.log2 + j.natAbs.log2 < 1000000 from of_decide_eq_true h)
theorem sMul : OpS mg (rI CMulA fun i j => .int (i * j)) dMul := opS_int fun i j d e => by
  by_cases h : mulOk i j = true
  · rw [if_pos h] at e; cases e; exact ⟨mulOk_of h, fun _ => .int _⟩
  · rw [if_neg h] at e; cases e
def dNeg : D → Option D
  | .int i => some (.int (-i))
  | _ => none
theorem sNeg : UnS mg (rU fun i => .int (-i)) dNeg := fun F H v x d Q s hv hg k => by
  cases x <;> cases hg
  exact ⟨_, hv.int, k _ F H (growNone s) (.int _)⟩

/-! ### + of any kind -/
def dAdd : D → D → Option D
  | .int i, .int j => some (.int (i + j))
  | .str x, .str y => if x.length + y.length ≤ 1000000 then some (.str (x ++ y)) else none
  | .lst xs, .lst ys => if xs.length + ys.length ≤ 1000000 then some (.lst (xs ++ ys)) else none
  | .tup xs, .tup ys => if xs.length + ys.length ≤ 1000000 then some (.tup (xs ++ ys)) else none
  | _, _ => none
def dCat : D → D → Option D
  | .lst xs, .lst ys => if xs.length + ys.length ≤ 1000000 then some (.lst (xs ++ ys)) else none
  | _, _ => none
def rAddA (K : PySem.W.Frag) : R2 := fun x y H Q => ((rI0 fun i j => .int (i + j)) x y H Q ∨ ∃ i j, x = .str i ∧ y = .str j ∧ i.length + j.length ≤ sizeLine ∧ Q (.str (i ++ j)) H) ∨ (rCat x y H Q ∨ rCatA K x y H Q)
theorem op_addA : OpR X (binaryOp .Add) (rAddA X.K) := (op_add.or op_add_str).or (op_cat.or op_catA)
theorem mil : (1000000 : Nat) ≤ sizeLine := by decide
theorem nCat : OpN mg rCat dCat := fun F H v w x y d Q s hv hw hg k => by
  cases x <;> cases y <;> try cases hg
  rename_i xs ys
  replace hg : (if xs.length + ys.length ≤ 1000000 then some (D.lst (xs ++ ys)) else none) = some d := hg
  by_cases h : xs.length + ys.length ≤ 1000000
  · rw [if_pos h] at hg; cases hg
    obtain ⟨a, vs, rfl, ha, za, ra⟩ := hv.lst s
    obtain ⟨b, ws, rfl, hb, zb, rb⟩ := hw.lst s
    have hz : vs.length + ws.length ≤ sizeLine := by rw [ra.length, rb.length]; exact Nat.le_trans h mil
    exact ⟨a, b, vs, ws, rfl, rfl, ha, hb, hz, fun p hp => k p _ hp ⟨_, upd_same, by rw [List.length_append]; exact hz, ra.append rb, rfl⟩⟩
  · rw [if_neg h] at hg; cases hg
theorem sAdd : OpS mg (rAddA mg.K) dAdd := fun F H v w x y d Q s hv hw hg k => by
  cases x <;> cases y <;> try cases hg
  · exact .inl (.inl ⟨_, _, hv.int, hw.int, k _ F H (growNone s) (.int _)⟩)
  · rename_i x y
    replace hg : (if x.length + y.length ≤ 1000000 then some (D.str (x ++ y)) else none) = some d := hg
    by_cases h : x.length + y.length ≤ 1000000
    · rw [if_pos h] at hg; cases hg
      exact .inl (.inr ⟨_, _, hv.str, hw.str, Nat.le_trans h mil, k _ F H (growNone s) (.str _)⟩)
    · rw [if_neg h] at hg; cases hg
  · rename_i xs ys
    replace hg : (if xs.length + ys.length ≤ 1000000 then some (D.tup (xs ++ ys)) else none) = some d := hg
    by_cases h : xs.length + ys.length ≤ 1000000
    · rw [if_pos h] at hg; cases hg
      obtain ⟨a, vs, rfl, ha, za, ra⟩ := hv.tup s
      obtain ⟨b, ws, rfl, hb, zb, rb⟩ := hw.tup s
      have hz : vs.length + ws.length ≤ sizeLine := by rw [ra.length, rb.length]; exact Nat.le_trans h mil
      have repB : ∀ {v : V} {ds : List D}, Rd1 mg F H v (.tup ds) → Rep mg F v (.tup ds) := fun {v ds} h => by
        rcases h with h | ⟨_, _, _, t⟩
        · exact h
        · exact t.elim
      refine .inr (.inr ⟨a, b, vs, ws, rfl, rfl, .inl (.inl ha), .inl (.inl hb), hz, fun e => ?_, fun _ e => ?_, fun _ _ p hp => ?_⟩)
      · have e2 : xs = [] := by
          cases xs with
          | nil => rfl
          | cons a r => rw [e] at ra; cases ra
        subst e2
        exact k _ F H (growNone s) (repB hw)
      · have e2 : ys = [] := by
          cases ys with
          | nil => rfl
          | cons a r => rw [e] at rb; cases rb
        subst e2
        rw [List.append_nil] at k
        exact k _ F H (growNone s) (repB hv)
      · have gr := growUpd (o := HO.tup (vs ++ ws)) s hp
        exact k _ _ _ gr (.tup upd_same (by rw [List.length_append]; exact hz) ((ra.append rb).mono (gr.same s)))
    · rw [if_neg h] at hg; cases hg
  · rename_i xs ys
    exact .inr (.inl (nCat.s F H v w (.lst xs) (.lst ys) d Q s hv hw hg k))

/-! ### == of any data -/
mutual
def toPy : D → Option PyData
  | .non => some .none
  | .bl b => some (.bool b)
  | .int i => some (.int i)
  | .str x => some (.str x)
  | .tup ds => match toPys ds with
    | some ps => some (.tuple ps)
    | none => none
  | .lst ds => match toPys ds with
    | some ps => some (.list ps)
    | none => none
  | _ => none
def toPys : List D → Option (List PyData)
  | [] => some []
  | d :: r => match toPy d, toPys r with
    | some p, some ps => some (p :: ps)
    | _, _ => none
end
mutual
theorem Rep.dp {K : PySem.W.Frag} : ∀ {v : V} {d : D} {p : PyData}, Rep mg H v d → toPy d = some p → Dp K H v p
  | _, _, _, .non, e => by cases e; exact .non
  | _, _, _, .bl b, e => by cases e; exact .bl b
  | _, _, _, .int i, e => by cases e; exact .int i
  | _, _, _, .str x, e => by cases e; exact .str x
  | _, .tup ds, p, .tup h z r, e => by
    replace e : (match toPys ds with | some ps => some (PyData.tuple ps) | none => none) = some p := e
    cases q : toPys ds with
    | none => rw [q] at e; cases e
    | some ps => rw [q] at e; cases e; exact .tup (.inl (.inl h)) (RepAll.dp r q)
  | _, .lst ds, p, .lst h z r, e => by
    replace e : (match toPys ds with | some ps => some (PyData.list ps) | none => none) = some p := e
    cases q : toPys ds with
    | none => rw [q] at e; cases e
    | some ps => rw [q] at e; cases e; exact .lst (.inl (.inl h)) (RepAll.dp r q)
  | _, _, _, .scr _ _, e => by cases e
  | _, _, _, .dk _ _ _ _, e => by cases e
  | _, _, _, .dt _ _ _ _, e => by cases e
  | _, _, _, .ins _ _ _ _ _, e => by cases e
theorem RepAll.dp {K : PySem.W.Frag} : ∀ {vs : List V} {ds : List D} {ps : List PyData}, RepAll mg H vs ds → toPys ds = some ps → DpAll K H vs ps
  | _, _, _, .nil, e => by cases e; exact .nil
  | _, d :: r, ps, .cons h t, e => by
    replace e : (match toPy d, toPys r with | some p, some ps => some (p :: ps) | _, _ => none) = some ps := e
    cases q : toPy d with
    | none => rw [q] at e; cases e
    | some p =>
      cases q2 : toPys r with
      | none => rw [q, q2] at e; cases e
      | some ps2 => rw [q, q2] at e; cases e; exact .cons (Rep.dp h q) (RepAll.dp t q2)
end
def eqPy (x y : D) : Option Bool := match toPy x, toPy y with
  | some p, some q => if SeqAt.shaped p && SeqAt.shaped q then some (PyData.eqv p q) else none
  | _, _ => none
def dEqB : D → D → Option Bool
  | .int i, .int j => some (decide (i = j))
  | .str x, .str y => some (decide (x = y))
  | x, y => eqPy x y
def dEq (x y : D) : Option D := match dEqB x y with
  | some b => some (.bl b)
  | none => none
def dNe (x y : D) : Option D := match dEqB x y with
  | some b => some (.bl (!b))
  | none => none
theorem eqPy_some {x y : D} {b : Bool} (h : eqPy x y = some b) : ∃ p q, toPy x = some p ∧ toPy y = some q ∧ SeqAt.shaped p = true ∧ SeqAt.shaped q = true ∧ PyData.eqv p q = b := by
  unfold eqPy at h
  cases e1 : toPy x with
  | none => rw [e1] at h; cases h
  | some p =>
    cases e2 : toPy y with
    | none => rw [e1, e2] at h; cases h
    | some q =>
      rw [e1, e2] at h
      replace h : (if (SeqAt.shaped p && SeqAt.shaped q) = true then some (PyData.eqv p q) else none) = some b := h
      by_cases hs : (SeqAt.shaped p && SeqAt.shaped q) = true
      · rw [if_pos hs] at h; cases h
        rw [Bool.and_eq_true] at hs
        exact ⟨p, q, rfl, rfl, hs.1, hs.2, rfl⟩
      · rw [if_neg hs] at h; cases h
def rEqA (K : PySem.W.Frag) : R2 := fun x y H Q => rEq x y H Q ∨ rEqD K x y H Q
def rNeA (K : PySem.W.Frag) : R2 := fun x y H Q => rNe x y H Q ∨ rNeD K x y H Q
theorem op_eqA (hu : X.A.units + 64 < cLine) : OpR X (compareOp .Eq) (rEqA X.K) := op_eq.or (op_eqD hu)
theorem op_neA (hu : X.A.units + 64 < cLine) : OpR X (compareOp .NotEq) (rNeA X.K) := op_ne.or (op_neD hu)
theorem dEqB_some {x y : D} {b : Bool} (h : dEqB x y = some b) : (∃ i j, x = .int i ∧ y = .int j ∧ b = decide (i = j)) ∨ (∃ i j, x = .str i ∧ y = .str j ∧ b = decide (i = j)) ∨ eqPy x y = some b := by
  cases x <;> cases y <;> first | (cases h; exact .inl ⟨_, _, rfl, rfl, rfl⟩) | (cases h; exact .inr (.inl ⟨_, _, rfl, rfl, rfl⟩)) | exact .inr (.inr h)
theorem decV_int {i j : Int} : decide (V.int i = V.int j) = decide (i = j) := by
  by_cases h : i = j
  · subst h; simp
  · rw [decide_eq_false h, decide_eq_false fun e => h (V.int.inj e)]
theorem decV_str {i j : Str} : decide (V.str i = V.str j) = decide (i = j) := by
  by_cases h : i = j
  · subst h; simp
  · rw [decide_eq_false h, decide_eq_false fun e => h (V.str.inj e)]
theorem sEq : OpS mg (rEqA mg.K) dEq := fun F H v w x y d Q s hv hw hg k => by
  unfold dEq at hg
  cases q : dEqB x y with
  | none => rw [q] at hg; cases hg
  | some b =>
    rw [q] at hg; cases hg
    have k := k (.bl b) F H (growNone s) (.bl b)
    rcases dEqB_some q with ⟨i, j, rfl, rfl, rfl⟩ | ⟨i, j, rfl, rfl, rfl⟩ | q
    · rw [hv.int, hw.int]
      exact .inl ⟨rfl, by rw [decV_int]; exact k⟩
    · rw [hv.str, hw.str]
      exact .inl ⟨rfl, by rw [decV_str]; exact k⟩
    · obtain ⟨p, p', e1, e2, s1, s2, rfl⟩ := eqPy_some q
      exact .inr ⟨p, p', (hv.rep s).dp e1, (hw.rep s).dp e2, s1, s2, k⟩
theorem sNe : OpS mg (rNeA mg.K) dNe := fun F H v w x y d Q s hv hw hg k => by
  unfold dNe at hg
  cases q : dEqB x y with
  | none => rw [q] at hg; cases hg
  | some b =>
    rw [q] at hg; cases hg
    have k := k (.bl (!b)) F H (growNone s) (.bl (!b))
    rcases dEqB_some q with ⟨i, j, rfl, rfl, rfl⟩ | ⟨i, j, rfl, rfl, rfl⟩ | q
    · rw [hv.int, hw.int]
      exact .inl ⟨rfl, by rw [decV_int]; exact k⟩
    · rw [hv.str, hw.str]
      exact .inl ⟨rfl, by rw [decV_str]; exact k⟩
    · obtain ⟨p, p', e1, e2, s1, s2, rfl⟩ := eqPy_some q
      exact .inr ⟨p, p', (hv.rep s).dp e1, (hw.rep s).dp e2, s1, s2, k⟩

/-! ### is None, is True -/
def isNonD : D → Bool
  | .non => true
  | _ => false
def dIsN (x y : D) : Option D := if isNonD y then some (.bl (isNonD x)) else none
def dNotN (x y : D) : Option D := if isNonD y then some (.bl (!isNonD x)) else none
theorem isNonD_of {y : D} (h : isNonD y = true) : y = .non := by cases y <;> first | rfl | cases h
theorem Rd1.isN {v : V} {x : D} (h : Rd1 mg F H v x) : decide (v = .non) = isNonD x := by
  cases x with
  | non => rw [h.non]; rfl
  | bl b => rw [h.bl]; rfl
  | int i => rw [h.int]; rfl
  | str z => rw [h.str]; rfl
  | _ =>
    rcases h with h | ⟨a, l, e, t⟩
    · cases h <;> rfl
    · subst e; rfl
theorem sIsN : OpS mg (fun x y H Q => y = .non ∧ Q (.bl (decide (x = .non))) H) dIsN := fun F H v w x y d Q s hv hw hg k => by
  unfold dIsN at hg
  by_cases h : isNonD y = true
  · rw [if_pos h] at hg; cases hg
    rw [isNonD_of h] at hw
    exact ⟨hw.non, by rw [hv.isN]; exact k _ F H (growNone s) (.bl _)⟩
  · rw [if_neg h] at hg; cases hg
theorem sNotN : OpS mg (fun x y H Q => y = .non ∧ Q (.bl (!decide (x = .non))) H) dNotN := fun F H v w x y d Q s hv hw hg k => by
  unfold dNotN at hg
  by_cases h : isNonD y = true
  · rw [if_pos h] at hg; cases hg
    rw [isNonD_of h] at hw
    exact ⟨hw.non, by rw [hv.isN]; exact k _ F H (growNone s) (.bl _)⟩
  · rw [if_neg h] at hg; cases hg
def isBlD (b : Bool) : D → Bool
  | .bl c => c == b
  | _ => false
def dIsB (x : D) : D → Option D
  | .bl b => some (.bl (isBlD b x))
  | _ => none
/-- x is True, x is False, whatever x is -/
def rIsBA : R2 := fun x y H Q => ∃ b : Bool, y = .bl b ∧ Q (.bl (decide (x = .bl b))) H
theorem op_isBA : OpR X (compareOp .Is) rIsBA := by
  intro pins s σ H x y v u Q I rx ry h
  obtain ⟨b, rfl, q⟩ := h
  cases (show u = Value.bool b from ry)
  have fin : ∀ {c : Bool}, decide (x = V.bl b) = c → EP X pins σ Q (.bool c) s := fun {c} e => ⟨.bl c, H, I, rfl, by rw [← e]; exact q⟩
  cases x with
  | bl a =>
    cases (show v = Value.bool a from rx)
    by_cases e : a = b
    · subst e
      exact wpAny_is_self rfl (fin (by simp))
    · exact wpAny_is_other rfl (fun z => e (Value.bool.inj z)) (fin (by simp [e]))
  | non => cases rx; exact wpAny_is_other rfl (fun z => nomatch z) (fin (by simp))
  | int i => obtain ⟨t, rfl⟩ := rx; exact wpAny_is_other rfl (fun z => nomatch z) (fin (by simp))
  | str i => obtain ⟨t, rfl⟩ := rx; exact wpAny_is_other rfl (fun z => nomatch z) (fin (by simp))
  | byt i => obtain ⟨t, rfl⟩ := rx; exact wpAny_is_other rfl (fun z => nomatch z) (fin (by simp))
  | flt i => obtain ⟨t, rfl⟩ := rx; exact wpAny_is_other rfl (fun z => nomatch z) (fin (by simp))
  | ref a => cases rx; exact wpAny_is_other rfl (fun z => nomatch z) (fin (by simp))
  | ty n => cases rx; exact wpAny_is_other rfl (fun z => nomatch z) (fin (by simp))
theorem Rd1.isB {v : V} {x : D} {b : Bool} (h : Rd1 mg F H v x) : decide (v = .bl b) = isBlD b x := by
  cases x with
  | non => rw [h.non]; rfl
  | bl c => rw [h.bl]; cases c <;> cases b <;> rfl
  | int i => rw [h.int]; rfl
  | str z => rw [h.str]; rfl
  | _ =>
    rcases h with h | ⟨a, l, e, t⟩
    · cases h <;> rfl
    · subst e; rfl
theorem sIsB : OpS mg rIsBA dIsB := fun F H v w x y d Q s hv hw hg k => by
  cases y <;> cases hg
  exact ⟨_, hw.bl, by rw [hv.isB]; exact k _ F H (growNone s) (.bl _)⟩

/-! ### items -/
def rIxD : R2 := fun x y H Q => ∃ a v, x = .ref a ∧ DGet H a y (some v) ∧ Q v H
theorem ix_dict (hu : X.A.units + 1 < cLine) : IxR X rIxD := by
  intro value slice pins s σ H x y v u Q I rx ry h hs
  obtain ⟨a, w, rfl, g, q⟩ := h
  cases rx
  have hT := dict_typeIs I g
  unfold PyProof.Rows.subscriptTail
  refine wpAny_bind ?_
  rw [getitemInPython_of_ne hT.not_modules]
  refine wpAny_bind (wpAny_specialOf hT PySem.F.slot_dict_getitem.lookup ?_)
  have fin : wpAny (model X.prog X.w) X.A (subscripted slice false (.ref a) u) (fun r s₃ => wpAny (model X.prog X.w) X.A (letTemporaryGo value (.ref a) r >>= fun _ => pure r) (EP X pins σ Q) X.xe s₃) X.xe s := by
    rw [hs]
    exact wpAny_operating (d_getItem hu I g ry fun w' s3 I3 rw' => wpAny_bind (wpAny_letTemporaryGo (wpAny_pure ⟨w, H, I3, rw', q⟩)))
  first
    | exact wpAny_pure (wpAny_bind fin)
    | exact wpAny_bind (wpAny_pure (wpAny_bind fin))
    | exact wpAny_bind fin
end
end Q

namespace Q
open PySem PySem.Spec L2

section
variable {X : Cx} {mg : GX} {F F' F2 F1 H H' H2 H1 : Hp} {cs cs' cs2 cs1 : Nat → List Addr} {ε ε' ε1 : Env} {σ : St} {π : Nat → V}

/-! ### keys -/
def dKey : D → Option Key
  | .int i => some (.inl i)
  | .str x => some (.inr x)
  | _ => none
def dKeys : List D → Option (List Key)
  | [] => some []
  | d :: r => match dKey d, dKeys r with
    | some k, some ks => some (k :: ks)
    | _, _ => none
def assoc {κ : Type} [DecidableEq κ] : List κ → List D → κ → Option D
  | k' :: ks, d :: ds, k => if k' = k then some d else assoc ks ds k
  | _, _, _ => none
theorem dKey_rep {v : V} {d : D} {k : Key} (h : Rep mg F v d) (e : dKey d = some k) : v = kV k := by
  cases h <;> cases e <;> rfl
theorem dKeys_rep : ∀ {vs : List V} {ds : List D} {ks : List Key}, RepAll mg F vs ds → dKeys ds = some ks → vs = ks.map kV
  | _, _, _, .nil, e => by cases e; rfl
  | _, d :: r, ks, .cons h t, e => by
    replace e : (match dKey d, dKeys r with | some k, some ks => some (k :: ks) | _, _ => none) = some ks := e
    cases q1 : dKey d with
    | none => rw [q1] at e; cases e
    | some k =>
      cases q2 : dKeys r with
      | none => rw [q1, q2] at e; cases e
      | some ks2 => rw [q1, q2] at e; cases e; rw [dKey_rep h q1, dKeys_rep t q2]; rfl
theorem assoc_val {κ : Type} [DecidableEq κ] {k : κ} : ∀ {kvs : List (κ × V)} {ds : List D}, RepAll mg F (kvs.map (·.2)) ds → match assoc (kvs.map (·.1)) ds k with
    | some d => ∃ v, valV kvs k = some v ∧ Rep mg F v d
    | none => valV kvs k = none
  | [], _, r => by
    cases r
    exact rfl
  | p :: kvs, _, .cons (d := d) (ds := ds) h r => by
    show match (if p.1 = k then some d else assoc (kvs.map (·.1)) ds k) with
      | some d => ∃ v, valV (p :: kvs) k = some v ∧ Rep mg F v d
      | none => valV (p :: kvs) k = none
    by_cases e : p.1 = k
    · rw [if_pos e, valV_pos e]
      exact ⟨_, rfl, h⟩
    · rw [if_neg e, valV_neg e]
      exact assoc_val r
/-- d[k] -/
def dGet : D → D → Option D
  | .dk ks ds, x => match dKey x with
    | some k => assoc ks ds k
    | none => none
  | .dt ks ds, .tup xs => match dKeys xs with
    | some k => assoc ks ds k
    | none => none
  | _, _ => none
def hasK {κ : Type} [DecidableEq κ] (ks : List κ) (k : κ) : Bool := ks.any fun k' => decide (k' = k)
/-- whether k in d -/
def dHas : D → D → Option Bool
  | x, .dk ks _ => match dKey x with
    | some k => some (hasK ks k)
    | none => none
  | .tup xs, .dt ks _ => match dKeys xs with
    | some k => some (hasK ks k)
    | none => none
  | _, _ => none
theorem dkey_rd {v : V} {d : D} {k : Key} (h : Rd1 mg F H v d) (s : Same F H) (e : dKey d = some k) : v = kV k := dKey_rep (h.rep s) e
theorem sGet : OpS mg rIxD dGet := fun F H v w x y d Q s hv hw hg k => by
  cases x with
  | dk ks ds =>
    obtain ⟨a, kvs, rfl, ha, z, rfl, r⟩ := hv.dk s
    replace hg : (match dKey y with | some k => assoc (kvs.map (·.1)) ds k | none => none) = some d := hg
    cases q : dKey y with
    | none => rw [q] at hg; cases hg
    | some key =>
      rw [q] at hg
      have := assoc_val (k := key) r
      rw [show assoc (kvs.map (·.1)) ds key = some d from hg] at this
      obtain ⟨v', e1, rv⟩ := this
      refine ⟨a, v', rfl, ?_, k v' F H (growNone s) rv⟩
      rw [dkey_rd hw s q, ← e1]
      exact .k ha
  | dt ks ds =>
    cases y with
    | tup xs =>
      obtain ⟨a, kvs, rfl, ha, z, rfl, r⟩ := hv.dt s
      obtain ⟨b, vs, rfl, hb, zb, rb⟩ := hw.tup s
      replace hg : (match dKeys xs with | some k => assoc (kvs.map (·.1)) ds k | none => none) = some d := hg
      cases q : dKeys xs with
      | none => rw [q] at hg; cases hg
      | some key =>
        rw [q] at hg
        have := assoc_val (k := key) r
        rw [show assoc (kvs.map (·.1)) ds key = some d from hg] at this
        obtain ⟨v', e1, rv⟩ := this
        refine ⟨a, v', rfl, ?_, k v' F H (growNone s) rv⟩
        rw [← e1]
        exact .t ha (by rw [hb, dKeys_rep rb q])
    | _ => cases hg
  | _ => cases hg
theorem any_mem {κ : Type} [DecidableEq κ] {k : κ} {kvs : List (κ × V)} : (valV kvs k).isSome = hasK (kvs.map (·.1)) k := by
  rw [← valV_any]
  unfold hasK
  rw [List.any_map]
  rfl
def rDIn (neg : Bool) : R2 := fun x y H Q => ∃ a o, y = .ref a ∧ DGet H a x o ∧ Q (.bl (if neg then !o.isSome else o.isSome)) H
theorem op_din (hu : X.A.units + 1 < cLine) : OpR X (compareOp .In) (rDIn false) := by
  intro pins s σ H x y v u Q I rx ry h
  obtain ⟨a, o, rfl, g, q⟩ := h
  cases ry
  exact d_in hu I g rx fun s' I' => ⟨.bl _, H, I', rfl, q⟩
theorem op_dnotin (hu : X.A.units + 1 < cLine) : OpR X (compareOp .NotIn) (rDIn true) := by
  intro pins s σ H x y v u Q I rx ry h
  obtain ⟨a, o, rfl, g, q⟩ := h
  cases ry
  exact d_notIn hu I g rx fun s' I' => ⟨.bl _, H, I', rfl, q⟩
theorem dHas_some {x y : D} {b : Bool} (h : dHas x y = some b) : (∃ ks ds k, y = .dk ks ds ∧ dKey x = some k ∧ b = hasK ks k) ∨ ∃ xs ks ds k, x = .tup xs ∧ y = .dt ks ds ∧ dKeys xs = some k ∧ b = hasK ks k := by
  cases y with
  | dk ks ds =>
    replace h : (match dKey x with | some k => some (hasK ks k) | none => none) = some b := by cases x <;> exact h
    cases q : dKey x with
    | none => rw [q] at h; cases h
    | some k => rw [q] at h; cases h; exact .inl ⟨ks, ds, k, rfl, rfl, rfl⟩
  | dt ks ds =>
    cases x with
    | tup xs =>
      replace h : (match dKeys xs with | some k => some (hasK ks k) | none => none) = some b := h
      cases q : dKeys xs with
      | none => rw [q] at h; cases h
      | some k => rw [q] at h; cases h; exact .inr ⟨xs, ks, ds, k, rfl, rfl, q, rfl⟩
    | _ => cases h
  | _ => cases x <;> cases h
def negB (neg : Bool) : Option Bool → Option D
  | some b => some (.bl (if neg then !b else b))
  | none => none
theorem negB_some {neg : Bool} {o : Option Bool} {d : D} (h : negB neg o = some d) : ∃ b, o = some b ∧ d = .bl (if neg then !b else b) := by
  cases o with
  | none => cases h
  | some b => cases h; exact ⟨b, rfl, rfl⟩
theorem hasV {neg : Bool} {x y : D} {b : Bool} {v w : V} {Q : VK} (s : Same F H) (hv : Rd1 mg F H v x) (hw : Rd1 mg F H w y) (q : dHas x y = some b) (k : Q (.bl (if neg then !b else b)) H) : rDIn neg v w H Q := by
  rcases dHas_some q with ⟨ks, ds, key, rfl, q1, rfl⟩ | ⟨xs, ks, ds, key, rfl, rfl, q1, rfl⟩
  · obtain ⟨a, kvs, rfl, ha, z, rfl, r⟩ := hw.dk s
    refine ⟨a, valV kvs key, rfl, ?_, ?_⟩
    · rw [dkey_rd hv s q1]; exact .k ha
    · rw [any_mem]; exact k
  · obtain ⟨a, kvs, rfl, ha, z, rfl, r⟩ := hw.dt s
    obtain ⟨b, vs, rfl, hb, zb, rb⟩ := hv.tup s
    refine ⟨a, valV kvs key, rfl, .t ha (by rw [hb, dKeys_rep rb q1]), ?_⟩
    rw [any_mem]; exact k

/-! ### items -/
def dIx : D → D → Option D
  | .lst ds, .int i => atI ds i
  | .tup ds, .int i => atI ds i
  | .str z, .int i => if z.length ≤ 1000000 then match atI z.cps.toList i with
      | some c => some (.str ⟨#[c]⟩)
      | none => none
    else none
  | _, _ => none
def dItem (x y : D) : Option D := match dIx x y with
  | some d => some d
  | none => dGet x y
theorem RepAll.atI {vs : List V} {ds : List D} {i : Int} {d : D} (r : RepAll mg F vs ds) (e : L2.atI ds i = some d) : ∃ v, L2.atI vs i = some v ∧ Rep mg F v d := by
  unfold L2.atI at e ⊢
  rw [r.length]
  cases q : ixN ds.length i with
  | none => rw [q] at e; cases e
  | some j =>
    rw [q] at e
    exact r.get e
theorem sIx : OpS mg (fun x y H Q => (rIxL mg.K x y H Q ∨ rIxT mg.K x y H Q) ∨ rIxS x y H Q) dIx := fun F H v w x y d Q s hv hw hg k => by
  cases x with
  | lst ds =>
    cases y with
    | int i =>
      obtain ⟨a, vs, rfl, ha, z, r⟩ := hv.lst s
      obtain ⟨v', e, rv⟩ := r.atI hg
      exact .inl (.inl ⟨a, vs, i, v', rfl, hw.int, .inl (.inl ha), e, k v' F H (growNone s) rv⟩)
    | _ => cases hg
  | tup ds =>
    cases y with
    | int i =>
      obtain ⟨a, vs, rfl, ha, z, r⟩ := hv.tup s
      obtain ⟨v', e, rv⟩ := r.atI hg
      exact .inl (.inr ⟨a, vs, i, v', rfl, hw.int, .inl (.inl ha), e, k v' F H (growNone s) rv⟩)
    | _ => cases hg
  | str z =>
    cases y with
    | int i =>
      replace hg : (if z.length ≤ 1000000 then match L2.atI z.cps.toList i with | some c => some (D.str ⟨#[c]⟩) | none => none else none) = some d := hg
      by_cases hz : z.length ≤ 1000000
      · rw [if_pos hz] at hg
        cases q : L2.atI z.cps.toList i with
        | none => rw [q] at hg; cases hg
        | some c =>
          rw [q] at hg; cases hg
          exact .inr ⟨z, i, c, hv.str, hw.int, Nat.le_trans hz mil, q, k _ F H (growNone s) (.str _)⟩
      · rw [if_neg hz] at hg; cases hg
    | _ => cases hg
  | _ => cases hg
def rSubA (K : PySem.W.Frag) : R2 := fun x y H Q => ((rIxL K x y H Q ∨ rIxT K x y H Q) ∨ rIxS x y H Q) ∨ rIxD x y H Q
theorem ix_all (hu : X.A.units + 1 < cLine) : IxR X (rSubA X.K) := ((ix_list.or ix_tup).or ix_str).or (ix_dict hu)
theorem sItem : OpS mg (rSubA mg.K) dItem := OpS.or sIx sGet fun x y d h => by
  unfold dItem at h
  cases q : dIx x y with
  | some d' => rw [q] at h; cases h; exact .inl rfl
  | none => rw [q] at h; exact .inr h

/-! ### in -/
def flatD : D → Bool
  | .non => true
  | .bl _ => true
  | .int _ => true
  | .str _ => true
  | _ => false
/-- == of flat things -/
def eqF : D → D → Bool
  | .non, .non => true
  | .bl a, .bl b => a == b
  | .bl a, .int b => (if a then 1 else 0) == b
  | .int a, .bl b => a == (if b then 1 else 0)
  | .int a, .int b => decide (a = b)
  | .str a, .str b => decide (a = b)
  | _, _ => false
def inSeq (x : D) (ds : List D) : Option Bool := if flatD x && ds.all flatD then some (ds.any fun y => eqF y x) else none
def inList (x : D) (ds : List D) : Option Bool := match toPy x, toPys ds with
  | some p, some ps => if SeqAt.shaped p && SeqAt.shaped (.list ps) then some (ps.any fun z => PyData.eqv z p) else none
  | _, _ => none
def dInB (x y : D) : Option Bool := match y with
  | .lst ds => match inSeq x ds with
    | some b => some b
    | none => inList x ds
  | .tup ds => inSeq x ds
  | _ => dHas x y
def rInA (K : PySem.W.Frag) : R2 := fun x y H Q => (rIn K false x y H Q ∨ rInD K x y H Q) ∨ rDIn false x y H Q
def rNotInA (K : PySem.W.Frag) : R2 := fun x y H Q => (rIn K true x y H Q ∨ rNotInD K x y H Q) ∨ rDIn true x y H Q
theorem op_inA (hu : X.A.units + 65 < cLine) : OpR X (compareOp .In) (rInA X.K) := (op_in_seq.or (op_inD hu)).or (op_din (by omega))
theorem op_notInA (hu : X.A.units + 65 < cLine) : OpR X (compareOp .NotIn) (rNotInA X.K) := (op_notIn_seq.or (op_notInD hu)).or (op_dnotin (by omega))
theorem flat_rep {v : V} {d : D} (h : Rep mg F v d) : flatV v = flatD d := by
  cases h <;> rfl
theorem eqF_rep {v w : V} {d e : D} (h : Rep mg F v d) (h' : Rep mg F w e) (f : flatD d = true) (f' : flatD e = true) : eqV v w = eqF d e := by
  cases h <;> first | (cases f; done) | (cases h' <;> first | (cases f'; done) | rfl | (simp [eqV, eqF]))
theorem flat_all : ∀ {vs : List V} {ds : List D}, RepAll mg F vs ds → vs.all flatV = ds.all flatD
  | _, _, .nil => rfl
  | _, _, .cons h r => by rw [List.all_cons, List.all_cons, flat_rep h, flat_all r]
theorem any_eqF {v : V} {x : D} (hx : Rep mg F v x) (fx : flatD x = true) : ∀ {vs : List V} {ds : List D}, RepAll mg F vs ds → ds.all flatD = true → inV v vs = ds.any fun y => eqF y x
  | _, _, .nil, _ => rfl
  | _, _, .cons h r, f => by
    rw [List.all_cons, Bool.and_eq_true] at f
    unfold inV
    rw [List.any_cons, List.any_cons, eqF_rep h hx f.1 fx]
    exact congrArg _ (any_eqF hx fx r f.2)
theorem inSeq_some {x : D} {ds : List D} {b : Bool} (h : inSeq x ds = some b) : flatD x = true ∧ ds.all flatD = true ∧ b = ds.any fun y => eqF y x := by
  unfold inSeq at h
  by_cases q : (flatD x && ds.all flatD) = true
  · rw [if_pos q] at h; cases h
    rw [Bool.and_eq_true] at q
    exact ⟨q.1, q.2, rfl⟩
  · rw [if_neg q] at h; cases h
theorem inList_some {x : D} {ds : List D} {b : Bool} (h : inList x ds = some b) : ∃ p ps, toPy x = some p ∧ toPy (.lst ds) = some (.list ps) ∧ SeqAt.shaped p = true ∧ SeqAt.shaped (.list ps) = true ∧ b = ps.any fun z => PyData.eqv z p := by
  unfold inList at h
  cases e1 : toPy x with
  | none => rw [e1] at h; cases h
  | some p =>
    cases e2 : toPys ds with
    | none => rw [e1, e2] at h; cases h
    | some ps =>
      rw [e1, e2] at h
      replace h : (if (SeqAt.shaped p && SeqAt.shaped (.list ps)) = true then some (ps.any fun z => PyData.eqv z p) else none) = some b := h
      by_cases q : (SeqAt.shaped p && SeqAt.shaped (.list ps)) = true
      · rw [if_pos q] at h; cases h
        rw [Bool.and_eq_true] at q
        refine ⟨p, ps, rfl, ?_, q.1, q.2, rfl⟩
        show (match toPys ds with | some ps => some (PyData.list ps) | none => none) = some (PyData.list ps)
        rw [e2]
      · rw [if_neg q] at h; cases h
theorem sInA {neg : Bool} {r1 r2 : R2} (h1 : r1 = rIn mg.K neg) (h2 : r2 = if neg then rNotInD mg.K else rInD mg.K) : OpS mg (fun x y H Q => (r1 x y H Q ∨ r2 x y H Q) ∨ rDIn neg x y H Q) (fun x y => negB neg (dInB x y)) := fun F H v w x y d Q s hv hw hg k => by
  subst h1 h2
  obtain ⟨b, q, rfl⟩ := negB_some hg
  · skip
    have k := k _ F H (growNone s) (.bl _)
    have seq : ∀ {a : Addr} {vs : List V} {ds : List D}, (SqL mg.K H a vs ∨ SqT mg.K H a vs) → RepAll mg F vs ds → inSeq x ds = some b → rIn mg.K neg v (.ref a) H Q := fun {a vs ds} hl r e => by
      obtain ⟨f1, f2, rfl⟩ := inSeq_some e
      have rx := hv.rep s
      have rr := r.mono s
      exact ⟨a, vs, rfl, hl, by rw [flat_rep rx]; exact f1, by rw [flat_all rr]; exact f2, by rw [any_eqF rx f1 rr f2]; exact k⟩
    cases y with
    | lst ds =>
      replace q : (match inSeq x ds with | some b => some b | none => inList x ds) = some b := q
      obtain ⟨a, vs, rfl, ha, z, r⟩ := hw.lst s
      cases e : inSeq x ds with
      | some b' =>
        rw [e] at q; cases q
        exact .inl (.inl (seq (.inl (.inl (.inl ha))) r e))
      | none =>
        rw [e] at q
        obtain ⟨p, ps, e1, e2, s1, s2, rfl⟩ := inList_some q
        refine .inl (.inr ?_)
        have d1 := (hv.rep s).dp (K := mg.K) e1
        have d2 := (hw.rep s).dp (K := mg.K) e2
        cases neg
        · exact ⟨p, ps, d1, d2, s1, s2, k⟩
        · exact ⟨p, ps, d1, d2, s1, s2, k⟩
    | tup ds =>
      obtain ⟨a, vs, rfl, ha, z, r⟩ := hw.tup s
      exact .inl (.inl (seq (.inr (.inl (.inl ha))) r q))
    | _ =>
      exact .inr (hasV s hv hw q k)
def dIn (x y : D) : Option D := negB false (dInB x y)
def dNotIn (x y : D) : Option D := negB true (dInB x y)
theorem sIn : OpS mg (rInA mg.K) dIn := sInA (neg := false) rfl rfl
theorem sNotIn : OpS mg (rNotInA mg.K) dNotIn := sInA (neg := true) rfl rfl
end
end Q

namespace Q
open PySem PySem.Spec L2

section
variable {X : Cx} {mg : GX} {F F' F2 F1 H H' H2 H1 : Hp} {cs cs' cs2 cs1 : Nat → List Addr} {ε ε' ε1 : Env} {σ : St} {π : Nat → V}

/-! ### calls of built-ins by values -/
inductive Rd1s (mg : GX) (F H : Hp) : List V → List D → Prop
  | nil : Rd1s mg F H [] []
  | cons {v : V} {d : D} {vs : List V} {ds : List D} : Rd1 mg F H v d → Rd1s mg F H vs ds → Rd1s mg F H (v :: vs) (d :: ds)
def ClS (mg : GX) (r : List V → Hp → VK → Prop) (g : List D → Option D) : Prop := ∀ F H vs ds d Q, Same F H → Rd1s mg F H vs ds → g ds = some d → (∀ z F' H', Grow F H F' H' → Rep mg F' z d → Q z H') → r vs H Q
def ClN (mg : GX) (r : List V → Hp → VK → Prop) (g : List D → Option D) : Prop := ∀ F H vs ds d Q, Same F H → Rd1s mg F H vs ds → g ds = some d → (∀ p o, H p = none → Top mg F (upd H p o) p [p] d → Q (.ref p) (upd H p o)) → r vs H Q
theorem ClN.s {r : List V → Hp → VK → Prop} {g : List D → Option D} (h : ClN mg r g) : ClS mg r g := fun F H vs ds d Q s hv hg k =>
  h F H vs ds d Q s hv hg fun p o hp t => k _ _ _ (growUpd s hp) (t.new_rep s hp)
def rdAll : List L → Env → Option (List D)
  | [], _ => some []
  | l :: r, ε => match l.rd ε, rdAll r ε with
    | some d, some ds => some (d :: ds)
    | _, _ => none
def mrdAll (ls : List L) : M (List D) := fun ε => match rdAll ls ε with
  | some ds => some (ds, ε)
  | none => none
theorem mrdAll_some {ls : List L} {ε ε2 : Env} {ds : List D} (h : mrdAll ls ε = some (ds, ε2)) : rdAll ls ε = some ds ∧ ε2 = ε := by
  unfold mrdAll at h
  cases e : rdAll ls ε with
  | none => rw [e] at h; cases h
  | some d => rw [e] at h; cases h; exact ⟨rfl, rfl⟩
theorem ER.rdAll (R : ER mg π ε σ H F cs) : ∀ {ls : List L} {vs : List V} {ds : List D}, LRs mg σ F vs ls → rdAll ls ε = some ds → Rd1s mg F H vs ds
  | [], _, _, .nil, e => by cases e; exact .nil
  | l :: r, _, ds, .cons h t, e => by
    replace e : (match l.rd ε, Q.rdAll r ε with | some d, some ds => some (d :: ds) | _, _ => none) = some ds := e
    cases q1 : l.rd ε with
    | none => rw [q1] at e; cases e
    | some d =>
      cases q2 : Q.rdAll r ε with
      | none => rw [q1, q2] at e; cases e
      | some ds2 => rw [q1, q2] at e; cases e; exact .cons (R.rd h q1) (ER.rdAll R t q2)
def blt (g : List D → Option D) (f : M (List L)) : M D := mb f fun ls => mb (mrdAll ls) fun ds => mo (g ds)
theorem blt_some {g : List D → Option D} {f : M (List L)} {ε ε2 : Env} {d : D} (h : blt g f ε = some (d, ε2)) : ∃ ls ds, f ε = some (ls, ε2) ∧ rdAll ls ε2 = some ds ∧ g ds = some d := by
  obtain ⟨ls, ε1, h1, k1⟩ := mb_some h
  obtain ⟨ds, ε3, h3, k2⟩ := mb_some k1
  obtain ⟨h3, rfl⟩ := mrdAll_some h3
  obtain ⟨h5, rfl⟩ := mo_some k2
  exact ⟨ls, ds, h1, h3, h5⟩
theorem tCB_of {r : List V → Hp → VK → Prop} {g : List D → Option D} (hs : ClS mg r g) {f : M (List L)} (σ : St) (H : Hp) (Q : VK) (h : tE mg (mv (blt g f)) σ H Q) : tCB r (tA mg f) σ H Q := by
  obtain ⟨π, ε, F, cs, R, l, ε', e, k⟩ := h
  obtain ⟨d, e0, rfl⟩ := mv_some e
  obtain ⟨ls, ds, h1, h3, h5⟩ := blt_some e0
  refine ⟨π, ε, F, cs, R, ls, ε', h1, fun vs H1 F1 cs1 s1 R1 r1 => ?_⟩
  refine hs F1 H1 vs ds d Q R1.sub (R1.rdAll r1 h3) h5 fun z F3 H3 gr rz => ?_
  exact k z H3 F3 cs1 (s1.trans (gr.stp R1.sub)) (R1.grow gr) rz
theorem tCB_ofN {r : List V → Hp → VK → Prop} {g : List D → Option D} (hs : ClN mg r g) {f : M (List L)} (σ : St) (H : Hp) (Q : VK) (h : tN mg (blt g f) σ H Q) : tCB r (tA mg f) σ H Q := by
  obtain ⟨π, ε, F, cs, R, d, ε', e, k⟩ := h
  obtain ⟨ls, ds, h1, h3, h5⟩ := blt_some e
  refine ⟨π, ε, F, cs, R, ls, ε', h1, fun vs H1 F1 cs1 s1 R1 r1 => ?_⟩
  refine hs F1 H1 vs ds d Q R1.sub (R1.rdAll r1 h3) h5 fun p o hp t => ?_
  refine k p [p] (upd H1 p o) F1 cs1 (s1.trans (.newCell hp)) (R1.newCell hp) t fun q hq => ?_
  simp at hq; subst hq
  exact ⟨s1.fresh hp, R1.freshF hp, R1.freshC hp⟩
section
variable {x : Str} {p pos : Pos} {e : Expr} {es : List Expr} {f : M (List L)} {id T : String} {r : List V → Hp → VK → Prop} {g : List D → Option D}
theorem qe_callB (hc : CallR X (.builtin id) r) (hs : ClS X.gx r g) (hm : X.mg x = none) (ha : PA X (e :: es) (tA X.gx f)) (hv : bootBuiltins x = some (.builtin id) := by decide +kernel) (hg : Gl X x := by rfl) (hn : x ≠ "__name__" := by decide) (hdb : (x == ("__debug__" : Str)) = false := by decide)
    (he : starEach (e :: es) X.env = (false, eval e X.env) :: starEach es X.env := by rfl) (hpl : (backTo pos (starEach es X.env)).any (·.1) = false := by rfl) : PE X (.Call (.Name x p) (e :: es) [] pos) (tE X.gx (mv (blt g f))) := (pe_callB hc hg hm hv ha hn hdb he hpl).imp (tCB_of hs)
theorem qe_callTy (hc : CallR X (.type T) r) (hs : ClS X.gx r g) (hm : X.mg x = none) (ha : PA X (e :: es) (tA X.gx f)) (hv : bootBuiltins x = some (.type T) := by decide +kernel) (hg : Gl X x := by rfl) (hn : x ≠ "__name__" := by decide) (hdb : (x == ("__debug__" : Str)) = false := by decide)
    (he : starEach (e :: es) X.env = (false, eval e X.env) :: starEach es X.env := by rfl) (hpl : (backTo pos (starEach es X.env)).any (·.1) = false := by rfl) : PE X (.Call (.Name x p) (e :: es) [] pos) (tE X.gx (mv (blt g f))) := (pe_callTy hc hg hm hv ha hn hdb he hpl).imp (tCB_of hs)
theorem qn_callB (hc : CallR X (.builtin id) r) (hs : ClN X.gx r g) (hm : X.mg x = none) (ha : PA X (e :: es) (tA X.gx f)) (hv : bootBuiltins x = some (.builtin id) := by decide +kernel) (hg : Gl X x := by rfl) (hn : x ≠ "__name__" := by decide) (hdb : (x == ("__debug__" : Str)) = false := by decide)
    (he : starEach (e :: es) X.env = (false, eval e X.env) :: starEach es X.env := by rfl) (hpl : (backTo pos (starEach es X.env)).any (·.1) = false := by rfl) : PE X (.Call (.Name x p) (e :: es) [] pos) (tN X.gx (blt g f)) := (pe_callB hc hg hm hv ha hn hdb he hpl).imp (tCB_ofN hs)
theorem qn_callTy (hc : CallR X (.type T) r) (hs : ClN X.gx r g) (hm : X.mg x = none) (ha : PA X (e :: es) (tA X.gx f)) (hv : bootBuiltins x = some (.type T) := by decide +kernel) (hg : Gl X x := by rfl) (hn : x ≠ "__name__" := by decide) (hdb : (x == ("__debug__" : Str)) = false := by decide)
    (he : starEach (e :: es) X.env = (false, eval e X.env) :: starEach es X.env := by rfl) (hpl : (backTo pos (starEach es X.env)).any (·.1) = false := by rfl) : PE X (.Call (.Name x p) (e :: es) [] pos) (tN X.gx (blt g f)) := (pe_callTy hc hg hm hv ha hn hdb he hpl).imp (tCB_ofN hs)
end

def bLen : List D → Option D
  | [.lst ds] => some (.int (ds.length : Nat))
  | [.tup ds] => some (.int (ds.length : Nat))
  | [.dk ks _] => some (.int (ks.length : Nat))
  | [.str z] => if z.length ≤ 1000000 then some (.int (z.length : Nat)) else none
  | _ => none
def rLenA (K : PySem.W.Frag) : List V → Hp → VK → Prop := fun xs H Q => (∃ x n, xs = [x] ∧ LenV K x H n ∧ Q (.int n) H) ∨ ∃ a kvs, xs = [V.ref a] ∧ H a = some (.dK kvs) ∧ Q (.int kvs.length) H
theorem c_len : CallR X (.builtin "len") (rLenA X.K) := call_len.or call_lenD
theorem Rd1s.one {vs : List V} {d : D} (h : Rd1s mg F H vs [d]) : ∃ v, vs = [v] ∧ Rd1 mg F H v d := by
  cases h with
  | cons a b => cases b; exact ⟨_, rfl, a⟩
theorem Rd1s.two {vs : List V} {d e : D} (h : Rd1s mg F H vs [d, e]) : ∃ v w, vs = [v, w] ∧ Rd1 mg F H v d ∧ Rd1 mg F H w e := by
  cases h with
  | cons a b => obtain ⟨w, rfl, c⟩ := b.one; exact ⟨_, _, rfl, a, c⟩
theorem sLen : ClS mg (rLenA mg.K) bLen := fun F H vs ds d Q s hv hg k => by
  match ds, hg with
  | [.lst ds], hg =>
    cases hg
    obtain ⟨v, rfl, h1⟩ := hv.one
    obtain ⟨a, ws, rfl, ha, z, r⟩ := h1.lst s
    exact .inl ⟨_, _, rfl, .inl ⟨ws, .inl (.inl ha), rfl⟩, by rw [r.length]; exact k _ F H (growNone s) (.int _)⟩
  | [.tup ds], hg =>
    cases hg
    obtain ⟨v, rfl, h1⟩ := hv.one
    obtain ⟨a, ws, rfl, ha, z, r⟩ := h1.tup s
    exact .inl ⟨_, _, rfl, .inr ⟨ws, .inl (.inl ha), rfl⟩, by rw [r.length]; exact k _ F H (growNone s) (.int _)⟩
  | [.dk ks ds], hg =>
    cases hg
    obtain ⟨v, rfl, h1⟩ := hv.one
    obtain ⟨a, kvs, rfl, ha, z, rfl, r⟩ := h1.dk s
    refine .inr ⟨a, kvs, rfl, ha, ?_⟩
    have := k (.int kvs.length) F H (growNone s) (by rw [List.length_map]; exact .int _)
    exact this
  | [.str z], hg =>
    replace hg : (if z.length ≤ 1000000 then some (D.int (z.length : Nat)) else none) = some d := hg
    by_cases hz : z.length ≤ 1000000
    · rw [if_pos hz] at hg; cases hg
      obtain ⟨v, rfl, h1⟩ := hv.one
      rw [h1.str]
      exact .inl ⟨_, _, rfl, ⟨Nat.le_trans hz mil, rfl⟩, k _ F H (growNone s) (.int _)⟩
    · rw [if_neg hz] at hg; cases hg
/-- tuple(x), list(x) -/
def bTup : List D → Option D
  | [.lst ds] => some (.tup ds)
  | [.tup ds] => some (.tup ds)
  | _ => none
def bLst : List D → Option D
  | [.lst ds] => some (.lst ds)
  | [.tup ds] => some (.lst ds)
  | _ => none
theorem sTup : ClS mg (fun xs H Q => ∃ p ys, xs = [.ref p] ∧ ((SqL mg.K H p ys ∧ ∀ l, H l = none → Q (.ref l) (upd H l (.tup ys))) ∨ (SqT mg.K H p ys ∧ Q (.ref p) H))) bTup := fun F H vs ds d Q s hv hg k => by
  match ds, hg with
  | [.lst ds], hg =>
    cases hg
    obtain ⟨v, rfl, h1⟩ := hv.one
    obtain ⟨a, ws, rfl, ha, z, r⟩ := h1.lst s
    refine ⟨a, ws, rfl, .inl ⟨.inl (.inl ha), fun p hp => ?_⟩⟩
    have gr := growUpd (o := HO.tup ws) s hp
    exact k _ _ _ gr (.tup upd_same z (r.mono (gr.same s)))
  | [.tup ds], hg =>
    cases hg
    obtain ⟨v, rfl, h1⟩ := hv.one
    have rp : Rep mg F v (.tup ds) := by
      rcases h1 with h | ⟨_, _, _, t⟩
      · exact h
      · exact t.elim
    obtain ⟨a, ws, rfl, ha, z, r⟩ := h1.tup s
    exact ⟨a, ws, rfl, .inr ⟨.inl (.inl ha), k _ F H (growNone s) rp⟩⟩
theorem nLst : ClN mg (fun xs H Q => ∃ p ys, xs = [.ref p] ∧ (SqL mg.K H p ys ∨ SqT mg.K H p ys) ∧ ∀ l, H l = none → Q (.ref l) (upd H l (.lst ys))) bLst := fun F H vs ds d Q s hv hg k => by
  match ds, hg with
  | [.lst ds], hg =>
    cases hg
    obtain ⟨v, rfl, h1⟩ := hv.one
    obtain ⟨a, ws, rfl, ha, z, r⟩ := h1.lst s
    exact ⟨a, ws, rfl, .inl (.inl (.inl ha)), fun p hp => k p _ hp ⟨ws, upd_same, z, r, rfl⟩⟩
  | [.tup ds], hg =>
    cases hg
    obtain ⟨v, rfl, h1⟩ := hv.one
    obtain ⟨a, ws, rfl, ha, z, r⟩ := h1.tup s
    exact ⟨a, ws, rfl, .inr (.inl (.inl ha)), fun p hp => k p _ hp ⟨ws, upd_same, z, r, rfl⟩⟩
/-- int(x), abs(x) -/
def bInt : List D → Option D
  | [.int i] => some (.int i)
  | [.bl b] => some (.int (if b then 1 else 0))
  | _ => none
def bAbs : List D → Option D
  | [.int i] => some (.int (if i < 0 then -i else i))
  | _ => none
theorem sInt : ClS mg (fun xs H Q => (∃ i, xs = [.int i] ∧ Q (.int i) H) ∨ ∃ k, xs = [.bl k] ∧ Q (.int (if k then 1 else 0)) H) bInt := fun F H vs ds d Q s hv hg k => by
  match ds, hg with
  | [.int i], hg =>
    cases hg
    obtain ⟨v, rfl, h1⟩ := hv.one
    exact .inl ⟨i, by rw [h1.int], k _ F H (growNone s) (.int _)⟩
  | [.bl b], hg =>
    cases hg
    obtain ⟨v, rfl, h1⟩ := hv.one
    exact .inr ⟨b, by rw [h1.bl], k _ F H (growNone s) (.int _)⟩
theorem sAbs : ClS mg (fun xs H Q => ∃ i, xs = [.int i] ∧ Q (.int (if i < 0 then -i else i)) H) bAbs := fun F H vs ds d Q s hv hg k => by
  match ds, hg with
  | [.int i], hg =>
    cases hg
    obtain ⟨v, rfl, h1⟩ := hv.one
    exact ⟨i, by rw [h1.int], k _ F H (growNone s) (.int _)⟩

/-! ### isinstance -/
def tyOf : D → Option String
  | .non => some "NoneType"
  | .bl _ => some "bool"
  | .int _ => some "int"
  | .str _ => some "str"
  | .tup _ => some "tuple"
  | .lst _ => some "list"
  | .dk _ _ => some "dict"
  | .dt _ _ => some "dict"
  | _ => none
/-- isinstance(x, T) of a built-in T; sub: the classes within T -/
def dIsi (T : String) (x : D) : Option D := match tyOf x with
  | some t => some (.bl (t == T || (t == "bool" && T == "int")))
  | none => none
theorem tyX {v : V} {x : D} {t : String} (h : Rd1 mg F H v x) (s : Same F H) (e : tyOf x = some t) : TyX mg.K H v (.type t) := by
  cases x with
  | non => cases e; rw [h.non]; exact .base .non
  | bl b => cases e; rw [h.bl]; exact .base (.bl b)
  | int i => cases e; rw [h.int]; exact .base (.int i)
  | str z => cases e; rw [h.str]; exact .base (.str z)
  | tup ds => cases e; obtain ⟨a, ws, rfl, ha, _⟩ := h.tup s; exact .base (.tup ha)
  | lst ds => cases e; obtain ⟨a, ws, rfl, ha, _⟩ := h.lst s; exact .base (.lst ha)
  | dk ks ds => cases e; obtain ⟨a, ws, rfl, ha, _⟩ := h.dk s; exact .base (.dK ha)
  | dt ks ds => cases e; obtain ⟨a, ws, rfl, ha, _⟩ := h.dt s; exact .base (.dT ha)
  | _ => cases e
/-- the answers for a built-in class -/
def KitT (T : String) : Prop := ∀ t, t ∈ ["NoneType", "bool", "int", "str", "tuple", "list", "dict"] → kitB t T = some (t == T || (t == "bool" && T == "int"))
theorem kit_tuple : KitT "tuple" := by intro t h; simp at h; rcases h with rfl | rfl | rfl | rfl | rfl | rfl | rfl <;> decide +kernel
theorem kit_list : KitT "list" := by intro t h; simp at h; rcases h with rfl | rfl | rfl | rfl | rfl | rfl | rfl <;> decide +kernel
theorem kit_int : KitT "int" := by intro t h; simp at h; rcases h with rfl | rfl | rfl | rfl | rfl | rfl | rfl <;> decide +kernel
theorem kit_bool : KitT "bool" := by intro t h; simp at h; rcases h with rfl | rfl | rfl | rfl | rfl | rfl | rfl <;> decide +kernel
theorem kit_str : KitT "str" := by intro t h; simp at h; rcases h with rfl | rfl | rfl | rfl | rfl | rfl | rfl <;> decide +kernel
theorem kit_dict : KitT "dict" := by intro t h; simp at h; rcases h with rfl | rfl | rfl | rfl | rfl | rfl | rfl <;> decide +kernel
theorem tyOf_mem {x : D} {t : String} (h : tyOf x = some t) : t ∈ ["NoneType", "bool", "int", "str", "tuple", "list", "dict"] := by
  cases x <;> cases h <;> decide
theorem qe_isi {x : Str} {T : String} {f : M L} {e : Expr} {p p2 pos : Pos} (hk : KitT T) (hm : X.mg "isinstance" = none) (hm2 : X.mg x = none) (he : PE X e (tE X.gx f)) (hT : bootBuiltins x = some (.type T) := by decide +kernel) (hg : Gl X "isinstance" := by rfl) (hg2 : Gl X x := by rfl) (hn : x ≠ "__name__" := by decide) (hdb : (x == ("__debug__" : Str)) = false := by decide)
    (hs : starEach [e, .Name x p2] X.env = (false, eval e X.env) :: starEach [.Name x p2] X.env := by rfl) (hs2 : starEach [.Name x p2] X.env = (false, eval (.Name x p2) X.env) :: starEach [] X.env := by rfl) (hpl : (backTo pos (starEach [.Name x p2] X.env)).any (·.1) = false := by rfl) :
    PE X (.Call (.Name "isinstance" p) [e, .Name x p2] [] pos) (tE X.gx (mv (un (dIsi T) f))) :=
  (pe_callB (pos := pos) (p := p) (x := "isinstance") call_isi hg hm (by decide +kernel) (pa_cons he (pa_cons (pe_bltn (v := .ty T) (u := .type T) hg2 hm2 hT rfl hn hdb) pa_nil hs2) hs) (by decide) (by decide) hs hpl).imp fun σ H Q h => by
    obtain ⟨π, ε, F, cs, R, l, ε', e, k⟩ := h
    obtain ⟨d, e0, rfl⟩ := mv_some e
    obtain ⟨la, y, h1, h3, h5⟩ := un_some e0
    refine ⟨π, ε, F, cs, R, la, ε', h1, fun v H1 F1 cs1 s1 R1 r1 => ?_⟩
    have rd := R1.rd r1 h3
    unfold dIsi at h5
    cases q : tyOf y with
    | none => rw [q] at h5; cases h5
    | some t =>
      rw [q] at h5; cases h5
      exact ⟨v, .ty T, .type t, .type T, _, rfl, .ty T, tyX rd R1.sub q, kit_ty (hk t (tyOf_mem q)), k _ H1 F1 cs1 s1 R1 (.bl _)⟩
/-- what an own class must have for isinstance, for its instances -/
structure ClsI (K : PySem.W.Frag) (C : Addr) : Prop where
  cl : Cls K C
  ha : PySem.W.findIn K (.ref C) "__class__" = some (some (.builtin "object.__class__"))
  hn : PySem.W.specialIn K (.builtin "object.__class__") "__get__" = some (some (.builtin "getset_descriptor.__get__"))
  htk : PySem.W.takesIn K (.builtin "object.__class__") = some true
  hm : PySem.W.mroIn K C (.type "object") = some true
/-- isinstance(x, C) of an own class, x an instance of it -/
def dIsC (c : Str) : D → Option D
  | .ins c' _ _ => if c' = c then some (.bl true) else none
  | _ => none
theorem qe_isC {x : Str} {C : Addr} {f : M L} {e : Expr} {p p2 pos : Pos} (hC : ClsI X.K C) (hk : PySem.W.kitOne X.K (.ref C) (.ref C) = some true) (hm : X.mg "isinstance" = none) (hm2 : X.mg x = some (.ref C)) (he : PE X e (tE X.gx f)) (hg : Gl X "isinstance" := by rfl) (hg2 : Gl X x := by rfl) (hdb : (x == ("__debug__" : Str)) = false := by decide)
    (hs : starEach [e, .Name x p2] X.env = (false, eval e X.env) :: starEach [.Name x p2] X.env := by rfl) (hs2 : starEach [.Name x p2] X.env = (false, eval (.Name x p2) X.env) :: starEach [] X.env := by rfl) (hpl : (backTo pos (starEach [.Name x p2] X.env)).any (·.1) = false := by rfl) :
    PE X (.Call (.Name "isinstance" p) [e, .Name x p2] [] pos) (tE X.gx (mv (un (dIsC x) f))) :=
  (pe_callB (pos := pos) (p := p) (x := "isinstance") call_isi hg hm (by decide +kernel) (pa_cons he (pa_cons (pe_glob (v := .ref C) hg2 hm2 rfl hdb) pa_nil hs2) hs) (by decide) (by decide) hs hpl).imp fun σ H Q h => by
    obtain ⟨π, ε, F, cs, R, l, ε', e, k⟩ := h
    obtain ⟨d, e0, rfl⟩ := mv_some e
    obtain ⟨la, y, h1, h3, h5⟩ := un_some e0
    refine ⟨π, ε, F, cs, R, la, ε', h1, fun v H1 F1 cs1 s1 R1 r1 => ?_⟩
    have rd := R1.rd r1 h3
    cases y with
    | ins c ns ds =>
      replace h5 : (if c = x then some (D.bl true) else none) = some d := h5
      by_cases hc : c = x
      · rw [if_pos hc] at h5; cases h5
        subst hc
        obtain ⟨a, C', dx, fs, rfl, ha, _, hmc, _⟩ := rd.ins R1.sub
        have e1 : C' = C := by
          have := hmc.symm.trans hm2
          cases this; rfl
        subst e1
        exact ⟨.ref a, .ref C', .ref C', .ref C', true, rfl, .own C', .base (.ins ha hC.cl hC.ha hC.hn hC.htk hC.hm), hk, k _ H1 F1 cs1 s1 R1 (.bl _)⟩
      · rw [if_neg hc] at h5; cases h5
    | _ => cases h5

/-! ### a name's own object changed in place -/
/-- the list that a name alone holds, changed -/
theorem ER.chg (R : ER mg π ε σ H F cs) {i : Nat} {d d' : D} {o : HO} {a : Addr} {l : List Addr} (e : lendS ε[i]? = some (.flat d)) (hv : σ[i]? = some (some (.ref a))) (hl : cs i = l) (ha : a ∈ l) (t : Top mg F (upd H a o) a l d') :
    ER mg π (ε.set i (likeS ε[i]? (.flat d'))) σ (upd H a o) F cs ∧ Stp H F cs (upd H a o) F cs := by
  have hi : i < ε.length := by
    rcases Nat.lt_or_ge i ε.length with z | z
    · exact z
    · rw [List.getElem?_eq_none z] at e; cases e
  have nf : F a = none := R.nf i a (by rw [hl]; exact ha)
  have oth : ∀ j b, j ≠ i → b ∈ cs j → b ≠ a := fun j b hj hb z => hj (R.dj j i b hb (by rw [hl, z]; exact ha))
  refine ⟨⟨by rw [List.length_set]; exact R.len, fun b u q => by rw [upd_ne (fun z => by rw [z, nf] at q; cases q)]; exact R.sub b u q, fun j s q => ?_, fun j hj => R.off j (by rw [List.length_set] at hj; exact hj), R.nf, R.dj⟩, ⟨Same.refl _, fun b u q => ?_, fun b u q n c => ⟨by rw [upd_ne (fun z => c i (by rw [hl, z]; exact ha))]; exact q, n, c⟩⟩⟩
  · by_cases hji : j = i
    · subst hji
      rw [List.getElem?_set_self hi] at q
      cases q
      rw [hl]
      rcases lendS_some e with q2 | q2
      · rw [q2]; exact ⟨_, hv, a, rfl, t⟩
      · obtain ⟨z, _⟩ := R.slot j _ q2
        rw [q2]
        rw [hv] at z
        have z2 := Option.some.inj (Option.some.inj z)
        exact ⟨by rw [← z2]; exact hv, a, z2.symm, t⟩
    · rw [List.getElem?_set_ne (Ne.symm hji)] at q
      exact (R.slot j s q).keepH (Same.refl _) fun b hb u q => by rw [upd_ne (oth j b hji hb)]; exact q
  · by_cases hb : b = a
    · subst hb; exact ⟨o, upd_same⟩
    · exact ⟨u, by rw [upd_ne hb]; exact q⟩
theorem ER.lent (R : ER mg π ε σ H F cs) {i : Nat} {x : O} (e : lendS ε[i]? = some x) : ∃ v, σ[i]? = some (some v) ∧ OR mg F H v (cs i) x := by
  rcases lendS_some e with q | q
  · exact R.slot i _ q
  · obtain ⟨a, o⟩ := R.slot i _ q
    exact ⟨_, a, o⟩
/-- x.append(e) -/
def isLstO : Option O → Bool
  | some (.flat (.lst _)) => true
  | _ => false
def eApp (i : Nat) (f : M L) : M L := fun ε0 => if isLstO (lendS ε0[i]?) then (mb f fun l => mb (mfz l) fun d => fun ε => match lendS ε[i]? with
  | some (.flat (.lst ds)) => if ds.length < 1000000 then some (.v .non, ε.set i (likeS ε[i]? (.flat (.lst (ds ++ [d]))))) else none
  | _ => none) ε0 else none
theorem isLstO_some {o : Option O} (h : isLstO o = true) : ∃ ds, o = some (.flat (.lst ds)) := by
  cases o with
  | none => cases h
  | some x =>
    cases x with
    | deal c m => cases h
    | flat d =>
      cases d with
      | lst ds => exact ⟨ds, rfl⟩
      | _ => cases h
section
variable {o e : Expr} {apos cpos p1 p2 : Pos} {x : Str} {i : Nat} {f : M L}
theorem qe_append (he : PE X e (tE X.gx f)) (hN : X.N[i]? = some x := by rfl) (hv : Vis X.env.scope x := by first | exact Or.inl rfl | exact Or.inr (Or.inl rfl) | exact Or.inr (Or.inr rfl)) (hd : (x == ("__debug__" : Str)) = false := by decide) (hcd : (x == ("__classdict__" : Str)) = false := by decide)
    (hs : starEach [e] X.env = (false, eval e X.env) :: starEach [] X.env := by rfl)
    (hbase : attributeBase (.Name x p1) "append" X.env (eval (.Name x p1) X.env) = eval (.Name x p1) X.env := by rfl)
    (hfew : ((backTo cpos (starEach [e] X.env)).all (fun x => !x.1) && (backToKw cpos (keywordEach [] X.env)).all (fun x => x.1.isSome)
      && decide (([e] : List Expr).length + ([] : List Keyword).length + (if ([] : List Keyword).isEmpty then 0 else 1) < 30)) = true := by rfl)
    (hline : (apos.endLine == cpos.line) = true := by rfl) (hplain : (backTo cpos (starEach [] X.env)).any (·.1) = false := by rfl) :
    PE X (.Call (.Attribute (.Name x p1) "append" apos) [e] [] cpos) (tE X.gx (eApp i f)) :=
  (pe_bm PySem.F.plainAttrs_list PySem.F.slot_list_append PySem.F.type_list_append mt_append (pe_var (i := i) hN hv hd hcd) (pa_cons he pa_nil hs) hbase hfew hline hs hplain).imp fun σ H Q h => by
    obtain ⟨π, ε, F, cs, R, l, ε', e, k⟩ := h
    unfold eApp at e
    by_cases h0 : isLstO (lendS ε[i]?) = true
    · rw [if_pos h0] at e
      obtain ⟨l1, ε1, e1, e2⟩ := mb_some e
      obtain ⟨d, ε2, e3, e4⟩ := mb_some e2
      obtain ⟨ds0, q0⟩ := isLstO_some h0
      obtain ⟨v0, hv0, a, rfl, ws0, ha0, _, _, _⟩ := R.lent q0
      refine ⟨.ref a, hv0, .inl ⟨rfl, ws0, .inl (.inl ha0)⟩, π, ε, F, cs, R, l1, ε1, e1, fun w H1 F1 cs1 s1 R1 r1 => ?_⟩
      obtain ⟨F2, cs2, s2, R2, r2⟩ := R1.fz r1 e3
      cases q : lendS ε2[i]? with
      | none => rw [q] at e4; cases e4
      | some x =>
        rw [q] at e4
        cases x with
        | deal c m => cases e4
        | flat d0 =>
          cases d0 with
          | lst ds =>
            replace e4 : (if ds.length < 1000000 then some (L.v D.non, ε2.set i (likeS ε2[i]? (.flat (.lst (ds ++ [d]))))) else none) = some (l, ε') := e4
            by_cases hz : ds.length < 1000000
            · rw [if_pos hz] at e4; cases e4
              obtain ⟨v1, hv1, a1, rfl, ws, ha, zw, rw', hc⟩ := R2.lent q
              rw [hv0] at hv1; cases hv1
              have hz2 : ws.length < sizeLine := by rw [rw'.length]; exact Nat.lt_of_lt_of_le hz mil
              refine ⟨a, ws, w, rfl, rfl, ha, hz2, ?_⟩
              obtain ⟨R3, s3⟩ := R2.chg (d' := .lst (ds ++ [d])) (o := .lst (ws ++ [w])) q hv0 hc (by simp) ⟨ws ++ [w], upd_same, by rw [List.length_append]; exact hz2, rw'.append (.cons r2 .nil), rfl⟩
              exact k .non _ F2 cs2 ((s1.trans s2).trans s3) R3 .non
            · rw [if_neg hz] at e4; cases e4
          | _ => cases e4
    · rw [if_neg h0] at e; cases e
end
end
end Q

namespace Q
open PySem PySem.Spec L2

section
variable {X : Cx} {mg : GX} {F F' F2 F1 H H' H2 H1 : Hp} {cs cs' cs2 cs1 : Nat → List Addr} {ε ε' ε1 : Env} {σ : St} {π : Nat → V}

/-! ### slices -/
def tPO (mg : GX) (f : M (Option Int)) : TO := fun σ H Q => ∃ π ε F cs, ER mg π ε σ H F cs ∧ ∃ o ε', f ε = some (o, ε') ∧
  ∀ H' F' cs', Stp H F cs H' F' cs' → ER mg π ε' σ H' F' cs' → Q o H'
theorem _root_.L2.PO.imp {e : Option Expr} {t t' : TO} (h : PO X e t) (i : ∀ σ H Q, t' σ H Q → t σ H Q) : PO X e t' := ⟨fun pins s σ H Q I q => h.run pins s σ H Q I (i _ _ _ q)⟩
def asI : D → Option Int
  | .int i => some i
  | _ => none
theorem asI_some {d : D} {i : Int} (h : asI d = some i) : d = .int i := by cases d <;> cases h; rfl
def pNo : M (Option Int) := mr none
def pSo (f : M L) : M (Option Int) := mb f fun l => mb (mrd l) fun d => mb (mo (asI d)) fun i => mr (some i)
theorem qo_none : PO X none (tPO X.gx pNo) := po_none.imp fun σ H Q h => by
  obtain ⟨π, ε, F, cs, R, o, ε', e, k⟩ := h
  cases e
  exact k H F cs .refl R
theorem qo_some {e : Expr} {f : M L} (he : PE X e (tE X.gx f)) : PO X (some e) (tPO X.gx (pSo f)) := (po_some he).imp fun σ H Q h => by
  obtain ⟨π, ε, F, cs, R, o, ε', e, k⟩ := h
  obtain ⟨l, ε1, e1, e2⟩ := mb_some e
  obtain ⟨d, ε2, e3, e4⟩ := mb_some e2
  obtain ⟨e5, rfl⟩ := mrd_some e3
  obtain ⟨i, ε3, e6, e7⟩ := mb_some e4
  obtain ⟨e8, rfl⟩ := mo_some e6
  cases e7
  refine ⟨π, ε, F, cs, R, l, ε', e1, fun v H1 F1 cs1 s1 R1 r1 => ?_⟩
  have := R1.rd r1 e5
  rw [asI_some e8] at this
  exact ⟨i, this.int, k H1 F1 cs1 s1 R1⟩
def cutL {α : Type} (ds : List α) (lo hi : Option Int) : List α := (ds.drop (HT.sIx ds.length 0 lo)).take (HT.sIx ds.length ds.length hi - HT.sIx ds.length 0 lo)
def dSl (lo hi : Option Int) : D → Option D
  | .lst ds => some (.lst (cutL ds lo hi))
  | .tup ds => some (.tup (cutL ds lo hi))
  | .str z => if z.length ≤ 1000000 then some (.str (cutS z lo hi)) else none
  | .scr ns => some (.lst ((cutL ns lo hi).map .int))
  | _ => none
def dSlL (lo hi : Option Int) : D → Option D
  | .lst ds => some (.lst (cutL ds lo hi))
  | .scr ns => some (.lst ((cutL ns lo hi).map .int))
  | _ => none
def slM (g : Option Int → Option Int → D → Option D) (f : M L) (fl fh : M (Option Int)) : M D := mb f fun l => mb fl fun lo => mb fh fun hi => mb (mrd l) fun d => mo (g lo hi d)
theorem slM_some {g : Option Int → Option Int → D → Option D} {f : M L} {fl fh : M (Option Int)} {d : D} (h : slM g f fl fh ε = some (d, ε')) :
    ∃ l ε1 lo ε2 hi x, f ε = some (l, ε1) ∧ fl ε1 = some (lo, ε2) ∧ fh ε2 = some (hi, ε') ∧ l.rd ε' = some x ∧ g lo hi x = some d := by
  obtain ⟨l, ε1, e1, k1⟩ := mb_some h
  obtain ⟨lo, ε2, e2, k2⟩ := mb_some k1
  obtain ⟨hi, ε3, e3, k3⟩ := mb_some k2
  obtain ⟨x, ε4, e4, k4⟩ := mb_some k3
  obtain ⟨e5, rfl⟩ := mrd_some e4
  obtain ⟨e6, rfl⟩ := mo_some k4
  exact ⟨l, ε1, lo, ε2, hi, x, e1, e2, e3, e5, e6⟩
theorem cut_rep {vs : List V} {ds : List D} (r : RepAll mg F vs ds) (lo hi : Option Int) : RepAll mg F (cutV vs lo hi) (cutL ds lo hi) := by
  unfold cutV cutL
  rw [r.length]
  exact (r.drop _).take _
theorem cut_len {α : Type} (ds : List α) (lo hi : Option Int) : (cutL ds lo hi).length ≤ ds.length := by
  unfold cutL
  rw [List.length_take, List.length_drop]
  omega
theorem cut_map {α β : Type} (f : α → β) (ds : List α) (lo hi : Option Int) : cutL (ds.map f) lo hi = (cutL ds lo hi).map f := by
  unfold cutL
  rw [List.length_map, ← List.map_drop, ← List.map_take]
def rSlAll (K : PySem.W.Frag) : V → Option Int → Option Int → Hp → VK → Prop := fun x lo hi H Q => (rSlL K x lo hi H Q ∨ rSlA K x lo hi H Q) ∨ rSlS x lo hi H Q
theorem sl_all : L2.SlR X (rSlAll X.K) := (sl_list.or sl_tupA).or sl_str
def SlN (mg : GX) (r : V → Option Int → Option Int → Hp → VK → Prop) (g : Option Int → Option Int → D → Option D) : Prop := ∀ lo hi, UnN mg (fun x H Q => r x lo hi H Q) (g lo hi)
def SlS (mg : GX) (r : V → Option Int → Option Int → Hp → VK → Prop) (g : Option Int → Option Int → D → Option D) : Prop := ∀ lo hi, UnS mg (fun x H Q => r x lo hi H Q) (g lo hi)
theorem Rd1.scr {v : V} {ns : List Int} (h : Rd1 mg F H v (.scr ns)) (s : Same F H) : ∃ a, v = .ref a ∧ SqL mg.K H a (ns.map V.int) ∧ ns.length ≤ sizeLine := by
  rcases h with h | ⟨a, l, e, t⟩
  · cases h with
    | scr h z => exact ⟨_, rfl, s.seq h, z⟩
  · exact t.elim
theorem nSlL : SlN mg (rSlL mg.K) dSlL := fun lo hi F H v x d Q s hv hg k => by
  cases x with
  | lst ds =>
    cases hg
    obtain ⟨a, vs, rfl, ha, z, r⟩ := hv.lst s
    exact ⟨a, vs, rfl, .inl (.inl ha), fun p hp => k p _ hp ⟨_, upd_same, Nat.le_trans (cutV_length vs lo hi) z, cut_rep r lo hi, rfl⟩⟩
  | scr ns =>
    cases hg
    obtain ⟨a, rfl, ha, z⟩ := hv.scr s
    refine ⟨a, _, rfl, ha, fun p hp => k p _ hp ⟨_, upd_same, Nat.le_trans (cutV_length _ lo hi) (by rw [List.length_map]; exact z), ?_, rfl⟩⟩
    have := cut_rep (repInts (mg := mg) (F := F) ns) lo hi
    rw [cut_map] at this
    exact this
  | _ => cases hg
theorem sSlA : SlS mg (rSlAll mg.K) dSl := fun lo hi F H v x d Q s hv hg k => by
  cases x with
  | lst ds => exact .inl (.inl ((nSlL lo hi).s F H v (.lst ds) d Q s hv hg k))
  | scr ns => exact .inl (.inl ((nSlL lo hi).s F H v (.scr ns) d Q s hv hg k))
  | tup ds =>
    cases hg
    have rp : Rep mg F v (.tup ds) := by
      rcases hv with h | ⟨_, _, _, t⟩
      · exact h
      · exact t.elim
    obtain ⟨a, vs, rfl, ha, z, r⟩ := hv.tup s
    refine .inl (.inr ⟨a, vs, rfl, .inl (.inl ha), fun hw => ?_, fun _ p hp => ?_⟩)
    · have : cutL ds lo hi = ds := by
        unfold cutL
        rw [← r.length, hw.1, hw.2, List.drop_zero, Nat.sub_zero, r.length, List.take_length]
      rw [this] at k
      exact k _ F H (growNone s) rp
    · have gr := growUpd (o := HO.tup (cutV vs lo hi)) s hp
      exact k _ _ _ gr (.tup upd_same (Nat.le_trans (cutV_length vs lo hi) z) ((cut_rep r lo hi).mono (gr.same s)))
  | str z =>
    replace hg : (if z.length ≤ 1000000 then some (D.str (cutS z lo hi)) else none) = some d := hg
    by_cases hz : z.length ≤ 1000000
    · rw [if_pos hz] at hg; cases hg
      exact .inr ⟨z, hv.str, Nat.le_trans hz mil, k _ F H (growNone s) (.str _)⟩
    · rw [if_neg hz] at hg; cases hg
  | _ => cases hg
section
variable {e : Expr} {lo hi : Option Expr} {f : M L} {fl fh : M (Option Int)} {pos p2 : Pos}
theorem qe_slice (he : PE X e (tE X.gx f)) (hl : PO X lo (tPO X.gx fl)) (hh : PO X hi (tPO X.gx fh)) : PE X (.Subscript e (.Slice lo hi none p2) pos) (tE X.gx (mv (slM dSl f fl fh))) := (pe_slice sl_all he hl hh).imp fun σ H Q h => by
  obtain ⟨π, ε, F, cs, R, l, ε', e, k⟩ := h
  obtain ⟨d, e0, rfl⟩ := mv_some e
  obtain ⟨l, ε1, lo, ε2, hi, x, e1, e2, e3, e4, e5⟩ := slM_some e0
  refine ⟨π, ε, F, cs, R, l, ε1, e1, fun v H1 F1 cs1 s1 R1 r1 => ⟨π, ε1, F1, cs1, R1, lo, ε2, e2, fun H2 F2 cs2 s2 R2 => ⟨π, ε2, F2, cs2, R2, hi, ε', e3, fun H3 F3 cs3 s3 R3 => ?_⟩⟩⟩
  have rl := (r1.mono s2.same).mono s3.same
  refine sSlA lo hi F3 H3 v x d Q R3.sub (R3.rd rl e4) e5 fun z F4 H4 gr rz => ?_
  exact k z H4 F4 cs3 (((s1.trans s2).trans s3).trans (gr.stp R3.sub)) (R3.grow gr) rz
theorem qn_slice (he : PE X e (tE X.gx f)) (hl : PO X lo (tPO X.gx fl)) (hh : PO X hi (tPO X.gx fh)) : PE X (.Subscript e (.Slice lo hi none p2) pos) (tN X.gx (slM dSlL f fl fh)) := (pe_slice sl_list he hl hh).imp fun σ H Q h => by
  obtain ⟨π, ε, F, cs, R, d, ε', e0, k⟩ := h
  obtain ⟨l, ε1, lo, ε2, hi, x, e1, e2, e3, e4, e5⟩ := slM_some e0
  refine ⟨π, ε, F, cs, R, l, ε1, e1, fun v H1 F1 cs1 s1 R1 r1 => ⟨π, ε1, F1, cs1, R1, lo, ε2, e2, fun H2 F2 cs2 s2 R2 => ⟨π, ε2, F2, cs2, R2, hi, ε', e3, fun H3 F3 cs3 s3 R3 => ?_⟩⟩⟩
  have rl := (r1.mono s2.same).mono s3.same
  have st := (s1.trans s2).trans s3
  refine nSlL lo hi F3 H3 v x d Q R3.sub (R3.rd rl e4) e5 fun p o hp t => ?_
  refine k p [p] (upd H3 p o) F3 cs3 (st.trans (.newCell hp)) (R3.newCell hp) t fun q hq => ?_
  simp at hq; subst hq
  exact ⟨st.fresh hp, R3.freshF hp, R3.freshC hp⟩
/-- xs[::-1] -/
def dRev : D → Option D
  | .lst ds => some (.lst ds.reverse)
  | _ => none
def rRev (K : PySem.W.Frag) : V → Hp → VK → Prop := fun x H1 Q => ∃ a xs, x = .ref a ∧ SqL K H1 a xs ∧ ∀ p, H1 p = none → Q (.ref p) (upd H1 p (.lst xs.reverse))
theorem nRev : UnN mg (rRev mg.K) dRev := fun F H v x d Q s hv hg k => by
  cases x with
  | lst ds =>
    cases hg
    obtain ⟨a, vs, rfl, ha, z, r⟩ := hv.lst s
    exact ⟨a, vs, rfl, .inl (.inl ha), fun p hp => k p _ hp ⟨_, upd_same, by rw [List.length_reverse]; exact z, r.reverse, rfl⟩⟩
  | _ => cases hg
theorem qn_rev {k : Nat} {q1 q2 q3 : Pos} (he : PE X e (tE X.gx f)) : PE X (.Subscript e (.Slice none none (some (.UnaryOp .USub (.Constant (.int 1) k q1) q2)) q3) pos) (tN X.gx (un dRev f)) := (pe_revL he).imp fun σ H Q h => tUn_ofN (r := rRev X.K) nRev σ H Q h
end

/-! ### attributes -/
theorem assoc_lookup {f : Str} {d : D} : ∀ {fs : List (Str × V)} {ds : List D}, RepAll mg F (fs.map (·.2)) ds → assoc (fs.map (·.1)) ds f = some d → ∃ v, fs.lookup f = some v ∧ Rep mg F v d
  | [], _, r, e => by cases r; cases e
  | (k, w) :: fs, _, .cons (d := d0) (ds := ds) h r, e => by
    replace e : (if k = f then some d0 else assoc (fs.map (·.1)) ds f) = some d := e
    by_cases hk : k = f
    · rw [if_pos hk] at e; cases e
      refine ⟨w, ?_, h⟩
      have hb : (f == k) = true := beq_iff_eq.mpr hk.symm
      simp only [List.lookup, hb]
    · rw [if_neg hk] at e
      obtain ⟨v, e1, e2⟩ := assoc_lookup r e
      refine ⟨v, ?_, e2⟩
      have hb : (f == k) = false := beq_eq_false_iff_ne.mpr fun z => hk z.symm
      simp only [List.lookup, hb]
      exact e1
/-- x.f of an instance of the class c -/
def dAttr (c f : Str) : D → Option D
  | .ins c' ns ds => if c' = c then assoc ns ds f else none
  | _ => none
theorem qe_attr {c f : Str} {C : Addr} {e : Expr} {g : M L} {pos : Pos} (hm : X.mg c = some (.ref C)) (cl : Cls X.K C) (na : NoAttr X.K C f) (he : PE X e (tE X.gx g)) (hb : attributeBase e f X.env (eval e X.env) = eval e X.env := by rfl) : PE X (.Attribute e f pos) (tE X.gx (mv (un (dAttr c f) g))) := (pe_fld he hb).imp fun σ H Q h => by
  obtain ⟨π, ε, F, cs, R, l, ε', e, k⟩ := h
  obtain ⟨d, e0, rfl⟩ := mv_some e
  obtain ⟨la, y, h1, h3, h5⟩ := un_some e0
  refine ⟨π, ε, F, cs, R, la, ε', h1, fun v H1 F1 cs1 s1 R1 r1 => ?_⟩
  have rd := R1.rd r1 h3
  cases y with
  | ins c' ns ds =>
    replace h5 : (if c' = c then assoc ns ds f else none) = some d := h5
    by_cases hc : c' = c
    · rw [if_pos hc] at h5
      subst hc
      obtain ⟨a, C', dx, fs, rfl, ha, _, hmc, rfl, r⟩ := rd.ins R1.sub
      have e1 : C' = C := by
        have := hmc.symm.trans hm
        cases this; rfl
      subst e1
      obtain ⟨w, e2, rw'⟩ := assoc_lookup r h5
      exact ⟨a, C', dx, fs, w, rfl, ha, cl, na, e2, k w H1 F1 cs1 s1 R1 rw'⟩
    · rw [if_neg hc] at h5; cases h5
  | _ => cases h5
def putA : List Str → List D → Str → D → List Str × List D
  | k :: ks, d :: ds, f, x => if k = f then (k :: ks, x :: ds) else ((k :: (putA ks ds f x).1), (d :: (putA ks ds f x).2))
  | _, _, f, x => ([f], [x])
theorem putA_rep {f : Str} {v : V} {d : D} (hv : Rep mg F v d) : ∀ {fs : List (Str × V)} {ds : List D}, RepAll mg F (fs.map (·.2)) ds → (putF f v fs).map (·.1) = (putA (fs.map (·.1)) ds f d).1 ∧ RepAll mg F ((putF f v fs).map (·.2)) (putA (fs.map (·.1)) ds f d).2
  | [], _, r => by cases r; exact ⟨rfl, .cons hv .nil⟩
  | (k, w) :: fs, _, .cons (d := d0) (ds := ds) h r => by
    have ih := putA_rep (f := f) hv r
    show ((if k = f then (k, v) :: fs else (k, w) :: putF f v fs).map (·.1) = (if k = f then (k :: fs.map (·.1), d :: ds) else ((k :: (putA (fs.map (·.1)) ds f d).1), (d0 :: (putA (fs.map (·.1)) ds f d).2))).1) ∧
      RepAll mg F ((if k = f then (k, v) :: fs else (k, w) :: putF f v fs).map (·.2)) (if k = f then (k :: fs.map (·.1), d :: ds) else ((k :: (putA (fs.map (·.1)) ds f d).1), (d0 :: (putA (fs.map (·.1)) ds f d).2))).2
    by_cases hk : k = f
    · rw [if_pos hk, if_pos hk]
      exact ⟨rfl, .cons hv r⟩
    · rw [if_neg hk, if_neg hk]
      exact ⟨congrArg (k :: ·) ih.1, .cons h ih.2⟩
/-- x.f = e -/
def gFld (c : Str) (i : Nat) (f : Str) (g : M L) : S := fun ε => match mb g mfz ε with
  | some (d, ε1) => match lendS ε1[i]? with
    | some (.flat (.ins c' ns ds)) => if decide (c' = c) && decide (ns.length < 1000) then some (.nx (ε1.set i (likeS ε1[i]? (.flat (.ins c' (putA ns ds f d).1 (putA ns ds f d).2))))) else none
    | _ => none
  | none => none
theorem qs_fld {c f x : Str} {C : Addr} {i : Nat} {value : Expr} {g : M L} {pos pos' p1 : Pos} (hm : X.mg c = some (.ref C)) (cl : Cls X.K C) (na : NoAttr X.K C f) (he : PE X value (tE X.gx g)) (hN : X.N[i]? = some x := by rfl) (hv : Vis X.env.scope x := by first | exact Or.inl rfl | exact Or.inr (Or.inl rfl) | exact Or.inr (Or.inr rfl)) (hd : (x == ("__debug__" : Str)) = false := by decide) (hcd : (x == ("__classdict__" : Str)) = false := by decide)
    (hs : swapsWith value (some (.Attribute (.Name x p1) f pos')) pos.line X.env = pure false := by rfl) : PS X (.Assign [.Attribute (.Name x p1) f pos'] value pos) (tS X.gx (gFld c i f g)) := (ps_fld (pe_var (i := i) hN hv hd hcd) he hs).imp fun D σ H h => by
  obtain ⟨π, ε, F, cs, R, o, e, k⟩ := h
  unfold gFld at e
  cases q : mb g mfz ε with
  | none => rw [q] at e; cases e
  | some pd =>
    obtain ⟨d, ε1⟩ := pd
    rw [q] at e
    obtain ⟨l, ε2, q1, q2⟩ := mb_some q
    dsimp only at e
    cases q3 : lendS ε1[i]? with
    | none => rw [q3] at e; cases e
    | some x =>
      rw [q3] at e
      cases x with
      | deal a b => cases e
      | flat d0 =>
        cases d0 with
        | ins c' ns ds =>
          replace e : (if (decide (c' = c) && decide (ns.length < 1000)) = true then some (Out.nx (ε1.set i (likeS ε1[i]? (.flat (.ins c' (putA ns ds f d).1 (putA ns ds f d).2))))) else none) = some o := e
          by_cases hc : (decide (c' = c) && decide (ns.length < 1000)) = true
          · rw [if_pos hc] at e; cases e
            rw [Bool.and_eq_true] at hc
            have hc1 := of_decide_eq_true hc.1
            have hc2 := of_decide_eq_true hc.2
            subst hc1
            refine ⟨π, ε, F, cs, R, l, ε2, q1, fun v H1 F1 cs1 s1 R1 r1 => ?_⟩
            obtain ⟨F2, cs2, s2, R2, r2⟩ := R1.fz r1 q2
            obtain ⟨v0, hv0, a, rfl, C', dx, fs, ha, hdx, hmc, rfl, r, hcs⟩ := R2.lent q3
            have e1 : C' = C := by
              have := hmc.symm.trans hm
              cases this; rfl
            subst e1
            refine ⟨.ref a, hv0, a, C', dx, fs, rfl, ha, cl, na, by rw [List.length_map] at hc2; exact hc2, ?_⟩
            obtain ⟨p1, p2⟩ := putA_rep (f := f) r2 r
            have hne : dx ≠ a := fun z => by rw [z, ha] at hdx; cases hdx
            obtain ⟨R3, s3⟩ := R2.chg (d' := .ins c' (putA (fs.map (·.1)) ds f d).1 (putA (fs.map (·.1)) ds f d).2) (o := .ins C' dx (putF f v fs)) q3 hv0 hcs (by simp) ⟨C', dx, putF f v fs, upd_same, by rw [upd_ne hne]; exact hdx, hmc, p1, p2, rfl⟩
            exact k σ _ F2 cs2 ((s1.trans s2).trans s3) R3
          · rw [if_neg hc] at e; cases e
        | _ => cases e

/-! ### a new instance -/
/-- C(e, ..), G: what __init__ does -/
def gMake (c : Str) (G : Fn) (g : M (List L)) : M D := mb g fun ls => mb (fzAll ls) fun ds => fun ε => match G (.pw (.flat (.ins c [] [])) :: ds.map .sh) with
  | some (.non, .pw (.flat d) :: _) => some (d, ε)
  | _ => none
theorem OR.ins_cells {v : V} {d : D} {l : List Addr} (h : OR mg F H v l (.flat d)) : ∃ a, v = .ref a ∧ Top mg F H a l d := h
theorem tMake_of {c : Str} {C : Addr} {n : Nat} {G : Fn} {g : M (List L)} (hm : mg.mg c = some (.ref C)) (hl : LenA g n) {E : XK} (σ : St) (H : Hp) (Q : VK) (h : tN mg (gMake c G g) σ H Q) : tMake C (spI mg (n + 1) G) [] E (tA mg g) σ H Q := by
  obtain ⟨π, ε, F, cs, R, d, ε', e, k⟩ := h
  obtain ⟨ls, ε1, e1, e2⟩ := mb_some e
  obtain ⟨ds, ε2, e3, e4⟩ := mb_some e2
  replace e4 : (match G (.pw (.flat (.ins c [] [])) :: ds.map .sh) with
    | some (.non, .pw (.flat d) :: _) => some (d, ε2)
    | _ => none) = some (d, ε') := e4
  split at e4
  · rename_i d' rest q
    cases e4
    refine ⟨π, ε, F, cs, R, ls, ε1, e1, fun vs H1 F1 cs1 s1 R1 r1 => fun x dx hx hdx hne => ?_⟩
    obtain ⟨F2, cs2, s2, R2, r2⟩ := R1.fzAll r1 e3
    have st := s1.trans s2
    show spI mg (n + 1) G (.ref x :: (vs ++ [])) _ _ E
    rw [List.append_nil]
    -- the new instance
    have hx2 : (upd H1 dx (.own x)) x = none := by rw [upd_ne (Ne.symm hne)]; exact hx
    have R3 : ER mg π ε' σ (upd (upd H1 dx (.own x)) x (.ins C dx [])) F2 cs2 := (R2.newCell hdx).newCell hx2
    have hF2x := R2.freshF hx
    have hF2d := R2.freshF hdx
    have top0 : Top mg F2 (upd (upd H1 dx (.own x)) x (.ins C dx [])) x [x, dx] (.ins c [] []) := ⟨C, dx, [], upd_same, by rw [upd_ne hne, upd_same], hm, rfl, .nil, rfl⟩
    have Rc : ER mg (prm (.ref x :: vs)) (.pw (.flat (.ins c [] [])) :: ds.map .sh) ((V.ref x :: vs).map some) (upd (upd H1 dx (.own x)) x (.ins C dx [])) F2 (fun j => if j = 0 then [x, dx] else []) := by
      refine ⟨by simp [r2.length], R3.sub, fun j s e => ?_, fun j hj => ?_, fun j p hp => ?_, fun j k' p hj hk => ?_⟩
      · cases j with
        | zero =>
          cases e
          rw [if_pos rfl]
          exact ⟨rfl, x, rfl, top0⟩
        | succ j =>
          have := (ER.shared r2 R3.sub).slot j s (by simpa using e)
          rw [if_neg (Nat.succ_ne_zero j)]
          cases s with
          | no => rfl
          | sh d => obtain ⟨v, a, b, _⟩ := this; exact ⟨v, by simpa using a, b, rfl⟩
          | ow y => rw [List.getElem?_cons_succ, List.getElem?_map] at e; cases q9 : ds[j]? <;> rw [q9] at e <;> cases e
          | pw y => rw [List.getElem?_cons_succ, List.getElem?_map] at e; cases q9 : ds[j]? <;> rw [q9] at e <;> cases e
      · rw [if_neg (by simp at hj; omega)]
      · split at hp
        · simp at hp
          rcases hp with rfl | rfl
          · exact hF2x
          · exact hF2d
        · cases hp
      · split at hj
        · split at hk
          · omega
          · cases hk
        · cases hj
    refine ⟨by rw [List.length_cons, r1.length, hl _ _ _ e1], _, F2, _, Rc, .non, _, q, fun v H3 F3 cs3 s3 R4 r4 => ?_⟩
    cases r4
    refine ⟨rfl, ?_⟩
    obtain ⟨a0, hv0, top⟩ := (R4.slot 0 _ rfl).2
    have ha0 : V.ref x = V.ref a0 := hv0
    cases ha0
    have frn2 : ∀ b o, H1 b = some o → F2 b = none → H3 b = some o ∧ F3 b = none ∧ ∀ i, b ∉ cs3 i := fun b o hb hn => by
      have b1 : b ≠ x := ne_of_none hb hx
      have b2 : b ≠ dx := ne_of_none hb hdx
      refine s3.frn b o (by rw [upd_ne b1, upd_ne b2]; exact hb) hn fun i hi => ?_
      split at hi
      · simp at hi; rcases hi with z | z
        · exact b1 z
        · exact b2 z
      · cases hi
    have Rf : ER mg π ε' σ H3 F3 cs2 := by
      refine ⟨R2.len, R4.sub, fun j s e => (R2.slot j s e).keepH s3.same fun b hb o e => (frn2 b o e (R2.nf j b hb)).1, R2.off, fun j b hb => ?_, R2.dj⟩
      obtain ⟨o, e⟩ := R2.cells j b hb
      exact (frn2 b o e (R2.nf j b hb)).2.1
    refine k x (cs3 0) H3 F3 cs2 (st.trans ⟨s3.same, fun b o hb => ?_, fun b o hb hn hc => ?_⟩) Rf top fun p hp => ?_
    · have b1 : b ≠ x := ne_of_none hb hx
      have b2 : b ≠ dx := ne_of_none hb hdx
      exact s3.sol b o (by rw [upd_ne b1, upd_ne b2]; exact hb)
    · obtain ⟨h1, h2, _⟩ := frn2 b o hb hn
      exact ⟨h1, h2, hc⟩
    · -- the instance's cells are new
      have hpF : F3 p = none := R4.nf 0 p hp
      have hp1 : H1 p = none := by
        cases z : H1 p with
        | none => rfl
        | some o =>
          cases z2 : F2 p with
          | none => exact absurd hp ((frn2 p o z z2).2.2 0)
          | some u => rw [s3.same p u z2] at hpF; cases hpF
      exact ⟨st.fresh hp1, hpF, fun i hi => by
        obtain ⟨o, e⟩ := R2.cells i p hi
        rw [hp1] at e; cases e⟩
  · cases e4
theorem qn_make {CX : CXT} {k n : Nat} {f C : Addr} {fd : FuncData} {ps : List Str} {G : Fn} {E : XK} {x : Str} {p pos : Pos} {e : Expr} {es : List Expr} {g : M (List L)} (Mk_ : Mk X.K C f) (Fo : FnOk X.prog X.w X.K X.mg X.base CX k f fd ps (spI X.gx (n + 1) G)) (hr : Room (k + 1) X.A) (hm : X.mg x = some (.ref C)) (hb : Binds X.K fd ps []) (hx : Passes CX X E) (ha : PA X (e :: es) (tA X.gx g)) (hl : LenA g n)
    (hg : Gl X x := by rfl) (hdb : (x == ("__debug__" : Str)) = false := by decide) (he : starEach (e :: es) X.env = (false, eval e X.env) :: starEach es X.env := by rfl) (hpl : (backTo pos (starEach es X.env)).any (·.1) = false := by rfl) :
    PE X (.Call (.Name x p) (e :: es) [] pos) (tN X.gx (gMake x G g)) := (pe_make Mk_ Fo hr hg hm hb .nil hx ha hdb he hpl).imp (tMake_of (mg := X.gx) hm hl)
end
end Q

namespace Q
open PySem PySem.Spec L2

/-! ### set(xs) of a list of ints, its table rising -/
section
variable {P : Program} {w : World} {A : Around} {E : Value → Shared → Prop} {s : Shared}
abbrev emptySet (w : World) : Obj := { cls := .type "set", dict := none, data := .set #[] 0 (.fresh 0 0 (!w.params.followText "set-order")) }
set_option maxHeartbeats 3200000 in
theorem set_of_ints {a : Addr} {us : Array Value} (ns : List Int) {Q : Value → Shared → Prop} (calm : A.handled = none) (lst : s.heap.IsList a us) (whole : PyProof.Rows.IntsAre us.toList ns) (few : ns.length + 1 < scanBound)
    (k : ∀ (g : Heap) (tk c : Nat), SetR w g s.heap.objs.size (fun j => decide (j ∈ ns)) c → c ≤ ns.length → (∀ b o, s.heap.get? b = some o → g.get? b = some o) → Q (.ref s.heap.objs.size) { s with heap := g, toks := tk }) :
    wpAny (model P w) A (call (.type "set") [.ref a]) Q E s := by
  have size_eq : us.size = ns.length := by
    have := PyProof.Rows.IntsAre.length whole
    rwa [Array.length_toList] at this
  obtain ⟨cl, mro, hmro⟩ := F.called_set.mro
  have made := F.called_set.made
  have sub := F.called_set.sub
  apply wpAny_call
  apply codeAny_of_tree
  show wpAny _ _ (callAny (.type "set") _) _ _ _
  apply wpAny_pure
  refine ⟨Code.quiet_builtin _ (by decide +kernel), codeAny_builtin F.entry_type_call ?_⟩
  rw [Around.under_plain (weight_type_call_type "set" [.ref a] []) rfl]
  have x1 := F.called_set.notType
  have x2 := F.called_set.canCreate
  have x3 := F.typeCall_set_1 (.ref a)
  repeat (any_goals (first | assumption | wp_step))
  let s1 : Shared := { s with heap := s.heap.push (emptySet w) }
  refine codeAny_mono (code_set_led1 (.ref a) (E := E) (Q₁ := fun u s' => u = .ref s.heap.objs.size ∧ s' = s1) ⟨rfl, rfl⟩) ?_
  intro r s' hr
  match r, hr with
  | .error e, hr => exact hr
  | .ok .next, hr => exact hr.elim
  | .ok .brk, hr => exact hr.elim
  | .ok .cont, hr => exact hr.elim
  | .ok (.ret u), ⟨hu, hs'⟩ =>
    subst hu hs'
    have at0 : s1.heap.get? s.heap.objs.size = some (emptySet w) := Heap.get?_push_size _ rfl
    have isSet : s1.TypeIs (.ref s.heap.objs.size) "set" := ⟨_, at0, rfl⟩
    have look := F.called_set.init.lookup
    have bind := F.called_set.init.bind (.ref s.heap.objs.size)
    repeat (any_goals (first | assumption | wp_step))
    refine codeAny_mono (codeAny_call_builtin (R := wants (fun v s2 => v = .none ∧ ∃ g tk c, s2 = { s with heap := g, toks := tk } ∧ SetR w g s.heap.objs.size (fun j => decide (j ∈ ns)) c ∧ c ≤ ns.length ∧ (∀ b o, s.heap.get? b = some o → g.get? b = some o)) E) F.called_set.init.plain F.entry_set_init (check_set_init_1 isSet ?fill)) ?after
    case after =>
      intro r2 s2 hr2
      match r2, hr2 with
      | .error e, hr2 => exact hr2
      | .ok .next, hr2 => exact hr2.elim
      | .ok .brk, hr2 => exact hr2.elim
      | .ok .cont, hr2 => exact hr2.elim
      | .ok (.ret v), ⟨hv, g, tk, c, hs2, hS, hc, hk⟩ =>
        subst hv hs2
        repeat (any_goals (first | assumption | wp_step))
        exact k g tk c hS hc hk
    case fill =>
      obtain ⟨⟨ocls, odict, odata, oslots⟩, atA, hcl, nl, hdl⟩ := lst
      simp only at hcl hdl
      subst hcl hdl
      have atA1 : s1.heap.get? a = some { cls := .type "list", dict := odict, data := .seq us nl, slots := oslots } := Heap.get?_push_of_some _ atA
      have y1 := F.sub_list_set
      have y2 := F.sub_list_frozenset
      have y3 : (Value.type "list" == Value.type "dict") = false := by decide
      have lst1 : s1.heap.IsList a us := ⟨_, atA1, rfl, nl, rfl⟩
      have hbelow : a < s.heap.objs.size := Heap.lt_size atA
      have size1 : s1.heap.objs.size = s.heap.objs.size + 1 := Heap.size_push ..
      unfold Builtin.«set.__init__» noKeywords Builtin.Frozenset.updateFrom
      generalize hPI : pyIter = PI
      wp_walk
      subst hPI
      refine wpAny_pyIter_list lst1 (wpAny_bind (wpAny_runValue ?_))
      have item : ∀ (i : Nat) (v : Value), us[i]? = some v → ∃ n t, ns[i]? = some n ∧ v = .int n t := by
        intro i v hv
        have hi : i < ns.length := by rw [← size_eq]; exact (Array.getElem?_eq_some_iff.mp hv).1
        obtain ⟨t, ht⟩ := PyProof.Rows.IntsAre.int_at whole i v (by rw [Array.getElem?_toList]; exact hv)
        have hd : ns.getD i 0 = ns[i] := by rw [List.getD_eq_getElem?_getD, List.getElem?_eq_getElem hi]; rfl
        exact ⟨ns[i], t, List.getElem?_eq_getElem hi, by rw [ht, hd]⟩
      refine set_update_ints ((Walks.list (by simp [calm]) _ a (by rw [size1]; exact Nat.ne_of_lt (Nat.lt_succ_of_lt hbelow)) us).toS) s.heap.objs.size (by rw [size1]; simp only [List.mem_cons, List.not_mem_nil, or_false, not_or]; exact ⟨Nat.ne_of_lt (Nat.lt_succ_self _), Nat.ne_of_gt hbelow⟩) ns size_eq few item (us.size - 0) 0 _ (by omega) (Nat.zero_le _)
        ⟨⟨_, Heap.get?_push_size _ rfl, rfl, rfl⟩, lst1.push _⟩ ⟨0, Nat.le_refl 0, setR_new_at (Heap.get?_push_of_some _ at0)⟩ ?_
      intro s3 c hm hc hS
      obtain ⟨g, gens, drawn, tk, os⟩ := s3
      have e1 : gens = s.gens := hm.gens
      have e2 : drawn = s.drawn := hm.drawn
      have e3 : os = s.os := hm.os
      subst e1 e2 e3
      show wpAny _ _ _ _ _ _
      refine wpAny_pure ?_
      show wpAny _ _ (ret Value.none) _ _ _
      refine wpAny_pure ⟨rfl, g, tk, c, rfl, hS, by rw [← size_eq]; exact hc, fun b o e => ?_⟩
      have lt : b < s.heap.objs.size := Heap.lt_size e
      refine hm.heap b o ?_ (Heap.get?_push_of_some _ (Heap.get?_push_of_some _ e))
      rw [size1]
      simp only [List.mem_cons, List.not_mem_nil, or_false, not_or]
      exact ⟨Nat.ne_of_lt lt, Nat.ne_of_lt (Nat.lt_succ_of_lt lt)⟩
end
end Q

namespace Q
open PySem PySem.Spec L2

/-! ### rising lists without doubles -/
def insU (k : Int) : List Int → List Int
  | [] => [k]
  | h :: t => if k < h then k :: h :: t else if k = h then h :: t else h :: insU k t
def sortU : List Int → List Int
  | [] => []
  | k :: r => insU k (sortU r)
theorem insU_mem {k j : Int} : ∀ {l : List Int}, j ∈ insU k l ↔ j = k ∨ j ∈ l
  | [] => by simp [insU]
  | h :: t => by
    unfold insU
    split
    · simp
    · split
      · rename_i e; subst e; simp
      · simp only [List.mem_cons, insU_mem (l := t)]
        constructor
        · rintro (z | z | z)
          · exact .inr (.inl z)
          · exact .inl z
          · exact .inr (.inr z)
        · rintro (z | z | z)
          · exact .inr (.inl z)
          · exact .inl z
          · exact .inr (.inr z)
theorem insU_rise {k : Int} : ∀ {l : List Int}, l.Pairwise (· < ·) → (insU k l).Pairwise (· < ·)
  | [], _ => by simp [insU]
  | h :: t, p => by
    rw [List.pairwise_cons] at p
    unfold insU
    split
    · rename_i lt
      rw [List.pairwise_cons]
      refine ⟨fun x hx => ?_, List.pairwise_cons.mpr p⟩
      rcases List.mem_cons.mp hx with z | z
      · rw [z]; exact lt
      · exact Int.lt_trans lt (p.1 x z)
    · split
      · exact List.pairwise_cons.mpr p
      · rw [List.pairwise_cons]
        refine ⟨fun x hx => ?_, insU_rise p.2⟩
        rcases insU_mem.mp hx with z | z
        · rw [z]; omega
        · exact p.1 x z
theorem sortU_mem {j : Int} : ∀ {l : List Int}, j ∈ sortU l ↔ j ∈ l
  | [] => Iff.rfl
  | k :: r => by
    show j ∈ insU k (sortU r) ↔ _
    rw [insU_mem, sortU_mem, List.mem_cons]
theorem sortU_rise : ∀ {l : List Int}, (sortU l).Pairwise (· < ·)
  | [] => .nil
  | k :: r => insU_rise sortU_rise
theorem rise_unique : ∀ {a b : List Int}, a.Pairwise (· < ·) → b.Pairwise (· < ·) → (∀ k, k ∈ a ↔ k ∈ b) → a = b
  | [], [], _, _, _ => rfl
  | [], y :: b, _, _, h => by have := (h y).mpr List.mem_cons_self; cases this
  | x :: a, [], _, _, h => by have := (h x).mp List.mem_cons_self; cases this
  | x :: a, y :: b, p, q, h => by
    rw [List.pairwise_cons] at p q
    have e : x = y := by
      rcases List.mem_cons.mp ((h x).mp List.mem_cons_self) with z | z
      · exact z
      · rcases List.mem_cons.mp ((h y).mpr List.mem_cons_self) with z2 | z2
        · exact z2.symm
        · have := p.1 y z2; have := q.1 x z; omega
    subst e
    refine congrArg (x :: ·) (rise_unique p.2 q.2 fun k => ⟨fun hk => ?_, fun hk => ?_⟩)
    · rcases List.mem_cons.mp ((h k).mp (List.mem_cons_of_mem _ hk)) with z | z
      · have := p.1 k hk; omega
      · exact z
    · rcases List.mem_cons.mp ((h k).mpr (List.mem_cons_of_mem _ hk)) with z | z
      · have := q.1 k hk; omega
      · exact z
def asInts : List D → Option (List Int)
  | [] => some []
  | .int i :: r => match asInts r with
    | some ns => some (i :: ns)
    | none => none
  | _ => none
theorem asInts_some : ∀ {ds : List D} {ns : List Int}, asInts ds = some ns → ds = ns.map .int
  | [], _, h => by cases h; rfl
  | .int i :: r, ns, h => by
    replace h : (match asInts r with | some ns => some (i :: ns) | none => none) = some ns := h
    cases e : asInts r with
    | none => rw [e] at h; cases h
    | some ms => rw [e] at h; cases h; rw [asInts_some e]; rfl
  | .non :: _, _, h => by cases h
  | .bl _ :: _, _, h => by cases h
  | .str _ :: _, _, h => by cases h
  | .tup _ :: _, _, h => by cases h
  | .lst _ :: _, _, h => by cases h
  | .dk _ _ :: _, _, h => by cases h
  | .dt _ _ :: _, _, h => by cases h
  | .ins _ _ _ :: _, _, h => by cases h
  | .scr _ :: _, _, h => by cases h
/-- sorted(set(xs)) of ints -/
def dSortSet : D → Option D
  | .lst ds => match asInts ds with
    | some ns => if ns.length < 64 then some (.lst ((sortU ns).map .int)) else none
    | none => none
  | _ => none

section
variable {X : Cx} {mg : GX} {F F' F2 F1 H H' H2 H1 : Hp} {cs cs' cs2 cs1 : Nat → List Addr} {ε ε' ε1 : Env} {σ : St} {π : Nat → V}
def rSetL (K : PySem.W.Frag) (w : World) : List V → Hp → VK → Prop := fun xs H Q => ∃ (a : Addr) (ns : List Int), xs = [.ref a] ∧ SqL K H a (ns.map V.int) ∧ ns.length < 64 ∧ ∀ p c, H p = none → c ≤ ns.length → Q (.ref p) (upd H p (SetO w p (fun j => decide (j ∈ ns)) c))
theorem cr_setL (hc : X.calm = true) : CallR X (.type "set") (rSetL X.K X.w) := by
  intro pins s σ H xs us Q I r h
  obtain ⟨a, ns, rfl, hl, few, q⟩ := h
  obtain ⟨u, rfl, ru⟩ := vals1 r
  cases ru
  obtain ⟨its, rv, pl, _⟩ := I.list hl
  refine set_of_ints ns (I.ok.hd hc) pl.isList (by simpa using ints_of_vals rv) (by unfold scanBound; omega) fun g tk c hS hcl hk => ?_
  have hn : H s.heap.objs.size = none := I.hok.fresh (Nat.le_refl _)
  refine ⟨.ref s.heap.objs.size, _, I.laid (t' := tk) hk (Nat.le_refl _) (setO_new hS), rfl, q _ c hn hcl⟩
theorem qn_sortSet {e : Expr} {f : M L} {p p2 q pos : Pos} (hc : X.calm = true) (hm : X.mg "sorted" = none) (hm2 : X.mg "set" = none) (he : PE X e (tE X.gx f)) (hg : Gl X "sorted" := by rfl) (hg2 : Gl X "set" := by rfl)
    (hs : starEach [e] X.env = (false, eval e X.env) :: starEach [] X.env := by rfl) (hpl : (backTo q (starEach [] X.env)).any (·.1) = false := by rfl)
    (hs2 : starEach [.Call (.Name "set" p2) [e] [] q] X.env = (false, eval (.Call (.Name "set" p2) [e] [] q) X.env) :: starEach [] X.env := by rfl) (hpl2 : (backTo pos (starEach [] X.env)).any (·.1) = false := by rfl) :
    PE X (.Call (.Name "sorted" p) [.Call (.Name "set" p2) [e] [] q] [] pos) (tN X.gx (un dSortSet f)) :=
  (pe_callB (cr_sortedSet hc) hg hm (by decide +kernel) (pa_cons (pe_callTy (cr_setL hc) hg2 hm2 (by decide +kernel) (pa_cons he pa_nil hs) (by decide) (by decide) hs hpl) pa_nil hs2) (by decide) (by decide) hs2 hpl2).imp fun σ H Q h => by
    obtain ⟨π, ε, F, cs, R, d, ε', e0, k⟩ := h
    obtain ⟨la, x, h1, h3, h5⟩ := un_some e0
    refine ⟨π, ε, F, cs, R, la, ε', h1, fun v H1 F1 cs1 s1 R1 r1 => ?_⟩
    have rd := R1.rd r1 h3
    cases x with
    | lst ds =>
      replace h5 : (match asInts ds with | some ns => if ns.length < 64 then some (D.lst ((sortU ns).map .int)) else none | none => none) = some d := h5
      cases q1 : asInts ds with
      | none => rw [q1] at h5; cases h5
      | some ns =>
        rw [q1] at h5
        replace h5 : (if ns.length < 64 then some (D.lst ((sortU ns).map .int)) else none) = some d := h5
        by_cases few : ns.length < 64
        · rw [if_pos few] at h5; cases h5
          obtain ⟨a, vs, rfl, ha, z, r⟩ := rd.lst R1.sub
          rw [asInts_some q1] at r
          rw [repInts_of r] at ha
          refine ⟨a, ns, rfl, .inl (.inl ha), few, fun p c hp hc => ?_⟩
          refine ⟨p, _, c, rfl, upd_same, by omega, fun ms p' rise mem len hp' => ?_⟩
          have e1 : ms = sortU ns := rise_unique rise sortU_rise fun j => by rw [mem j, sortU_mem]; exact decide_eq_true_iff
          subst e1
          have R2 := R1.newCell (o := SetO X.w p (fun j => decide (j ∈ ns)) c) hp
          have s2 : Stp H1 F1 cs1 (upd H1 p (SetO X.w p (fun j => decide (j ∈ ns)) c)) F1 cs1 := .newCell hp
          have st := s1.trans s2
          refine k p' [p'] _ F1 cs1 (st.trans (.newCell hp')) (R2.newCell hp') ⟨_, upd_same, by rw [List.length_map, len]; exact Nat.le_trans hc (Nat.le_trans (Nat.le_of_lt few) (by decide)), repInts _, rfl⟩ fun x hx => ?_
          simp at hx; subst hx
          exact ⟨st.fresh hp', R2.freshF hp', R2.freshC hp'⟩
        · rw [if_neg few] at h5; cases h5
    | _ => cases h5

/-! ### methods of lists by values -/
def isL : D → Option Unit
  | .lst _ => some ()
  | _ => none
/-- x.m(e) of a list, asked alone -/
def methL (g : D → D → Option D) (fo fa : M L) : M D := mb fo fun l => mb (mrd l) fun x0 => mb (mo (isL x0)) fun _ => bin g (mr l) fa
def dIndex (x y : D) : Option D := match toPy x, toPy y with
  | some (.list ps), some p => if SeqAt.shaped (.list ps) && SeqAt.shaped p then match ps.findIdx? (fun z => PyData.eqv z p) with
      | some j => some (.int (j : Nat))
      | none => none
    else none
  | _, _ => none
theorem dIndex_some {x y d : D} (h : dIndex x y = some d) : ∃ ps p j, toPy x = some (.list ps) ∧ toPy y = some p ∧ SeqAt.shaped (.list ps) = true ∧ SeqAt.shaped p = true ∧ ps.findIdx? (fun z => PyData.eqv z p) = some j ∧ d = .int (j : Nat) := by
  unfold dIndex at h
  split at h
  · rename_i ps p e1 e2
    split at h
    · rename_i hs
      rw [Bool.and_eq_true] at hs
      cases e3 : ps.findIdx? (fun z => PyData.eqv z p) with
      | none => rw [e3] at h; cases h
      | some j => rw [e3] at h; cases h; exact ⟨ps, p, j, e1, e2, hs.1, hs.2, e3, rfl⟩
    · cases h
  · cases h
theorem qe_index {o e : Expr} {fo fa : M L} {apos cpos : Pos} (hu : X.A.units + 65 < cLine) (ho : PE X o (tE X.gx fo)) (he : PE X e (tE X.gx fa)) (hs : starEach [e] X.env = (false, eval e X.env) :: starEach [] X.env := by rfl)
    (hbase : attributeBase o "index" X.env (eval o X.env) = eval o X.env := by rfl)
    (hfew : ((backTo cpos (starEach [e] X.env)).all (fun x => !x.1) && (backToKw cpos (keywordEach [] X.env)).all (fun x => x.1.isSome)
      && decide (([e] : List Expr).length + ([] : List Keyword).length + (if ([] : List Keyword).isEmpty then 0 else 1) < 30)) = true := by rfl)
    (hline : (apos.endLine == cpos.line) = true := by rfl) (hplain : (backTo cpos (starEach [] X.env)).any (·.1) = false := by rfl) :
    PE X (.Call (.Attribute o "index" apos) [e] [] cpos) (tE X.gx (mv (methL dIndex fo fa))) :=
  (pe_bm PySem.F.plainAttrs_list PySem.F.slot_list_index PySem.F.type_list_index (mt_indexD hu) ho (pa_cons he pa_nil hs) hbase hfew hline hs hplain).imp fun σ H Q h => by
    obtain ⟨π, ε, F, cs, R, l, ε', e, k⟩ := h
    obtain ⟨d, e0, rfl⟩ := mv_some e
    obtain ⟨l0, ε1, e1, k1⟩ := mb_some e0
    obtain ⟨x0, ε2, e2, k2⟩ := mb_some k1
    obtain ⟨_, ε3, e3, k3⟩ := mb_some k2
    obtain ⟨r2, rfl⟩ := mrd_some e2
    obtain ⟨r3, rfl⟩ := mo_some e3
    obtain ⟨la, ε4, lb, x, y, h1, h2, h3, h4, h5⟩ := bin_some k3
    cases h1
    refine ⟨π, ε, F, cs, R, l0, _, e1, fun v H1 F1 cs1 s1 R1 r1 => ?_⟩
    have rd0 := R1.rd r1 r2
    have hx0 : ∃ ds, x0 = .lst ds := by cases x0 <;> first | exact ⟨_, rfl⟩ | cases r3
    obtain ⟨ds0, rfl⟩ := hx0
    obtain ⟨a0, vs0, rfl, ha0, _, _⟩ := rd0.lst R1.sub
    refine ⟨.inl ⟨rfl, vs0, .inl (.inl ha0)⟩, π, _, F1, cs1, R1, lb, ε', h2, fun w H2 F2 cs2 s2 R2 r2' => ?_⟩
    have rx := R2.rd (r1.mono s2.same) h3
    have ry := R2.rd r2' h4
    obtain ⟨ps, p, j, t1, t2, sh1, sh2, hf, rfl⟩ := dIndex_some h5
    have d1 := (rx.rep R2.sub).dp (K := X.K) t1
    have d2 := (ry.rep R2.sub).dp (K := X.K) t2
    obtain ⟨hj, he1, hlt⟩ := List.findIdx?_eq_some_iff_getElem.mp hf
    refine ⟨a0, w, p, ps, j, ps[j], rfl, rfl, d1, d2, sh1, sh2, List.getElem?_eq_getElem hj, he1, fun m z hm hz => ?_, k _ H2 F2 cs2 (s1.trans s2) R2 (.int _)⟩
    have hml : m < ps.length := by omega
    rw [List.getElem?_eq_getElem hml] at hz
    cases hz
    have := hlt m hm
    cases q : PyData.eqv ps[m] p with
    | false => rfl
    | true => exact absurd q this

/-! ### calls by keywords alone -/
theorem qk_nil : PK X [] (tA X.gx aNil) := ⟨fun pos pins s σ H Q I h => pk_nil.run pos pins s σ H Q I (by
  obtain ⟨π, ε, F, cs, R, l, ε', e, k⟩ := h
  cases e
  exact k [] H F cs .refl R .nil)⟩
theorem qk_cons {nm : Option Str} {kpos : Pos} {e : Expr} {kws : List Keyword} {f : M L} {g : M (List L)} (ha : PE X e (tE X.gx f)) (hr : PK X kws (tA X.gx g)) : PK X (⟨nm, e, kpos⟩ :: kws) (tA X.gx (aCons f g)) := ⟨fun pos pins s σ H Q I h => (pk_cons ha hr).run pos pins s σ H Q I (by
  obtain ⟨π, ε, F, cs, R, ls, ε', e, k⟩ := h
  obtain ⟨l, ε1, r, h1, h2, rfl⟩ := aCons_some e
  refine ⟨π, ε, F, cs, R, l, ε1, h1, fun v H1 F1 cs1 s1 R1 r1 => ?_⟩
  exact ⟨π, ε1, F1, cs1, R1, r, ε', h2, fun vs H2 F2 cs2 s2 R2 r2 => k (v :: vs) H2 F2 cs2 (s1.trans s2) R2 (.cons (r1.mono s2.same) r2)⟩)⟩
/-- the keywords in the parameters' order -/
def KwAll (K : PySem.W.Frag) (fd : FuncData) (ps ks : List Str) : Prop := KBn K fd ps 0 ks (fun us ws => us ++ ws) (fun vs zs => vs ++ zs)
theorem kwAll {K : PySem.W.Frag} {x qual : Str} {st : Stmt} {f : Addr} {fd : FuncData} {ps ks : List Str} (Fu : Fun K x qual st f fd)
    (h : ∀ (kV doc pm : Value) (an : Option Addr) (cdv ct : Value) (ws : List Value), ws.length = ks.length → bindArgs (PySem.W.fnOf x qual (defArgs st) (defBody st) (defScope st) .none kV doc pm an cdv ct) ⟨[], ks.zip ws⟩ = pure (ps.zip ws)) : KwAll K fd ps ks := by
  obtain ⟨oc, od, kV, doc, pm, an, cdv, ct, osl, rfl, lk, hcd⟩ := Fu.ex
  refine ⟨fun s us ws _ l1 l2 => ?_, fun r1 r2 => r1.append r2⟩
  have e : us = [] := List.eq_nil_of_length_eq_zero l1
  subst e
  exact .of_eq (h kV doc pm an cdv ct ws l2)
theorem qe_callK {CX : CXT} {k n : Nat} {f : Addr} {fd : FuncData} {ps ks : List Str} {G : Fn} {E : XK} {x : Str} {p pos : Pos} {kws : List Keyword} {g : M (List L)} (Fo : FnOk X.prog X.w X.K X.mg X.base CX k f fd ps (spI X.gx n G)) (hr : Room k X.A) (hm : X.mg x = some (.ref f)) (hk : PySem.W.keepIn X.K (.ref f) = true) (hb : KwAll X.K fd ps ks) (hx : Passes CX X E) (ha : PK X kws (tA X.gx g)) (hl : LenA g n)
    (hn : ks.length = n := by rfl) (hg : Gl X x := by rfl) (hall : (backToKw pos (keywordEach kws X.env)).all (·.1.isSome) = true := by rfl) (hks : (backToKw pos (keywordEach kws X.env)).filterMap (·.1) = ks := by rfl) (hdb : (x == ("__debug__" : Str)) = false := by decide)
    (hpl : ((backTo pos (starEach [] X.env)).any (·.1) || (backToKw pos (keywordEach kws X.env)).any (·.1.isNone)) = false := by rfl) :
    PE X (.Call (.Name x p) [] kws pos) (tE X.gx (mv (gCall G g))) := by
  refine ⟨fun pins s σ H Q I h => wpAny_Call_Name_kw (ld_glob I hg hm ?_ hdb)⟩
  have h2 := tCall_of hl (E := E) σ H Q h
  refine PySem.W.callWith_KW0 (h₀ := X.base) I.ok.mod.kin hk hall (thn (ha.run pos pins s σ H _ I h2) fun ws s2 ⟨zs, H2, I2, rz, q2⟩ => ⟨I2.kIn, ?_⟩) hpl
  rw [hks]
  have q3 : spI X.gx n G (zs ++ []) H2 Q E := q2
  rw [List.append_nil] at q3
  exact run_fnN (us := []) (vs := []) Fo hr hb hx I2 .nil rz rfl (q3.1.trans hn.symm) q3
end
end Q

namespace Q
open PySem PySem.Spec L2

/-! ### dicts stored into -/
def setKD {κ : Type} [DecidableEq κ] (k : κ) (d : D) : List κ → List D → List D
  | k' :: ks, d' :: ds => (if k' = k then d else d') :: setKD k d ks ds
  | _, _ => []
def dkPut {κ : Type} [DecidableEq κ] (ks : List κ) (ds : List D) (k : κ) (d : D) : List κ × List D := if hasK ks k then (ks, setKD k d ks ds) else (ks ++ [k], ds ++ [d])
section
variable {X : Cx} {mg : GX} {F F' F2 F1 H H' H2 H1 : Hp} {cs cs' cs2 cs1 : Nat → List Addr} {ε ε' ε1 : Env} {σ : St} {π : Nat → V}
theorem setKD_rep {κ : Type} [DecidableEq κ] {k : κ} {v : V} {d : D} (hv : Rep mg F v d) : ∀ {kvs : List (κ × V)} {ds : List D}, RepAll mg F (kvs.map (·.2)) ds → RepAll mg F ((kvs.map fun kv => if kv.1 = k then (kv.1, v) else kv).map (·.2)) (setKD k d (kvs.map (·.1)) ds)
  | [], _, r => by cases r; exact .nil
  | p :: kvs, _, .cons (d := d0) (ds := ds) h r => by
    have ih := setKD_rep (k := k) hv r
    show RepAll mg F ((if p.1 = k then (p.1, v) else p).2 :: _) ((if p.1 = k then d else d0) :: _)
    by_cases e : p.1 = k
    · rw [if_pos e, if_pos e]; exact .cons hv ih
    · rw [if_neg e, if_neg e]; exact .cons h ih
theorem map_keys {κ : Type} [DecidableEq κ] {k : κ} {v : V} (kvs : List (κ × V)) : (kvs.map fun kv => if kv.1 = k then (kv.1, v) else kv).map (·.1) = kvs.map (·.1) := by
  rw [List.map_map]
  apply List.map_congr_left
  intro p _
  show (if p.1 = k then (p.1, v) else p).1 = p.1
  split <;> rfl
theorem putK_rep {κ : Type} [DecidableEq κ] {k : κ} {v : V} {d : D} (hv : Rep mg F v d) {kvs : List (κ × V)} {ds : List D} (r : RepAll mg F (kvs.map (·.2)) ds) : (putK kvs k v).map (·.1) = (dkPut (kvs.map (·.1)) ds k d).1 ∧ RepAll mg F ((putK kvs k v).map (·.2)) (dkPut (kvs.map (·.1)) ds k d).2 := by
  unfold putK dkPut
  have e : hasK (kvs.map (·.1)) k = kvs.any fun kv => decide (kv.1 = k) := by
    unfold hasK; rw [List.any_map]; rfl
  rw [e]
  by_cases h : (kvs.any fun kv => decide (kv.1 = k)) = true
  · rw [if_pos h, if_pos h]
    exact ⟨map_keys kvs, setKD_rep hv r⟩
  · rw [if_neg h, if_neg h, List.map_append, List.map_append]
    exact ⟨rfl, r.append (.cons hv .nil)⟩
theorem putK_len {κ : Type} [DecidableEq κ] (kvs : List (κ × V)) (k : κ) (v : V) : (putK kvs k v).length ≤ kvs.length + 1 := by
  unfold putK
  split
  · rw [List.length_map]; omega
  · rw [List.length_append]; simp

/-! ### dict comprehensions -/
def dcL (a : D → Env → Option Env) (tt : M Bool) (tk tv : M L) (own : List Nat) : List D → List Key → List D → M (List Key × List D)
  | [], ks, ds => fun ε => some ((ks, ds), ε)
  | x :: r, ks, ds => fun ε => match a x ε with
    | some ε1 => match tt ε1 with
      | some (false, ε2) => dcL a tt tk tv own r ks ds (wipeE ε2 own)
      | some (true, ε2) => match mb tk mfz ε2 with
        | some (k, ε3) => match dKey k with
          | some key => match mb tv mfz ε3 with
            | some (d, ε4) => dcL a tt tk tv own r (dkPut ks ds key d).1 (dkPut ks ds key d).2 (wipeE ε4 own)
            | none => none
          | none => none
        | none => none
      | none => none
    | none => none
def gDc (it : M (List D)) (a : D → Env → Option Env) (tt : M Bool) (tk tv : M L) (own : List Nat) : M D := fun ε => match it ε with
  | some (xs, ε1) => if ownOk ε1 own then match dcL a tt tk tv own xs [] [] (wipeE ε1 own) with
      | some (kd, ε2) => some (.dk kd.1 kd.2, backE ε1 ε2 own)
      | none => none
    else none
  | none => none
structure AccK (mg : GX) (H F : Hp) (cs : Nat → List Addr) (Da : Addr) (ks : List Key) (ds : List D) (n : Nat) : Prop where
  at_ : ∃ kvs, H Da = some (.dK kvs) ∧ kvs.map (·.1) = ks ∧ RepAll mg F (kvs.map (·.2)) ds ∧ kvs.length ≤ n
  nf : F Da = none
  nc : ∀ j, Da ∉ cs j
theorem AccK.next {Da : Addr} {ks : List Key} {ds : List D} {n : Nat} (a : AccK mg H F cs Da ks ds n) (s : Stp H F cs H' F' cs') : AccK mg H' F' cs' Da ks ds n := by
  obtain ⟨vs, h, e, r, l⟩ := a.at_
  obtain ⟨h1, n1, c1⟩ := s.frn Da _ h a.nf a.nc
  exact ⟨⟨vs, h1, e, r.mono s.same, l⟩, n1, c1⟩
theorem AccK.more {Da : Addr} {ks : List Key} {ds : List D} {n : Nat} (a : AccK mg H F cs Da ks ds n) : AccK mg H F cs Da ks ds (n + 1) := by
  obtain ⟨vs, h, e, r, l⟩ := a.at_
  exact ⟨⟨vs, h, e, r, by omega⟩, a.nf, a.nc⟩
theorem dc_of {it : M (List D)} {a : D → Env → Option Env} {tt : M Bool} {tk tv : M L} {own js : List Nat} (hjs : ∀ j ∈ js, j ∈ own) (σ : St) (H : Hp) (Q : VK) (h : tN mg (gDc it a tt tk tv own) σ H Q) :
    tDc (tI mg it) (tG mg js a) (tT mg tt) (tE mg tk) (tE mg tv) own σ H Q := by
  obtain ⟨π, ε, F, cs, R, dd, ε', e, k⟩ := h
  unfold gDc at e
  cases q : it ε with
  | none => rw [q] at e; cases e
  | some p =>
    obtain ⟨xs, ε1⟩ := p
    rw [q] at e
    dsimp only at e
    by_cases hok : ownOk ε1 own = true
    · rw [if_pos hok] at e
      cases q2 : dcL a tt tk tv own xs [] [] (wipeE ε1 own) with
      | none => rw [q2] at e; cases e
      | some p2 =>
        obtain ⟨kd, ε2⟩ := p2
        rw [q2] at e
        cases e
        refine ⟨π, ε, F, cs, R, xs, ε1, q, fun J H1 F1 cs1 s1 R1 hJ => fun Da hDa => ?_⟩
        have R1w : ER mg π (wipeE ε1 own) (L2.wipe σ own) (upd H1 Da (.dK [])) F1 cs1 := (R1.newCell hDa).wipe fun j hj => R1.csNo (ownOk_in hok hj)
        refine ⟨fun i m H => i + m = xs.length ∧ ∃ ε F2 cs2 ks ds, ER mg π ε (L2.wipe σ own) H F2 cs2 ∧ Stp H1 F1 cs1 H F2 cs2 ∧ AccK mg H F2 cs2 Da ks ds i ∧ dcL a tt tk tv own (xs.drop i) ks ds ε = some (kd, ε2), ⟨xs.length, by omega, wipeE ε1 own, F1, cs1, [], [], R1w, .newCell hDa, ⟨⟨[], upd_same, rfl, .nil, Nat.le_refl _⟩, R1.freshF hDa, R1.freshC hDa⟩, q2⟩, fun i m H5 hw => ?_⟩
        obtain ⟨hm, ε5, F5, cs5, ks, ds, R5, s5, ac, e5⟩ := hw
        obtain ⟨j1, j2⟩ := hJ.2 i H5 F5 s5.same R5.sub
        cases hd : xs[i]? with
        | none =>
          have hi : xs.length ≤ i := List.getElem?_eq_none_iff.mp hd
          rw [List.drop_eq_nil_of_le hi] at e5
          cases e5
          obtain ⟨kvs, h1, ek, r1, l1⟩ := ac.at_
          refine .inl ⟨j2 hi, k Da [Da] H5 F5 cs5 (s1.trans s5) (ER.back (R1.newCell (o := .dK []) hDa) R5 s5.same hok) ⟨kvs, h1, Nat.le_trans l1 (Nat.le_trans (by omega) hJ.1), ek, r1, rfl⟩ fun p hp => ?_⟩
          simp at hp; subst hp
          exact ⟨s1.fresh hDa, ac.nf, ac.nc⟩
        | some d =>
          obtain ⟨go, yl⟩ := j1 d hd
          have hlt : i < xs.length := (List.getElem?_eq_some_iff.mp hd).1
          have hdr : xs.drop i = d :: xs.drop (i + 1) := by
            rw [List.drop_eq_getElem_cons hlt]
            rw [List.getElem?_eq_getElem hlt] at hd
            cases hd; rfl
          rw [hdr] at e5
          unfold dcL at e5
          refine .inr ⟨go, fun H => ∃ ε F2 cs2 ks ds, ER mg π ε (L2.wipe σ own) H F2 cs2 ∧ Stp H1 F1 cs1 H F2 cs2 ∧ AccK mg H F2 cs2 Da ks ds (i + 1) ∧ dcL a tt tk tv own (xs.drop (i + 1)) ks ds ε = some (kd, ε2), fun H' hN => ⟨m - 1, by omega, by omega, hN⟩, fun x H' hy => ?_⟩
          obtain ⟨F3, gr, rx⟩ := yl x H' hy
          have R6 := R5.grow gr
          have s6 := gr.stp (cs := cs5) R5.sub
          cases qa : a d ε5 with
          | none => rw [qa] at e5; cases e5
          | some ε6 =>
            rw [qa] at e5
            dsimp only at e5
            refine ⟨π, ε5, F3, cs5, R6, d, ε6, rx, qa, fun σ7 cs7 s7 R7 l7 n7 => ?_⟩
            have hwp : L2.wipe σ7 own = L2.wipe (L2.wipe σ own) own := wipe_congr l7 fun j hj => n7 j fun z => hj (hjs j z)
            rw [wipe_wipe] at hwp
            refine ⟨hwp, ?_⟩
            cases qt : tt ε6 with
            | none => rw [qt] at e5; cases e5
            | some pb =>
              obtain ⟨b, ε7⟩ := pb
              rw [qt] at e5
              refine ⟨π, ε6, F3, cs7, R7, b, ε7, qt, fun H8 F8 cs8 s8 R8 => ?_⟩
              have st8 := ((s5.trans s6).trans s7).trans s8
              have ac8 := ((ac.next s6).next s7).next s8
              cases b with
              | false =>
                refine iteF ?_
                obtain ⟨cs9, s9, R9⟩ := R8.turn own
                rw [hwp] at R9
                exact ⟨_, F8, cs9, ks, ds, R9, st8.trans s9, (ac8.next s9).more, e5⟩
              | true =>
                refine iteT ?_
                dsimp only at e5
                cases qk : mb tk mfz ε7 with
                | none => rw [qk] at e5; cases e5
                | some pk =>
                  obtain ⟨kd9, ε9⟩ := pk
                  rw [qk] at e5
                  dsimp only at e5
                  cases qkey : dKey kd9 with
                  | none => rw [qkey] at e5; cases e5
                  | some key =>
                    rw [qkey] at e5
                    dsimp only at e5
                    cases qv : mb tv mfz ε9 with
                    | none => rw [qv] at e5; cases e5
                    | some pv =>
                      obtain ⟨dv, ε10⟩ := pv
                      rw [qv] at e5
                      dsimp only at e5
                      obtain ⟨l9, ε8, q9, q10⟩ := mb_some qk
                      obtain ⟨l11, ε11, q11, q12⟩ := mb_some qv
                      refine ⟨π, ε7, F8, cs8, R8, l9, ε8, q9, fun v H9 F9 cs9 s9 R9 r9 => ?_⟩
                      obtain ⟨F10, cs10, s10, R10, r10⟩ := R9.fz r9 q10
                      refine ⟨π, ε9, F10, cs10, R10, l11, ε11, q11, fun z H11 F11 cs11 s11 R11 r11 => ?_⟩
                      obtain ⟨F12, cs12, s12, R12, r12⟩ := R11.fz r11 q12
                      have ac12 := (((ac8.next s9).next s10).next s11).next s12
                      obtain ⟨kvs, hv, ek, rv, lv⟩ := ac12.at_
                      have hvl : kvs.length < sizeLine := by have := hJ.1; omega
                      have hkey : v = kV key := dKey_rep r10 qkey
                      refine ⟨kvs, key, hkey, hv, hvl, ?_⟩
                      have R13 := R12.updF (o' := .dK (putK kvs key z)) hv ac12.nf ac12.nc
                      obtain ⟨cs14, s14, R14⟩ := R13.turn own
                      rw [hwp] at R14
                      have st12 := ((st8.trans s9).trans s10).trans (s11.trans s12)
                      have stU : Stp H1 F1 cs1 (upd H11 Da (.dK (putK kvs key z))) F12 cs12 := st12.updNew hDa
                      obtain ⟨p1, p2⟩ := putK_rep (k := key) r12 rv
                      have hlen := putK_len kvs key z
                      refine ⟨_, F12, cs14, _, _, R14, stU.trans s14, AccK.next ⟨⟨_, upd_same, by rw [p1, ek], by rw [← ek]; exact p2, by omega⟩, ac12.nf, ac12.nc⟩ s14, e5⟩
    · rw [if_neg hok] at e; cases e
theorem qn_dc {kx vx tg iter : Expr} {ifs : List Expr} {scope : Scope} {own : List (Str × Nat)} {js : List Nat} {pos : Pos} {it : M (List D)} {a : D → Env → Option Env} {tt : M Bool} {tk tv : M L} (hc : X.calm = true) (hN : X.N.Nodup) (hi : PI X tg iter (tI X.gx it)) (ok : BlkOk X.N X.env.scope scope own)
    (hg : ∀ (s : Shared) (H : Hp) (C : Addr) (cl : List (Str × Addr)) (fp : List Addr), PG (X.blk s H scope (compEnvC scope cl C X.env) fp) tg (tG X.gx js a)) (ht : ∀ (s : Shared) (H : Hp) (C : Addr) (cl : List (Str × Addr)) (fp : List Addr), PTs (X.blk s H scope (compEnvC scope cl C X.env) fp) ifs (tT X.gx tt))
    (hk : ∀ (s : Shared) (H : Hp) (C : Addr) (cl : List (Str × Addr)) (fp : List Addr), PE (X.blk s H scope (compEnvC scope cl C X.env) fp) kx (tE X.gx tk)) (he : ∀ (s : Shared) (H : Hp) (C : Addr) (cl : List (Str × Addr)) (fp : List Addr), PE (X.blk s H scope (compEnvC scope cl C X.env) fp) vx (tE X.gx tv)) (hjs : ∀ j ∈ js, j ∈ own.map (·.2) := by decide) (hs : ∀ x, foldedSetIterable iter X.env x = pure x := by intro _; rfl) :
    PE X (.DictComp kx vx [⟨tg, iter, ifs, 0⟩] scope pos) (tN X.gx (gDc it a tt tk tv (own.map (·.2)))) := (pe_dc hc hN hi ok hg ht hk he hs).imp (dc_of hjs)
end
end Q

namespace Q
open PySem PySem.Spec L2

/-! ### the deal of draws: a list of a list of ints and an int -/
section
variable {X : Cx} {mg : GX} {F F' F2 F1 H H' H2 H1 : Hp} {cs cs' cs2 cs1 c0 c0' : Nat → List Addr} {ε ε' ε1 : Env} {σ : St} {π : Nat → V} {Dn : Ends}
theorem ER.chgO (R : ER mg π ε σ H F cs) {i : Nat} {x x' : O} {o : HO} {v : V} {a : Addr} (e : lendS ε[i]? = some x) (hv : σ[i]? = some (some v)) (ha : a ∈ cs i) (t : OR mg F (upd H a o) v (cs i) x') :
    ER mg π (ε.set i (likeS ε[i]? x')) σ (upd H a o) F cs ∧ Stp H F cs (upd H a o) F cs := by
  have hi : i < ε.length := by
    rcases Nat.lt_or_ge i ε.length with z | z
    · exact z
    · rw [List.getElem?_eq_none z] at e; cases e
  have nf : F a = none := R.nf i a ha
  have oth : ∀ j b, j ≠ i → b ∈ cs j → b ≠ a := fun j b hj hb z => hj (R.dj j i b hb (by rw [z]; exact ha))
  refine ⟨⟨by rw [List.length_set]; exact R.len, fun b u q => by rw [upd_ne (fun z => by rw [z, nf] at q; cases q)]; exact R.sub b u q, fun j s q => ?_, fun j hj => R.off j (by rw [List.length_set] at hj; exact hj), R.nf, R.dj⟩, ⟨Same.refl _, fun b u q => ?_, fun b u q n c => ⟨by rw [upd_ne (fun z => c i (by rw [z]; exact ha))]; exact q, n, c⟩⟩⟩
  · by_cases hji : j = i
    · subst hji
      rw [List.getElem?_set_self hi] at q
      cases q
      rcases lendS_some e with q2 | q2
      · rw [q2]; exact ⟨v, hv, t⟩
      · obtain ⟨z, _⟩ := R.slot j _ q2
        rw [q2]
        rw [hv] at z
        have z2 : v = π j := Option.some.inj (Option.some.inj z)
        exact ⟨by rw [← z2]; exact hv, by rw [← z2]; exact t⟩
    · rw [List.getElem?_set_ne (Ne.symm hji)] at q
      exact (R.slot j s q).keepH (Same.refl _) fun b hb u q => by rw [upd_ne (oth j b hji hb)]; exact q
  · by_cases hb : b = a
    · subst hb; exact ⟨o, upd_same⟩
    · exact ⟨u, by rw [upd_ne hb]; exact q⟩
def dlO : Option O → Option (List Int × Int)
  | some (.deal c m) => some (c, m)
  | _ => none
theorem dlO_some {o : Option O} {c : List Int} {m : Int} (h : dlO o = some (c, m)) : o = some (.deal c m) := by
  cases o with
  | none => cases h
  | some x =>
    cases x with
    | deal c m => cases h; rfl
    | flat d => cases h
theorem ER.deal (R : ER mg π ε σ H F cs) {i : Nat} {c : List Int} {m : Int} (e : dlO (lendS ε[i]?) = some (c, m)) : lendS ε[i]? = some (.deal c m) ∧ ∃ p q, σ[i]? = some (some (.ref p)) ∧ H p = some (.lst [.ref q, .int m]) ∧ H q = some (.lst (c.map V.int)) ∧ p ≠ q ∧ cs i = [p, q] := by
  have e' := dlO_some e
  obtain ⟨v, hv, p, q, rfl, h1, h2, n, hc⟩ := R.lent e'
  exact ⟨e', p, q, hv, h1, h2, n, hc⟩
theorem ER.dealQ (R : ER mg π ε σ H F cs) {i : Nat} {c c' : List Int} {m : Int} {p q : Addr} (e : lendS ε[i]? = some (.deal c m)) (hv : σ[i]? = some (some (.ref p))) (h1 : H p = some (.lst [.ref q, .int m])) (n : p ≠ q) (hc : cs i = [p, q]) :
    ER mg π (ε.set i (likeS ε[i]? (.deal c' m))) σ (upd H q (.lst (c'.map V.int))) F cs ∧ Stp H F cs (upd H q (.lst (c'.map V.int))) F cs :=
  R.chgO e hv (by rw [hc]; simp) ⟨p, q, rfl, by rw [upd_ne n]; exact h1, upd_same, n, hc⟩
theorem ER.dealP (R : ER mg π ε σ H F cs) {i : Nat} {c : List Int} {m m' : Int} {p q : Addr} (e : lendS ε[i]? = some (.deal c m)) (hv : σ[i]? = some (some (.ref p))) (h2 : H q = some (.lst (c.map V.int))) (n : p ≠ q) (hc : cs i = [p, q]) :
    ER mg π (ε.set i (likeS ε[i]? (.deal c m'))) σ (upd H p (.lst [.ref q, .int m'])) F cs ∧ Stp H F cs (upd H p (.lst [.ref q, .int m'])) F cs :=
  R.chgO e hv (by rw [hc]; simp) ⟨p, q, rfl, upd_same, by rw [upd_ne n.symm]; exact h2, n, hc⟩
/-- what is read of the deal in slot i -/
def mDl (r : List Int → Int → Option D) (i : Nat) : M L := fun ε => match dlO (lendS ε[i]?) with
  | some (c, m) => match r c m with
    | some d => some (.v d, ε)
    | none => none
  | none => none
theorem mDl_some {r : List Int → Int → Option D} {i : Nat} {ε ε' : Env} {l : L} (h : mDl r i ε = some (l, ε')) : ∃ c m d, dlO (lendS ε[i]?) = some (c, m) ∧ r c m = some d ∧ l = .v d ∧ ε' = ε := by
  unfold mDl at h
  split at h
  · rename_i c m q
    split at h
    · rename_i d q2
      cases h
      exact ⟨c, m, d, q, q2, rfl, rfl⟩
    · cases h
  · cases h
section
variable {x : Str} {i j j2 : Nat} {p1 p2 p3 p4 p5 p6 pos apos cpos : Pos}
def rNe (c : List Int) (_ : Int) : Option D := some (.bl (!c.isEmpty))
def rLast (c : List Int) (_ : Int) : Option D := c.getLast?.map D.int
def rMix (_ : List Int) (m : Int) : Option D := some (.int m)
def rLen (c : List Int) (_ : Int) : Option D := some (.int (c.length : Nat))
theorem eqv_nil (c : List Int) : (!PyData.eqv (.list (c.map PyData.int)) (.list [])) = !c.isEmpty := by
  cases c <;> rfl
theorem dpInts {K : PySem.W.Frag} : ∀ (c : List Int), DpAll K H (c.map V.int) (c.map PyData.int)
  | [] => .nil
  | i :: r => .cons (.int i) (dpInts r)
theorem shapedInts (c : List Int) : SeqAt.shaped (.list (c.map PyData.int)) = true := PySem.W.shaped_ints c
/-- deal[0] != [] -/
theorem tDlNe_of (σ : St) (H : Hp) (Q : VK) (h : tE X.gx (mDl rNe i) σ H Q) : tOp (rNeD X.K) (tOp (rIxL X.K) (tVar i) (tC (.int 0))) (tLst tNil) σ H Q := by
    obtain ⟨π, ε, F, cs, R, l, ε', e, k⟩ := h
    obtain ⟨c, m, d, e1, e2, rfl, rfl⟩ := mDl_some e
    cases e2
    obtain ⟨_, p, q, hσ, h1, h2, n, hc⟩ := R.deal e1
    refine ⟨.ref p, hσ, p, _, 0, _, rfl, rfl, .inl (.inl h1), atI_nat (j := 0) rfl, Nat.zero_le _, fun z hz => ?_⟩
    have s : Same H (upd H z (.lst [])) := fun b u e => by rw [upd_ne (ne_of_none e hz)]; exact e
    refine ⟨.list (c.map PyData.int), .list [], .lst (.inl (.inl (s _ _ h2))) (dpInts c), .lst (.inl (.inl upd_same)) .nil, shapedInts c, rfl, ?_⟩
    rw [eqv_nil]
    exact k _ _ F cs ⟨Same.refl _, fun b u e => ⟨u, s b u e⟩, fun b u e nn cc => ⟨s b u e, nn, cc⟩⟩ (R.newCell hz) (.bl _)
theorem qe_dlNe (hu : X.A.units + 64 < cLine) (hN : X.N[i]? = some x := by rfl) (hv : Vis X.env.scope x := by first | exact Or.inl rfl | exact Or.inr (Or.inl rfl) | exact Or.inr (Or.inr rfl)) (hd : (x == ("__debug__" : Str)) = false := by decide) (hcd : (x == ("__classdict__" : Str)) = false := by decide) :
    PE X (.Compare (.Subscript (.Name x p1) (.Constant (.int 0) j p2) p3) [.NotEq] [.List [] p4] pos) (tE X.gx (mDl rNe i)) :=
  (pe_cmpR (op_neD hu) (pe_ix ix_list (pe_var (i := i) hN hv hd hcd) pe_int (fun _ _ => rfl)) (pe_lst pa_nil) (nomark _)).imp tDlNe_of
theorem qt_dlNe (hu : X.A.units + 64 < cLine) (hN : X.N[i]? = some x := by rfl) (hv : Vis X.env.scope x := by first | exact Or.inl rfl | exact Or.inr (Or.inl rfl) | exact Or.inr (Or.inr rfl)) (hd : (x == ("__debug__" : Str)) = false := by decide) (hcd : (x == ("__classdict__" : Str)) = false := by decide) :
    PT X (.Compare (.Subscript (.Name x p1) (.Constant (.int 0) j p2) p3) [.NotEq] [.List [] p4] pos) (tT X.gx (cB (mDl rNe i))) :=
  (pt_cmpR (op_neD hu) (pe_ix ix_list (pe_var (i := i) hN hv hd hcd) pe_int (fun _ _ => rfl)) (pe_lst pa_nil) (nomark _)).imp fun σ H Q h => tDlNe_of σ H _ (tB_of σ H Q h)
/-- a comparison as a test -/
theorem qt_cmp {a b : Expr} {op : CmpOp} {r : R2} {g : D → D → Option D} {fa fb : M L} (ho : OpR X (compareOp op) r) (hs : OpS X.gx r g) (ha : PE X a (tE X.gx fa)) (hb : PE X b (tE X.gx fb)) (hm : behindInMarks op b = false) : PT X (.Compare a [op] [b] pos) (tT X.gx (cB (mv (bin g fa fb)))) :=
  (pt_cmpR ho ha hb hm).imp fun σ H Q h => tOp_of hs σ H _ (tB_of σ H Q h)
/-- deal[0][-1] -/
theorem qe_dlLast (hN : X.N[i]? = some x := by rfl) (hv : Vis X.env.scope x := by first | exact Or.inl rfl | exact Or.inr (Or.inl rfl) | exact Or.inr (Or.inr rfl)) (hd : (x == ("__debug__" : Str)) = false := by decide) (hcd : (x == ("__classdict__" : Str)) = false := by decide) :
    PE X (.Subscript (.Subscript (.Name x p1) (.Constant (.int 0) j p2) p3) (.UnaryOp .USub (.Constant (.int 1) j2 p4) p5) pos) (tE X.gx (mDl rLast i)) :=
  (pe_ix ix_list (pe_ix ix_list (pe_var (i := i) hN hv hd hcd) pe_int (fun _ _ => rfl)) (pe_un un_neg pe_int) (fun _ _ => rfl)).imp fun σ H Q h => by
    obtain ⟨π, ε, F, cs, R, l, ε', e, k⟩ := h
    obtain ⟨c, m, d, e1, e2, rfl, rfl⟩ := mDl_some e
    obtain ⟨_, p, q, hσ, h1, h2, n, hc⟩ := R.deal e1
    obtain ⟨z, hz, rfl⟩ := Option.map_eq_some_iff.mp e2
    have hne : c ≠ [] := fun z => by rw [z] at hz; cases hz
    have hz2 : c = c.dropLast ++ [z] := by
      rw [List.getLast?_eq_some_getLast hne] at hz
      cases hz
      exact (List.dropLast_concat_getLast hne).symm
    refine ⟨.ref p, hσ, p, _, 0, _, rfl, rfl, .inl (.inl h1), atI_nat (j := 0) rfl, 1, rfl, q, _, -1, .int z, rfl, rfl, .inl (.inl h2), ?_, ?_⟩
    · rw [hz2, List.map_append]
      exact atI_last _ _
    · exact k _ _ F cs .refl R (.int z)
/-- deal[1] -/
theorem qe_dlMix (hN : X.N[i]? = some x := by rfl) (hv : Vis X.env.scope x := by first | exact Or.inl rfl | exact Or.inr (Or.inl rfl) | exact Or.inr (Or.inr rfl)) (hd : (x == ("__debug__" : Str)) = false := by decide) (hcd : (x == ("__classdict__" : Str)) = false := by decide) :
    PE X (.Subscript (.Name x p1) (.Constant (.int 1) j p2) pos) (tE X.gx (mDl rMix i)) :=
  (pe_ix ix_list (pe_var (i := i) hN hv hd hcd) pe_int (fun _ _ => rfl)).imp fun σ H Q h => by
    obtain ⟨π, ε, F, cs, R, l, ε', e, k⟩ := h
    obtain ⟨c, m, d, e1, e2, rfl, rfl⟩ := mDl_some e
    cases e2
    obtain ⟨_, p, q, hσ, h1, h2, n, hc⟩ := R.deal e1
    refine ⟨.ref p, hσ, p, _, 1, .int m, rfl, rfl, .inl (.inl h1), atI_nat (j := 1) rfl, ?_⟩
    exact k _ _ F cs .refl R (.int m)
/-- deal[0].pop() -/
def mDlPop (i : Nat) : M L := fun ε => match dlO (lendS ε[i]?) with
  | some (c, m) => match c.getLast? with
    | some z => some (.v (.int z), ε.set i (likeS ε[i]? (.deal c.dropLast m)))
    | none => none
  | none => none
theorem qe_dlPop (hN : X.N[i]? = some x := by rfl) (hv : Vis X.env.scope x := by first | exact Or.inl rfl | exact Or.inr (Or.inl rfl) | exact Or.inr (Or.inr rfl)) (hd : (x == ("__debug__" : Str)) = false := by decide) (hcd : (x == ("__classdict__" : Str)) = false := by decide)
    (hbase : attributeBase (.Subscript (.Name x p1) (.Constant (.int 0) j p2) p3) "pop" X.env (eval (.Subscript (.Name x p1) (.Constant (.int 0) j p2) p3) X.env) = eval (.Subscript (.Name x p1) (.Constant (.int 0) j p2) p3) X.env := by rfl) (hline : (apos.endLine == cpos.line) = true := by rfl) :
    PE X (.Call (.Attribute (.Subscript (.Name x p1) (.Constant (.int 0) j p2) p3) "pop" apos) [] [] cpos) (tE X.gx (mDlPop i)) :=
  (pe_bm0 PySem.F.plainAttrs_list PySem.F.slot_list_pop PySem.F.type_list_pop mt_pop (pe_ix ix_list (pe_var (i := i) hN hv hd hcd) pe_int (fun _ _ => rfl)) hbase hline).imp fun σ H Q h => by
    obtain ⟨π, ε, F, cs, R, l, ε', e, k⟩ := h
    unfold mDlPop at e
    split at e
    · rename_i c m e1
      split at e
      · rename_i z hz
        cases e
        obtain ⟨e0, p, q, hσ, h1, h2, n, hc⟩ := R.deal e1
        refine ⟨.ref p, hσ, p, _, 0, .ref q, rfl, rfl, .inl (.inl h1), atI_nat (j := 0) rfl, .inl ⟨rfl, _, .inl (.inl h2)⟩, q, c.map V.int, .int z, rfl, rfl, h2, ?_, ?_⟩
        · rw [List.length_map, List.getElem?_map, ← List.getLast?_eq_getElem?, hz]; rfl
        · rw [← List.map_dropLast]
          obtain ⟨R2, s2⟩ := R.dealQ (c' := c.dropLast) e0 hσ h1 n hc
          exact k _ _ F cs s2 R2 (.int z)
      · cases e
    · cases e
/-- deal[0].append(a // b) -/
def mDlApp (g : D → D → Option D) (i a b : Nat) : M L := fun ε => match dlO (lendS ε[i]?), ε[a]?, ε[b]? with
  | some (c, m), some (.sh u), some (.sh w) => match g u w with
    | some (.int z) => if c.length < 1000000 then some (.v .non, ε.set i (likeS ε[i]? (.deal (c ++ [z]) m))) else none
    | _ => none
  | _, _, _ => none
theorem qe_dlApp {xa xb : Str} {ia ib : Nat} {op : Operator} {r : R2} {g : D → D → Option D} (ho : OpR X (binaryOp op) r) (hs : OpS X.gx r g) (hN : X.N[i]? = some x := by rfl) (hv : Vis X.env.scope x := by first | exact Or.inl rfl | exact Or.inr (Or.inl rfl) | exact Or.inr (Or.inr rfl)) (hd : (x == ("__debug__" : Str)) = false := by decide) (hcd : (x == ("__classdict__" : Str)) = false := by decide)
    (hNa : X.N[ia]? = some xa := by rfl) (hva : Vis X.env.scope xa := by first | exact Or.inl rfl | exact Or.inr (Or.inl rfl) | exact Or.inr (Or.inr rfl)) (hda : (xa == ("__debug__" : Str)) = false := by decide) (hcda : (xa == ("__classdict__" : Str)) = false := by decide)
    (hNb : X.N[ib]? = some xb := by rfl) (hvb : Vis X.env.scope xb := by first | exact Or.inl rfl | exact Or.inr (Or.inl rfl) | exact Or.inr (Or.inr rfl)) (hdb : (xb == ("__debug__" : Str)) = false := by decide) (hcdb : (xb == ("__classdict__" : Str)) = false := by decide)
    (hse : starEach [.BinOp (.Name xa p4) op (.Name xb p5) p6] X.env = (false, eval (.BinOp (.Name xa p4) op (.Name xb p5) p6) X.env) :: starEach [] X.env := by rfl)
    (hbase : attributeBase (.Subscript (.Name x p1) (.Constant (.int 0) j p2) p3) "append" X.env (eval (.Subscript (.Name x p1) (.Constant (.int 0) j p2) p3) X.env) = eval (.Subscript (.Name x p1) (.Constant (.int 0) j p2) p3) X.env := by rfl)
    (hfew : ((backTo cpos (starEach [.BinOp (.Name xa p4) op (.Name xb p5) p6] X.env)).all (fun x => !x.1) && (backToKw cpos (keywordEach [] X.env)).all (fun x => x.1.isSome)
      && decide (([.BinOp (.Name xa p4) op (.Name xb p5) p6] : List Expr).length + ([] : List Keyword).length + (if ([] : List Keyword).isEmpty then 0 else 1) < 30)) = true := by rfl)
    (hline : (apos.endLine == cpos.line) = true := by rfl) (hplain : (backTo cpos (starEach [] X.env)).any (·.1) = false := by rfl) :
    PE X (.Call (.Attribute (.Subscript (.Name x p1) (.Constant (.int 0) j p2) p3) "append" apos) [.BinOp (.Name xa p4) op (.Name xb p5) p6] [] cpos) (tE X.gx (mDlApp g i ia ib)) :=
  (pe_bm PySem.F.plainAttrs_list PySem.F.slot_list_append PySem.F.type_list_append mt_append (pe_ix ix_list (pe_var (i := i) hN hv hd hcd) pe_int (fun _ _ => rfl)) (pa_cons (pe_op ho (pe_var (i := ia) hNa hva hda hcda) (pe_var (i := ib) hNb hvb hdb hcdb)) pa_nil hse) hbase hfew hline hse hplain).imp fun σ H Q h => by
    obtain ⟨π, ε, F, cs, R, l, ε', e, k⟩ := h
    unfold mDlApp at e
    split at e
    · rename_i c m u w e1 ea eb
      split at e
      · rename_i z eg
        split at e
        · rename_i hz
          cases e
          obtain ⟨e0, p, q, hσ, h1, h2, n, hc⟩ := R.deal e1
          obtain ⟨va, hva', ra, _⟩ := R.slot ia _ ea
          obtain ⟨vb, hvb', rb, _⟩ := R.slot ib _ eb
          refine ⟨.ref p, hσ, p, _, 0, .ref q, rfl, rfl, .inl (.inl h1), atI_nat (j := 0) rfl, .inl ⟨rfl, _, .inl (.inl h2)⟩, va, hva', vb, hvb', ?_⟩
          refine hs F H va vb u w _ _ R.sub (.inl ra) (.inl rb) eg fun y F3 H3 gr rz => ?_
          cases rz
          have R3 := R.grow gr
          refine ⟨q, c.map V.int, .int z, rfl, rfl, gr.keep _ _ h2, by rw [List.length_map]; exact Nat.lt_of_lt_of_le hz mil, ?_⟩
          obtain ⟨R4, s4⟩ := R3.dealQ (c' := c ++ [z]) e0 hσ (gr.keep _ _ h1) n hc
          rw [List.map_append] at R4 s4
          exact k _ _ F3 cs ((gr.stp R.sub).trans s4) R4 .non
        · cases e
      · cases e
    · cases e
/-- deal[1] = e -/
def gDlMix (i : Nat) (f : M L) : S := fun ε => match f ε with
  | some (l, ε1) => match l.rd ε1, dlO (lendS ε1[i]?) with
    | some (.int z), some (c, _) => some (.nx (ε1.set i (likeS ε1[i]? (.deal c z))))
    | _, _ => none
  | none => none
theorem qs_dlMix {e : Expr} {f : M L} (he : PE X e (tE X.gx f)) (hN : X.N[i]? = some x := by rfl) (hv : Vis X.env.scope x := by first | exact Or.inl rfl | exact Or.inr (Or.inl rfl) | exact Or.inr (Or.inr rfl)) (hd : (x == ("__debug__" : Str)) = false := by decide) (hcd : (x == ("__classdict__" : Str)) = false := by decide)
    (hs : swapsWithSole [.Subscript (.Name x p1) (.Constant (.int 1) j p2) p3] e pos.line X.env = pure false := by rfl) (hw : swappedStores [.Subscript (.Name x p1) (.Constant (.int 1) j p2) p3] e X.env = pure none := by rfl)
    (ha : ∀ v, assign (.Subscript (.Name x p1) (.Constant (.int 1) j p2) p3) X.env v = (do
      let ov ← holding [v] (eval (.Name x p1) X.env)
      let iv ← holding [v, ov] (eval (.Constant (.int 1) j p2) X.env)
      standAt p3
      holding [v, ov, iv] (setItem ov iv v)
      release [v, ov, iv] []) := by intro _; rfl) (h1 : (assignEach [.Subscript (.Name x p1) (.Constant (.int 1) j p2) p3] X.env).map (·.2) = [assign (.Subscript (.Name x p1) (.Constant (.int 1) j p2) p3) X.env] := by rfl) :
    PS X (.Assign [.Subscript (.Name x p1) (.Constant (.int 1) j p2) p3] e pos) (tS X.gx (gDlMix i f)) :=
  (ps_asg he (pg_sub (pe_var (i := i) hN hv hd hcd) pe_int set_list ha) hs hw h1).imp fun D σ H h => by
    obtain ⟨π, ε, F, cs, R, o, e, k⟩ := h
    unfold gDlMix at e
    split at e
    · rename_i l ε1 q
      split at e
      · rename_i z c m q1 q2
        cases e
        refine ⟨π, ε, F, cs, R, l, ε1, q, fun v H1 F1 cs1 s1 R1 r1 => ?_⟩
        have hv1 := (R1.rd r1 q1).int
        subst hv1
        obtain ⟨e0, p, q', hσ, h1, h2, n, hc⟩ := R1.deal q2
        refine ⟨.ref p, hσ, p, _, 1, 1, rfl, rfl, h1, rfl, ?_⟩
        obtain ⟨R4, s4⟩ := R1.dealP (m' := z) e0 hσ h2 n hc
        exact k _ _ F1 cs1 (s1.trans s4) R4
      · cases e
    · cases e
/-- [a list of ints, an int] that is new -/
def intsOf : List D → Option (List Int)
  | [] => some []
  | .int i :: r => match intsOf r with
    | some l => some (i :: l)
    | none => none
  | _ :: _ => none
theorem intsOf_some : ∀ {ds : List D} {l : List Int}, intsOf ds = some l → ds = l.map D.int
  | [], l, h => by cases h; rfl
  | d :: r, l, h => by
    cases d with
    | int i =>
      replace h : (match intsOf r with | some l => some (i :: l) | none => none) = some l := h
      cases q : intsOf r with
      | none => rw [q] at h; cases h
      | some l' => rw [q] at h; cases h; rw [intsOf_some q]; rfl
    | _ => cases h
def mkDeal : D → D → Option O
  | .lst ds, .int m => match intsOf ds with
    | some l => some (.deal l m)
    | none => none
  | _, _ => none
def mDeal (f : M D) (g : M L) : M O := mb f fun d => mb g fun l => mb (mrd l) fun e => mo (mkDeal d e)
theorem mkDeal_some {d e : D} {x : O} (h : mkDeal d e = some x) : ∃ l m, d = .lst (l.map D.int) ∧ e = .int m ∧ x = .deal l m := by
  unfold mkDeal at h
  split at h
  · rename_i ds m
    cases q : intsOf ds with
    | none => rw [q] at h; cases h
    | some l => rw [q] at h; cases h; exact ⟨l, m, by rw [intsOf_some q], rfl, rfl⟩
  · cases h
theorem qno_deal {a b : Expr} {f : M D} {g : M L} (ha : PE X a (tN X.gx f)) (hb : PE X b (tE X.gx g)) (h1 : starEach [a, b] X.env = (false, eval a X.env) :: starEach [b] X.env := by rfl) (h2 : starEach [b] X.env = (false, eval b X.env) :: starEach [] X.env := by rfl) : PE X (.List [a, b] pos) (tNO X.gx (mDeal f g)) :=
  (pe_lst (pa_cons ha (pa_cons hb pa_nil h2) h1)).imp fun σ H Q h => by
    obtain ⟨π, ε, F, cs, R, x, ε', e, k⟩ := h
    obtain ⟨d, ε1, e1, ea⟩ := mb_some e
    obtain ⟨l, ε2, e2, eb⟩ := mb_some ea
    obtain ⟨y, ε3, e3', ec⟩ := mb_some eb
    obtain ⟨e3, rfl⟩ := mrd_some e3'
    obtain ⟨e4, rfl⟩ := mo_some ec
    obtain ⟨c, m, rfl, rfl, rfl⟩ := mkDeal_some e4
    refine ⟨π, ε, F, cs, R, _, ε1, e1, fun a la H1 F1 cs1 s1 R1 t1 hl1 => ?_⟩
    refine ⟨π, ε1, F1, cs1, R1, l, ε', e2, fun v H2 F2 cs2 s2 R2 r2 => ?_⟩
    have hv := (R2.rd r2 e3).int
    subst hv
    obtain ⟨vs, t1, tz, tr, rfl⟩ := t1
    rw [repInts_of tr] at t1
    have fa := hl1 a (by simp)
    obtain ⟨ha2, na2, ca2⟩ := s2.frn a _ t1 fa.2.1 fa.2.2
    refine ⟨show 2 ≤ sizeLine by decide, fun p hp => ?_⟩
    have hpa : p ≠ a := fun z => by rw [z, ha2] at hp; cases hp
    have st := s1.trans s2
    have np : F2 p = none := by
      cases q : F2 p with
      | none => rfl
      | some u => rw [R2.sub p u q] at hp; cases hp
    have hp0 : H p = none := by
      cases q : H p with
      | none => rfl
      | some u => obtain ⟨u', e'⟩ := st.sol p u q; rw [hp] at e'; cases e'
    refine k _ [p, a] _ F2 cs2 (st.trans ⟨Same.refl _, fun b u e => ⟨u, ?_⟩, fun b u e n c => ⟨?_, n, c⟩⟩) (R2.newCell hp) ⟨p, a, rfl, upd_same, ?_, hpa, rfl⟩ fun b hb => ?_
    · rw [upd_ne (ne_of_none e hp)]; exact e
    · rw [upd_ne (ne_of_none e hp)]; exact e
    · rw [upd_ne hpa.symm]; exact ha2
    · rcases List.mem_cons.mp hb with rfl | hb
      · exact ⟨hp0, np, fun i hi => by obtain ⟨o, e⟩ := R2.cells i _ hi; rw [hp] at e; cases e⟩
      · rw [List.mem_singleton] at hb; subst hb
        exact ⟨fa.1, na2, ca2⟩
end

/-! ### defs that give a new object -/
def tSO (mg : GX) (g : M O) : TS := fun Dn σ H => ∃ π ε F cs, ER mg π ε σ H F cs ∧ ∃ x ε', g ε = some (x, ε') ∧ ∀ v l H' F' cs', Stp H F cs H' F' cs' → ER mg π ε' σ H' F' cs' ∨ True → Same F' H' → OR mg F' H' v l x → (∀ p ∈ l, H p = none ∧ F' p = none) → Dn.rt v H'
def gThen (g : S) (h : M O) : M O := fun ε => match g ε with
  | some (.nx ε1) => h ε1
  | _ => none
section
variable {st : Stmt} {rest : List Stmt} {g : S} {h : M O} {e : Expr} {pos : Pos}
theorem qso_cons (h1 : PS X st (tS X.gx g)) (h2 : PSs X rest (tSO X.gx h)) : PSs X (st :: rest) (tSO X.gx (gThen g h)) := (pss_cons h1 h2).imp fun D σ H q => by
  obtain ⟨π, ε, F, cs, R, x, ε', e, k⟩ := q
  unfold gThen at e
  split at e
  · rename_i ε1 q
    refine ⟨π, ε, F, cs, R, _, q, fun σ' H' F' cs' s R' => ⟨π, ε1, F', cs', R', x, ε', e, fun v l H2 F2 cs2 s2 _ sub t hl => ?_⟩⟩
    exact k v l H2 F2 cs2 (s.trans s2) (.inr trivial) sub t fun p hp => ⟨s.fresh (hl p hp).1, (hl p hp).2⟩
  · cases e
theorem qso_ret (he : PE X e (tNO X.gx h)) : PSs X [.Return (some e) pos] (tSO X.gx h) := (pss_one (ps_ret he)).imp fun D σ H q => by
  obtain ⟨π, ε, F, cs, R, x, ε', e, k⟩ := q
  exact ⟨π, ε, F, cs, R, x, ε', e, fun v l H' F' cs' s R' t hl => k v l H' F' cs' s (.inl R') R'.sub t fun p hp => ⟨(hl p hp).1, (hl p hp).2.1⟩⟩
end
abbrev FnO := List D → Option O
def spO (mg : GX) (n : Nat) (G : FnO) : Sp := fun vs H Q _ => vs.length = n ∧ ∃ ds F, RepAll mg F vs ds ∧ Same F H ∧ ∃ x, G ds = some x ∧ ∀ v l H' F' c, Stp H F (fun _ => []) H' F' c → Same F' H' → OR mg F' H' v l x → (∀ p ∈ l, H p = none ∧ F' p = none) → Q v H'
def bodyO (m : Nat) (g : M O) : FnO := fun ds => match g (ds.map .sh ++ List.replicate m .no) with
  | some (x, _) => some x
  | none => none
section
variable {P : Program} {w : World} {K : PySem.W.Frag} {mgl : Str → Option Value} {base : Heap}
theorem fnO {x qual : Str} {st : Stmt} {f : Addr} {fd : FuncData} {N ps : List Str} {k m : Nat} {g : M O} {n : Nat} (Fu : Fun K x qual st f fd) (Sc : FnScope N ps (defScope st)) (hn : ps.length = n) (hN : N.length = n + m)
    (hb : ∀ (cdv : Value) (A : Around) (outer : List PySem.Env) (s : Shared) (H : Hp) (E : XK), Room k (A.deeper (PyProof.Rows.envOfC qual (defScope st) s.heap.objs.size f cdv)) →
      PSs (cxOf CX0 P w K mgl base N qual (defScope st) f cdv A outer s H E).nox (defBody st) (tSO ⟨K, mgl⟩ g)) :
    FnOk P w K mgl base CX0 (k + 1) f fd ps (spO ⟨K, mgl⟩ n (bodyO m g)) := by
  refine Fu.ok Sc (fun vs H Q E h => ?_) (fun cdv A outer s H vs Q E hr h => ⟨_, hb cdv A outer s H E hr, ?_⟩)
  · rw [hn]; exact h.1
  · obtain ⟨hl, ds, F, r, sub, x, e, k⟩ := h
    unfold bodyO at e
    split at e
    · rename_i y ε' q
      cases e
      have R := (ER.shared r sub).body (N := N) (m := m) (by omega)
      exact ⟨prm vs, _, F, _, R, _, ε', q, fun v l H' F' cs' s _ sub' t hl => k v l H' F' cs' s sub' t hl⟩
    · cases e
end
def gCallO (G : FnO) (g : M (List L)) : M O := mb g fun ls => mb (fzAll ls) fun ds => mo (G ds)
theorem tCallO_of {n : Nat} {G : FnO} {g : M (List L)} (hl : LenA g n) {E : XK} (σ : St) (H : Hp) (Q : VK) (h : tNO mg (gCallO G g) σ H Q) : tCall (spO mg n G) [] E (tA mg g) σ H Q := by
  obtain ⟨π, ε, F, cs, R, x, ε', e, k⟩ := h
  obtain ⟨ls, ε1, e1, e2⟩ := mb_some e
  obtain ⟨ds, ε2, e3, e4⟩ := mb_some e2
  obtain ⟨e5, rfl⟩ := mo_some e4
  refine ⟨π, ε, F, cs, R, ls, ε1, e1, fun vs H1 F1 cs1 s1 R1 r1 => ?_⟩
  obtain ⟨F2, cs2, s2, R2, r2⟩ := R1.fzAll r1 e3
  rw [List.append_nil]
  refine ⟨by rw [r1.length, hl _ _ _ e1], ds, F2, r2, R2.sub, x, e5, fun v l H3 F3 c s3 sub t hf => ?_⟩
  refine k v l H3 F3 cs2 ((s1.trans s2).trans (s3.called R2)) (R2.called s3 sub fun _ _ _ _ => by simp) t fun p hp => ⟨(s1.trans s2).fresh (hf p hp).1, (hf p hp).2, fun i hi => ?_⟩
  obtain ⟨o, e⟩ := R2.cells i p hi
  rw [(hf p hp).1] at e; cases e
section
variable {CX : CXT} {k n : Nat} {f : Addr} {fd : FuncData} {ps : List Str} {G : FnO} {E : XK} {x : Str} {p pos : Pos} {e : Expr} {es : List Expr} {g : M (List L)}
theorem qno_call (Fo : FnOk X.prog X.w X.K X.mg X.base CX k f fd ps (spO X.gx n G)) (hr : Room k X.A) (hm : X.mg x = some (.ref f)) (hk : PySem.W.keepIn X.K (.ref f) = true) (hb : Binds X.K fd ps []) (hx : Passes CX X E) (ha : PA X (e :: es) (tA X.gx g)) (hl : LenA g n)
    (hg : Gl X x := by rfl) (hdb : (x == ("__debug__" : Str)) = false := by decide) (he : starEach (e :: es) X.env = (false, eval e X.env) :: starEach es X.env := by rfl) (hpl : (backTo pos (starEach es X.env)).any (·.1) = false := by rfl) :
    PE X (.Call (.Name x p) (e :: es) [] pos) (tNO X.gx (gCallO G g)) := (pe_call Fo hr hg hm hk hb .nil hx ha hdb he hpl).imp (tCallO_of hl)
end
end
end Q

namespace Q
open PySem PySem.Spec L2
section
variable {P : Program} {w : World} {K : PySem.W.Frag} {mg : GX} {mgl : Str → Option Value} {base : Heap}
theorem fn_none {k n : Nat} {f : Addr} {fd : FuncData} {ps : List Str} (hn : ps.length = n) : FnOk P w K mgl base CX0 k f fd ps (spI mg n fun _ => none) :=
  ⟨fun vs H Q E h => by rw [hn]; exact h.1, fun A outer s H args us vs Q E hr h0 hb hv h => by
    obtain ⟨_, _, _, _, _, _, _, e, _⟩ := h
    cases e⟩
theorem hu5_of {A : Around} {k : Nat} (hr : Room k A) : A.units + 65 < cLine := by have := hr.un; omega
def dAddI : D → D → Option D := dInt2 fun i j => some (.int (i + j))
theorem sAddI : OpS mg (ipI fun i j => i + j) dAddI := fun F H v w x y d Q s hv hw hg k => by
  cases x with
  | int i =>
    cases y with
    | int j =>
      cases hg
      rw [hv.int, hw.int]
      exact ⟨i, j, rfl, rfl, k _ F H (growNone s) (.int _)⟩
    | _ => cases hg
  | _ => cases hg
end
end Q

namespace Q
open PySem PySem.Spec L2
theorem ko_self {K : PySem.W.Frag} {C : Addr} : PySem.W.kitOne K (.ref C) (.ref C) = some true := by
  unfold PySem.W.kitOne
  rw [if_pos (beq_self_eq_true _)]
/-- what the law promises -/
def spLaw (K : PySem.W.Frag) : Sp := fun vs H Q _ => ∃ (a : Addr) (ns : List Int), vs = [.ref a] ∧ SqL K H a (ns.map V.int) ∧ ns.length ≤ 63 ∧ ∀ H', Q (.bl true) H'
section
variable {P : Program} {w : World} {K : PySem.W.Frag} {mgl : Str → Option Value} {base : Heap}
theorem law_imp {k : Nat} {f : Addr} {fd : FuncData} {ps : List Str} {G : Fn} (h : FnOk P w K mgl base CX0 k f fd ps (spI ⟨K, mgl⟩ 1 G)) (m : ∀ ns : List Int, ns.length ≤ 63 → ∃ e, G [.sh (.scr ns)] = some (.bl true, e)) : FnOk P w K mgl base CX0 k f fd ps (spLaw K) :=
  h.imp fun vs H Q E ⟨a, ns, e, hS, hl, q⟩ => by
    subst e
    obtain ⟨e, hm⟩ := m ns hl
    refine ⟨rfl, _, H, _, ER.shared (ds := [.scr ns]) (.cons (.scr hS (Nat.le_trans hl (by decide))) .nil) (Same.refl _), _, e, hm, fun v H' F' cs' s R r => ?_⟩
    cases r
    exact q H'
theorem law_sp {H : Hp} {a : Addr} (ns : List Int) (hl : ns.length ≤ 63) (hS : SqL K H a (ns.map V.int)) {E : XK} : spLaw K [.ref a] H (fun v _ => v = .bl true) E := ⟨a, ns, rfl, hS, hl, fun _ => rfl⟩
end
end Q

namespace Q
open PySem PySem.Spec L2
theorem seq_nx {f g : S} {ε ε1 : Env} (h : f ε = some (.nx ε1)) : gSeq f g ε = g ε1 := by
  unfold gSeq
  rw [h]
theorem seq_rt {f g : S} {ε ε1 : Env} {d : D} (h : f ε = some (.rt d ε1)) : gSeq f g ε = some (.rt d ε1) := by
  unfold gSeq
  rw [h]
theorem body_rt {m : Nat} {g : S} {ε ε0 εb l : Env} {d : D} (h0 : ε ++ List.replicate m .no = ε0) (h : g ε0 = some (.rt d εb)) (hk : keepP ε εb = some l) : bodyG m g ε = some (d, l) := by
  unfold bodyG
  rw [h0, h]
  dsimp only
  rw [hk]
/-! ### the laws' draws -/
def anyC : M Bool := (cAnd (cB (mDl rNe 0)) (cB (mv (bin dEq (mDl rLast 0) (eC (.int 0))))))
def anyG : S := (gSeq (gWhile anyC (gX (mDlPop 0)) 200)
  (gSeq (gIf (cB (mDl rNe 0)) (gSeq (gSet 2 (mv (blt bInt (aCons (mDlPop 0) aNil))))
  (gSeq (gX (mDlApp dFdiv 0 2 1))
  (gRet (mv (bin dMod (eVar 2) (eVar 1)))))) gNil)
  (gSeq (gDlMix 0 (mv (bin dMod (mv (blt bInt (aCons (mv (bin dAdd (mv (bin dMul (mDl rMix 0) (eC (.int 48271)))) (eC (.int 31)))) aNil))) (eC (.int 2147483647)))))
  (gRet (mv (bin dMod (mv (blt bInt (aCons (mv (bin dFdiv (mDl rMix 0) (eC (.int 64)))) aNil))) (eVar 1)))))))
def AnyG : Fn := bodyG 1 anyG
theorem anyC_nil (m : Int) (s t : Sl) : anyC [.pw (.deal [] m), s, t] = some (false, [.pw (.deal [] m), s, t]) := rfl
theorem anyC_cons {c : List Int} {z m : Int} {s t : Sl} (h : c.getLast? = some z) : anyC [.pw (.deal c m), s, t] = some (decide (z = 0), [.pw (.deal c m), s, t]) := by
  have hne : c.isEmpty = false := by cases c with
    | nil => cases h
    | cons x r => rfl
  simp [anyC, cAnd, cB, mb, mDl, dlO, lendS, rNe, rLast, h, hne, mrd, L.rd, mo, asB, mv, bin, eC, mr, dEq, dEqB]
theorem pop_eq {c : List Int} {z m : Int} {s t : Sl} (h : c.getLast? = some z) : mDlPop 0 [.pw (.deal c m), s, t] = some (.v (.int z), [.pw (.deal c.dropLast m), s, t]) := by
  simp [mDlPop, dlO, lendS, h, likeS]
theorem any_loop (m : Int) (s t : Sl) : ∀ (n : Nat) (c : List Int), c.length < n → ∃ c', c'.length ≤ c.length ∧ gWhile anyC (gX (mDlPop 0)) n [.pw (.deal c m), s, t] = some (.nx [.pw (.deal c' m), s, t])
  | 0, c, h => by omega
  | n + 1, c, h => by
    cases hz : c.getLast? with
    | none =>
      have : c = [] := List.getLast?_eq_none_iff.mp hz
      subst this
      exact ⟨[], Nat.le_refl _, rfl⟩
    | some z =>
      by_cases h0 : z = 0
      · have hl : c.dropLast.length < n := by
          cases c with
          | nil => cases hz
          | cons x r => simp at h ⊢; omega
        obtain ⟨c', l1, e⟩ := any_loop m s t n c.dropLast hl
        refine ⟨c', by rw [List.length_dropLast] at l1; omega, ?_⟩
        simp only [gWhile, anyC_cons hz, h0, decide_true, gX, pop_eq hz]
        exact e
      · refine ⟨c, Nat.le_refl _, ?_⟩
        simp only [gWhile, anyC_cons hz, decide_eq_false h0]
theorem any_ok {c : List Int} (m : Int) {b : Int} (hc : c.length < 200) (hb : 0 < b) (hb2 : b.natAbs.log2 < 9000) :
    ∃ r c' m', AnyG [.pw (.deal c m), .sh (.int b)] = some (.int r, [.pw (.deal c' m'), .sh (.int b)]) ∧ 0 ≤ r ∧ r < b ∧ c'.length ≤ c.length := by
  obtain ⟨c1, l1, e1⟩ := any_loop m (.sh (.int b)) .no 200 c hc
  cases hz : c1.getLast? with
  | none =>
    have : c1 = [] := List.getLast?_eq_none_iff.mp hz
    subst this
    refine ⟨((m * 48271 + 31) % 2147483647) / 64 % b, [], (m * 48271 + 31) % 2147483647, ?_, Int.emod_nonneg _ (by omega), Int.emod_lt_of_pos _ hb, by simp⟩
    show bodyG 1 anyG _ = _
    unfold bodyG anyG
    simp only [List.replicate, List.cons_append, List.nil_append, gSeq, e1]
    have k1 : mulOk m 48271 = true := by simp [mulOk]
    have k2 : Nat.log2 64 < 9000 := by decide
    simp [gIf, cB, mb, mDl, dlO, lendS, rNe, rMix, mrd, L.rd, mo, asB, mv, bin, eC, mr, gNil, gDlMix, blt, aCons, aNil, mrdAll, rdAll, bInt, dMul, dAdd, dMod, dFdiv, dInt2, k1, k2, likeS, gRet, eVar, hb, mfz, L.fz, keepP]
  | some z =>
    have hne : c1.isEmpty = false := by cases c1 with
      | nil => cases hz
      | cons x r => rfl
    have hl : c1.dropLast.length < 1000000 := by rw [List.length_dropLast]; omega
    refine ⟨z % b, c1.dropLast ++ [z / b], m, ?_, Int.emod_nonneg _ (by omega), Int.emod_lt_of_pos _ hb, ?_⟩
    · show bodyG 1 anyG _ = _
      unfold bodyG anyG
      simp only [List.replicate, List.cons_append, List.nil_append, gSeq, e1]
      have e2 : cB (mDl rNe 0) [.pw (.deal c1 m), .sh (.int b), .no] = some (true, [.pw (.deal c1 m), .sh (.int b), .no]) := by
        simp [cB, mb, mDl, dlO, lendS, rNe, hne, mrd, L.rd, mo, asB]
      have e3 : gSet 2 (mv (blt bInt (aCons (mDlPop 0) aNil))) [.pw (.deal c1 m), .sh (.int b), .no] = some (.nx [.pw (.deal c1.dropLast m), .sh (.int b), .sh (.int z)]) := by
        simp [gSet, mv, blt, aCons, aNil, mb, pop_eq hz, mr, mrdAll, rdAll, L.rd, bInt, mo, mfz, L.fz]
      have e4 : gX (mDlApp dFdiv 0 2 1) [.pw (.deal c1.dropLast m), .sh (.int b), .sh (.int z)] = some (.nx [.pw (.deal (c1.dropLast ++ [z / b]) m), .sh (.int b), .sh (.int z)]) := by
        have hl' : c1.length - 1 < 1000000 := by omega
        simp [gX, mDlApp, dlO, lendS, dFdiv, dInt2, hb, hb2, hl', likeS]
      simp only [gIf, e2, gSeq, e3, e4]
      simp [gRet, mv, bin, eVar, mb, mrd, L.rd, mo, dMod, dInt2, hb, mfz, L.fz, mr, keepP]
    · rw [List.length_append, List.length_dropLast, List.length_singleton]
      cases c1 with
      | nil => cases hz
      | cons x r => simp at l1 ⊢; omega
end Q

namespace Q
open PySem PySem.Spec L2
def dealM : M L := (mv (bin dMul (mv (bin dMul (mv (bin dMul (mv (bin dMul (mv (bin dMul (mv (bin dPow (eC (.int 10)) (eC (.int 64)))) (mv (bin dPow (eC (.int 10)) (eC (.int 64)))))) (mv (bin dPow (eC (.int 10)) (eC (.int 64)))))) (mv (bin dPow (eC (.int 10)) (eC (.int 64)))))) (mv (bin dPow (eC (.int 10)) (eC (.int 64)))))) (mv (bin dPow (eC (.int 10)) (eC (.int 64))))))
def dealE : M L := (mv (bin dMod (mv (blt bInt (aCons (mv (blt bAbs (aCons (mv (blt bInt (aCons (eVar 4) aNil))) aNil))) aNil))) (eVar 2)))
def dealX : S := (gSet 5 (mv (bin dMod (mv (blt bInt (aCons (mv (bin dAdd (mv (bin dAdd (mv (bin dMul (eVar 5) (eC (.int 69621)))) (mv (bin dMod (mv (blt bInt (aCons (eVar 4) aNil))) (eC (.int 2147483563)))))) (eC (.int 23)))) aNil))) (eC (.int 2147483647)))))
def dealT : M Bool := (cB (mv (bin dGe (eVar 4) (mv (bin dPow (eC (.int 10)) (eC (.int 18)))))))
def dealG : M O := (gThen (gSet 2 dealM)
  (gThen (gSetN 3 (gLc (iterM (mv (slM dSl (eVar 0) pNo (pSo (eC (.int 63)))))) (tgName 4) cYes dealE [4]))
  (gThen (gSet 5 (mv (bin dAdd (eC (.int 70001)) (mv (bin dMul (eC (.int 7919)) (eVar 1))))))
  (gThen (gFor (iterM (eVar 3)) (tgName 4) dealX)
  (mDeal (un dRev (mv (gLc (iterM (eVar 3)) (tgName 4) dealT (eVar 4) [4]))) (eVar 5))))))
def DealG : FnO := bodyO 4 dealG
theorem pow_eq (k : Int) (h0 : 0 ≤ k) (h1 : k ≤ 1000000) : dPow (.int 10) (.int k) = some (.int (10 ^ k.toNat)) := by
  unfold dPow dInt2
  dsimp only
  rw [if_pos (by rw [Bool.and_eq_true, Bool.and_eq_true]; exact ⟨decide_eq_true h0, decide_eq_true h1, by decide⟩)]
theorem mul_eq {i j : Int} (h : mulOk i j = true) : dMul (.int i) (.int j) = some (.int (i * j)) := by
  unfold dMul dInt2
  dsimp only
  rw [if_pos h]
theorem cYes_eq (ε : Env) : cYes ε = some (true, ε) := rfl
theorem dealM_eq (ε : Env) : ∃ k : Int, 0 < k ∧ dealM ε = some (.v (.int k), ε) := by
  have p : dPow (.int 10) (.int 64) = some (.int (10 ^ 64)) := pow_eq 64 (by decide) (by decide)
  have m1 : dMul (.int (10 ^ 64)) (.int (10 ^ 64)) = some (.int (10 ^ 64 * 10 ^ 64)) := mul_eq (by decide +kernel)
  have m2 : dMul (.int (10 ^ 64 * 10 ^ 64)) (.int (10 ^ 64)) = some (.int (10 ^ 64 * 10 ^ 64 * 10 ^ 64)) := mul_eq (by decide +kernel)
  have m3 : dMul (.int (10 ^ 64 * 10 ^ 64 * 10 ^ 64)) (.int (10 ^ 64)) = some (.int (10 ^ 64 * 10 ^ 64 * 10 ^ 64 * 10 ^ 64)) := mul_eq (by decide +kernel)
  have m4 : dMul (.int (10 ^ 64 * 10 ^ 64 * 10 ^ 64 * 10 ^ 64)) (.int (10 ^ 64)) = some (.int (10 ^ 64 * 10 ^ 64 * 10 ^ 64 * 10 ^ 64 * 10 ^ 64)) := mul_eq (by decide +kernel)
  have m5 : dMul (.int (10 ^ 64 * 10 ^ 64 * 10 ^ 64 * 10 ^ 64 * 10 ^ 64)) (.int (10 ^ 64)) = some (.int (10 ^ 64 * 10 ^ 64 * 10 ^ 64 * 10 ^ 64 * 10 ^ 64 * 10 ^ 64)) := mul_eq (by decide +kernel)
  refine ⟨10 ^ 64 * 10 ^ 64 * 10 ^ 64 * 10 ^ 64 * 10 ^ 64 * 10 ^ 64, by decide +kernel, ?_⟩
  simp only [dealM, mv, bin, mb, eC, mr, mrd, L.rd, mo, p, m1, m2, m3, m4, m5]
theorem dealE_eq {s0 s1 s3 s5 : Sl} {k : Int} (hk : 0 < k) (n : Int) : dealE [s0, s1, .sh (.int k), s3, .sh (.int n), s5] = some (.v (.int ((if n < 0 then -n else n) % k)), [s0, s1, .sh (.int k), s3, .sh (.int n), s5]) := by
  simp [dealE, mv, bin, blt, aCons, aNil, mb, eVar, mr, mrd, mrdAll, rdAll, L.rd, bInt, bAbs, mo, dMod, dInt2, hk]
theorem dealL {s0 s1 s3 s5 : Sl} {k : Int} (hk : 0 < k) : ∀ ns : List Int, lcL (tgName 4) cYes dealE [4] (ns.map D.int) [s0, s1, .sh (.int k), s3, .no, s5] = some ((ns.map fun n => (if n < 0 then -n else n) % k).map D.int, [s0, s1, .sh (.int k), s3, .no, s5])
  | [] => rfl
  | n :: r => by
    have ih := dealL (s0 := s0) (s1 := s1) (s3 := s3) (s5 := s5) hk r
    have e := dealE_eq (s0 := s0) (s1 := s1) (s3 := s3) (s5 := s5) hk n
    simp only [List.map_cons, lcL, tgName, cYes_eq, List.set, mb, e, mfz, L.fz, wipeE, ih]
theorem dealX_eq {s0 s1 s2 s3 : Sl} (x n : Int) : dealX [s0, s1, s2, s3, .sh (.int n), .sh (.int x)] = some (.nx [s0, s1, s2, s3, .sh (.int n), .sh (.int ((x * 69621 + n % 2147483563 + 23) % 2147483647))]) := by
  have k1 : mulOk x 69621 = true := by simp [mulOk]
  simp [dealX, gSet, mv, bin, blt, aCons, aNil, mb, eVar, eC, mr, mrd, mrdAll, rdAll, L.rd, bInt, mo, dMod, dMul, dAdd, dInt2, k1, mfz, L.fz]
theorem dealF {s0 s1 s2 s3 : Sl} : ∀ (ns : List Int) (s4 : Sl) (x : Int), ∃ s4' x', forL (tgName 4) dealX (ns.map D.int) [s0, s1, s2, s3, s4, .sh (.int x)] = some (.nx [s0, s1, s2, s3, s4', .sh (.int x')]) ∧ (plainS (some s4) = true → plainS (some s4') = true)
  | [], s4, x => ⟨s4, x, rfl, id⟩
  | n :: r, s4, x => by
    obtain ⟨s4', x', e, h⟩ := dealF (s0 := s0) (s1 := s1) (s2 := s2) (s3 := s3) r (.sh (.int n)) ((x * 69621 + n % 2147483563 + 23) % 2147483647)
    refine ⟨s4', x', ?_, fun _ => h rfl⟩
    simp only [List.map_cons, forL, tgName, List.set, dealX_eq]
    exact e
theorem dealT_eq {s0 s1 s2 s3 s5 : Sl} (n : Int) : dealT [s0, s1, s2, s3, .sh (.int n), s5] = some (decide (10 ^ 18 ≤ n), [s0, s1, s2, s3, .sh (.int n), s5]) := by
  have p : dPow (.int 10) (.int 18) = some (.int (10 ^ 18)) := pow_eq 18 (by decide) (by decide)
  simp only [dealT, cB, mv, bin, mb, eVar, eC, mr, mrd, L.rd, mo, p, dGe, dInt2, asB, List.getElem?_cons_succ, List.getElem?_cons_zero]
theorem dealR {s0 s1 s2 s3 s5 : Sl} : ∀ ns : List Int, lcL (tgName 4) dealT (eVar 4) [4] (ns.map D.int) [s0, s1, s2, s3, .no, s5] = some ((ns.filter fun n => decide (10 ^ 18 ≤ n)).map D.int, [s0, s1, s2, s3, .no, s5])
  | [] => rfl
  | n :: r => by
    have ih := dealR (s0 := s0) (s1 := s1) (s2 := s2) (s3 := s3) (s5 := s5) r
    have e := dealT_eq (s0 := s0) (s1 := s1) (s2 := s2) (s3 := s3) (s5 := s5) n
    by_cases h : (10 : Int) ^ 18 ≤ n
    · rw [decide_eq_true h] at e
      rw [List.filter_cons_of_pos (by simpa using h)]
      simp only [List.map_cons, lcL, tgName, List.set, e, mb, eVar, List.getElem?_cons_succ, List.getElem?_cons_zero, mfz, L.fz, wipeE, ih]
    · rw [decide_eq_false h] at e
      rw [List.filter_cons_of_neg (by simpa using h)]
      simp only [List.map_cons, lcL, tgName, List.set, e, wipeE, ih]
theorem intsOf_map : ∀ l : List Int, intsOf (l.map D.int) = some l
  | [] => rfl
  | x :: r => by simp only [List.map_cons, intsOf, intsOf_map r]
theorem cut63 {ns : List Int} (h : ns.length ≤ 63) : (cutL ns none (some 63)).length ≤ 63 := by
  unfold cutL
  simp only [List.length_take, List.length_drop]
  omega
theorem deal_ok {ns : List Int} (h : ns.length ≤ 63) (salt : Int) : ∃ c m, DealG [.scr ns, .int salt] = some (.deal c m) ∧ c.length ≤ 63 := by
  obtain ⟨k, hk, e1⟩ := dealM_eq [.sh (.scr ns), .sh (.int salt), .no, .no, .no, .no]
  have hz := cut63 h
  have L1 := dealL (s0 := .sh (.scr ns)) (s1 := .sh (.int salt)) (s3 := .no) (s5 := .no) hk (cutL ns none (some 63))
  have k1 : mulOk 7919 salt = true := by simp [mulOk]
  generalize hc : (cutL ns none (some 63)).map (fun n => (if n < 0 then -n else n) % k) = cells at L1
  have hcl : cells.length ≤ 63 := by rw [← hc, List.length_map]; exact hz
  obtain ⟨s4, x, L2, hp⟩ := dealF (s0 := .sh (.scr ns)) (s1 := .sh (.int salt)) (s2 := .sh (.int k)) (s3 := .sh (.lst (cells.map D.int))) cells .no (70001 + 7919 * salt)
  have L3 := dealR (s0 := .sh (.scr ns)) (s1 := .sh (.int salt)) (s2 := .sh (.int k)) (s3 := .sh (.lst (cells.map D.int))) (s5 := .sh (.int x)) cells
  refine ⟨(cells.filter fun n => decide (10 ^ 18 ≤ n)).reverse, x, ?_, by rw [List.length_reverse]; exact Nat.le_trans (List.length_filter_le _ _) hcl⟩
  unfold DealG bodyO dealG
  have a1 : gSet 2 dealM [.sh (.scr ns), .sh (.int salt), .no, .no, .no, .no] = some (.nx [.sh (.scr ns), .sh (.int salt), .sh (.int k), .no, .no, .no]) := by
    simp [gSet, mb, e1, mfz, L.fz]
  have a2 : gSetN 3 (gLc (iterM (mv (slM dSl (eVar 0) pNo (pSo (eC (.int 63)))))) (tgName 4) cYes dealE [4]) [.sh (.scr ns), .sh (.int salt), .sh (.int k), .no, .no, .no] = some (.nx [.sh (.scr ns), .sh (.int salt), .sh (.int k), .ow (.flat (.lst (cells.map D.int))), .no, .no]) := by
    simp only [gSetN, gLc, iterM, mv, slM, mb, eVar, pNo, pSo, eC, mr, mrd, L.rd, asI, mo, dSl, mfz, L.fz, itemsOf, ownOk, plainS, wipeE, List.set, List.getElem?_cons_succ, List.getElem?_cons_zero, Bool.and_self, if_true, L1, backE, List.length_cons, List.length_nil]
    rfl
  have a3 : gSet 5 (mv (bin dAdd (eC (.int 70001)) (mv (bin dMul (eC (.int 7919)) (eVar 1))))) [.sh (.scr ns), .sh (.int salt), .sh (.int k), .ow (.flat (.lst (cells.map D.int))), .no, .no] = some (.nx [.sh (.scr ns), .sh (.int salt), .sh (.int k), .ow (.flat (.lst (cells.map D.int))), .no, .sh (.int (70001 + 7919 * salt))]) := by
    simp [gSet, mv, bin, mb, eC, mr, eVar, mrd, L.rd, mo, dMul, dAdd, dInt2, k1, mfz, L.fz]
  have a4 : gFor (iterM (eVar 3)) (tgName 4) dealX [.sh (.scr ns), .sh (.int salt), .sh (.int k), .ow (.flat (.lst (cells.map D.int))), .no, .sh (.int (70001 + 7919 * salt))] = some (.nx [.sh (.scr ns), .sh (.int salt), .sh (.int k), .sh (.lst (cells.map D.int)), s4, .sh (.int x)]) := by
    simp only [gFor, iterM, mb, eVar, mfz, L.fz, mo, itemsOf, List.set, List.getElem?_cons_succ, List.getElem?_cons_zero, L2]
  have a5 : gLc (iterM (eVar 3)) (tgName 4) dealT (eVar 4) [4] [.sh (.scr ns), .sh (.int salt), .sh (.int k), .sh (.lst (cells.map D.int)), s4, .sh (.int x)] = some (.lst ((cells.filter fun n => decide (10 ^ 18 ≤ n)).map D.int), [.sh (.scr ns), .sh (.int salt), .sh (.int k), .sh (.lst (cells.map D.int)), s4, .sh (.int x)]) := by
    simp only [gLc, iterM, mb, eVar, mfz, L.fz, mo, itemsOf, ownOk, wipeE, List.set, List.getElem?_cons_succ, List.getElem?_cons_zero, hp rfl, Bool.and_self, if_true, L3, backE]
  simp only [List.map_cons, List.map_nil, List.replicate, List.cons_append, List.nil_append, gThen, a1, a2, a3, a4]
  simp only [mDeal, un, mv, mb, a5, mr, mrd, L.rd, mo, dRev, eVar, List.getElem?_cons_succ, List.getElem?_cons_zero, mkDeal, ← List.map_reverse, intsOf_map]
end Q

namespace Q
open PySem PySem.Spec L2
/-! ### the text -/
def topS (i : Nat) : Stmt := PySem.Challenge.pw_wordsathand_k59_worlds_of_lots_and_of_di.main.body.getD i (.Pass ⟨0, 0, 0, 0⟩)
def inC (i j : Nat) : Stmt := match topS i with
  | .ClassDef (body := b) .. => b.getD j (.Pass ⟨0, 0, 0, 0⟩)
  | s => s
abbrev st__law_same : Stmt := topS 12
abbrev st__law_all : Stmt := topS 13
abbrev st__law_any : Stmt := topS 10
abbrev st__law_deal : Stmt := topS 9
abbrev st__law_divisor : Stmt := topS 14
abbrev st__law_divisors_due : Stmt := topS 17
abbrev st__law_bits : Stmt := topS 15
abbrev st__law_lots_due : Stmt := topS 16
abbrev st__law_of : Stmt := topS 11
abbrev st__law_told : Stmt := topS 18
abbrev st_World_init : Stmt := inC 2 0
abbrev st_common_divisor : Stmt := topS 5
abbrev st_divisors_of : Stmt := topS 6
abbrev st_pairs_of : Stmt := topS 3
abbrev st_divisors_world : Stmt := topS 7
abbrev st_lots_world : Stmt := topS 4
abbrev st_law : Stmt := topS 19
theorem sc__law_same : FnScope ["told", "due", "at"] ["told", "due"] (defScope st__law_same) := ⟨rfl, rfl, rfl, by decide +kernel, rfl, by decide +kernel, by decide +kernel⟩
theorem sc__law_all : FnScope ["pairs", "told", "due"] ["pairs"] (defScope st__law_all) := ⟨rfl, rfl, rfl, by decide +kernel, rfl, by decide +kernel, by decide +kernel⟩
theorem sc__law_any : FnScope ["deal", "bound", "rest"] ["deal", "bound"] (defScope st__law_any) := ⟨rfl, rfl, rfl, by decide +kernel, rfl, by decide +kernel, by decide +kernel⟩
theorem sc__law_deal : FnScope ["script", "salt", "most", "cells", "cell", "mix"] ["script", "salt"] (defScope st__law_deal) := ⟨rfl, rfl, rfl, by decide +kernel, rfl, by decide +kernel, by decide +kernel⟩
theorem sc__law_divisor : FnScope ["one", "other"] ["one", "other"] (defScope st__law_divisor) := ⟨rfl, rfl, rfl, by decide +kernel, rfl, by decide +kernel, by decide +kernel⟩
theorem sc__law_divisors_due : FnScope ["number", "parts", "join", "meet", "within", "one", "other", "common", "part"] ["number"] (defScope st__law_divisors_due) := ⟨rfl, rfl, rfl, by decide +kernel, rfl, by decide +kernel, by decide +kernel⟩
theorem sc__law_bits : FnScope ["number", "many", "found", "rest", "thing"] ["number", "many"] (defScope st__law_bits) := ⟨rfl, rfl, rfl, by decide +kernel, rfl, by decide +kernel, by decide +kernel⟩
theorem sc__law_lots_due : FnScope ["many", "lots", "join", "meet", "within", "one", "other", "makers", "number", "thing"] ["many"] (defScope st__law_lots_due) := ⟨rfl, rfl, rfl, by decide +kernel, rfl, by decide +kernel, by decide +kernel⟩
theorem sc__law_of : FnScope ["deal", "some"] ["deal", "some"] (defScope st__law_of) := ⟨rfl, rfl, rfl, by decide +kernel, rfl, by decide +kernel, by decide +kernel⟩
theorem sc__law_told : FnScope ["world"] ["world"] (defScope st__law_told) := ⟨rfl, rfl, rfl, by decide +kernel, rfl, by decide +kernel, by decide +kernel⟩
theorem sc_World_init : FnScope ["self", "size", "makers", "relations"] ["self", "size", "makers", "relations"] (defScope st_World_init) := ⟨rfl, rfl, rfl, by decide +kernel, rfl, by decide +kernel, by decide +kernel⟩
theorem sc_common_divisor : FnScope ["one", "other"] ["one", "other"] (defScope st_common_divisor) := ⟨rfl, rfl, rfl, by decide +kernel, rfl, by decide +kernel, by decide +kernel⟩
theorem sc_divisors_of : FnScope ["number", "low", "high", "part"] ["number"] (defScope st_divisors_of) := ⟨rfl, rfl, rfl, by decide +kernel, rfl, by decide +kernel, by decide +kernel⟩
theorem sc_pairs_of : FnScope ["size", "one", "other"] ["size"] (defScope st_pairs_of) := ⟨rfl, rfl, rfl, by decide +kernel, rfl, by decide +kernel, by decide +kernel⟩
theorem sc_divisors_world : FnScope ["number", "parts", "place", "size", "within", "meets", "joins", "makers", "at", "part", "one", "other", "meet"] ["number"] (defScope st_divisors_world) := ⟨rfl, rfl, rfl, by decide +kernel, rfl, by decide +kernel, by decide +kernel⟩
theorem sc_lots_world : FnScope ["many", "size", "_", "within", "join", "meet", "makers", "one", "other"] ["many"] (defScope st_lots_world) := ⟨rfl, rfl, rfl, by decide +kernel, rfl, by decide +kernel, by decide +kernel⟩
theorem sc_law : FnScope ["script", "deal", "pairs", "many", "number", "due"] ["script"] (defScope st_law) := ⟨rfl, rfl, rfl, by decide +kernel, rfl, by decide +kernel, by decide +kernel⟩
structure Tx (K : PySem.W.Frag) (mg : Str → Option Value) where
  f__law_same : Addr
  fd__law_same : FuncData
  F__law_same : Fun K "_law_same" "_law_same" st__law_same f__law_same fd__law_same
  b__law_same : Binds K fd__law_same ["told", "due"] []
  m__law_same : mg "_law_same" = some (.ref f__law_same)
  f__law_all : Addr
  fd__law_all : FuncData
  F__law_all : Fun K "_law_all" "_law_all" st__law_all f__law_all fd__law_all
  b__law_all : Binds K fd__law_all ["pairs"] []
  m__law_all : mg "_law_all" = some (.ref f__law_all)
  f__law_any : Addr
  fd__law_any : FuncData
  F__law_any : Fun K "_law_any" "_law_any" st__law_any f__law_any fd__law_any
  b__law_any : Binds K fd__law_any ["deal", "bound"] []
  m__law_any : mg "_law_any" = some (.ref f__law_any)
  f__law_deal : Addr
  fd__law_deal : FuncData
  F__law_deal : Fun K "_law_deal" "_law_deal" st__law_deal f__law_deal fd__law_deal
  b__law_deal : Binds K fd__law_deal ["script", "salt"] []
  m__law_deal : mg "_law_deal" = some (.ref f__law_deal)
  f__law_divisor : Addr
  fd__law_divisor : FuncData
  F__law_divisor : Fun K "_law_divisor" "_law_divisor" st__law_divisor f__law_divisor fd__law_divisor
  b__law_divisor : Binds K fd__law_divisor ["one", "other"] []
  m__law_divisor : mg "_law_divisor" = some (.ref f__law_divisor)
  f__law_divisors_due : Addr
  fd__law_divisors_due : FuncData
  F__law_divisors_due : Fun K "_law_divisors_due" "_law_divisors_due" st__law_divisors_due f__law_divisors_due fd__law_divisors_due
  b__law_divisors_due : Binds K fd__law_divisors_due ["number"] []
  m__law_divisors_due : mg "_law_divisors_due" = some (.ref f__law_divisors_due)
  f__law_bits : Addr
  fd__law_bits : FuncData
  F__law_bits : Fun K "_law_bits" "_law_bits" st__law_bits f__law_bits fd__law_bits
  b__law_bits : Binds K fd__law_bits ["number", "many"] []
  m__law_bits : mg "_law_bits" = some (.ref f__law_bits)
  f__law_lots_due : Addr
  fd__law_lots_due : FuncData
  F__law_lots_due : Fun K "_law_lots_due" "_law_lots_due" st__law_lots_due f__law_lots_due fd__law_lots_due
  b__law_lots_due : Binds K fd__law_lots_due ["many"] []
  m__law_lots_due : mg "_law_lots_due" = some (.ref f__law_lots_due)
  f__law_of : Addr
  fd__law_of : FuncData
  F__law_of : Fun K "_law_of" "_law_of" st__law_of f__law_of fd__law_of
  b__law_of : Binds K fd__law_of ["deal", "some"] []
  m__law_of : mg "_law_of" = some (.ref f__law_of)
  f__law_told : Addr
  fd__law_told : FuncData
  F__law_told : Fun K "_law_told" "_law_told" st__law_told f__law_told fd__law_told
  b__law_told : Binds K fd__law_told ["world"] []
  m__law_told : mg "_law_told" = some (.ref f__law_told)
  f_World_init : Addr
  fd_World_init : FuncData
  F_World_init : Fun K "__init__" "World.__init__" st_World_init f_World_init fd_World_init
  b_World_init : Binds K fd_World_init ["self", "size", "makers", "relations"] []
  f_common_divisor : Addr
  fd_common_divisor : FuncData
  F_common_divisor : Fun K "common_divisor" "common_divisor" st_common_divisor f_common_divisor fd_common_divisor
  b_common_divisor : Binds K fd_common_divisor ["one", "other"] []
  m_common_divisor : mg "common_divisor" = some (.ref f_common_divisor)
  f_divisors_of : Addr
  fd_divisors_of : FuncData
  F_divisors_of : Fun K "divisors_of" "divisors_of" st_divisors_of f_divisors_of fd_divisors_of
  b_divisors_of : Binds K fd_divisors_of ["number"] []
  m_divisors_of : mg "divisors_of" = some (.ref f_divisors_of)
  f_pairs_of : Addr
  fd_pairs_of : FuncData
  F_pairs_of : Fun K "pairs_of" "pairs_of" st_pairs_of f_pairs_of fd_pairs_of
  b_pairs_of : Binds K fd_pairs_of ["size"] []
  m_pairs_of : mg "pairs_of" = some (.ref f_pairs_of)
  f_divisors_world : Addr
  fd_divisors_world : FuncData
  F_divisors_world : Fun K "divisors_world" "divisors_world" st_divisors_world f_divisors_world fd_divisors_world
  b_divisors_world : Binds K fd_divisors_world ["number"] []
  m_divisors_world : mg "divisors_world" = some (.ref f_divisors_world)
  kw_divisors_world : KwAll K fd_divisors_world ["number"] ["number"]
  f_lots_world : Addr
  fd_lots_world : FuncData
  F_lots_world : Fun K "lots_world" "lots_world" st_lots_world f_lots_world fd_lots_world
  b_lots_world : Binds K fd_lots_world ["many"] []
  m_lots_world : mg "lots_world" = some (.ref f_lots_world)
  kw_lots_world : KwAll K fd_lots_world ["many"] ["many"]
  f_law : Addr
  fd_law : FuncData
  F_law : Fun K "law" "law" st_law f_law fd_law
  b_law : Binds K fd_law ["script"] []
  m_law : mg "law" = some (.ref f_law)
  C_World : Addr
  m_World : mg "World" = some (.ref C_World)
  cl_World : Cls K C_World
  na_World_makers : NoAttr K C_World "makers"
  na_World_relations : NoAttr K C_World "relations"
  na_World_size : NoAttr K C_World "size"
  mk_World : Mk K C_World f_World_init
  ci_World : ClsI K C_World
  ko_World : PySem.W.kitOne K (.ref C_World) (.ref C_World) = some true
  z_abs : mg "abs" = none
  z_bool : mg "bool" = none
  z_enumerate : mg "enumerate" = none
  z_int : mg "int" = none
  z_isinstance : mg "isinstance" = none
  z_len : mg "len" = none
  z_range : mg "range" = none
  z_set : mg "set" = none
  z_sorted : mg "sorted" = none
  z_str : mg "str" = none
  z_tuple : mg "tuple" = none
  z_zip : mg "zip" = none
  t_SUB : Tok
  m_SUB : mg "SUB" = some (.str "sub" t_SUB)

/-! ### what each def computes -/
def g__law_same (Gr : Fn) : S := (gSeq (gIf (cB (mv (un (dIsi "tuple") (eVar 1)))) (gSeq (gIf (cOr (cNot (cB (mv (un (dIsi "tuple") (eVar 0))))) (cB (mv (bin dNe (mv (blt bLen (aCons (eVar 0) aNil))) (mv (blt bLen (aCons (eVar 1) aNil))))))) (gRet (eC (.bl false))) gNil)
  (gRet (mv (bin dEq (mv (blt bLen (aCons (mv (gLc (iRange (aCons (mv (blt bLen (aCons (eVar 1) aNil))) aNil)) (tgName 2) (cNot (cB (mv (gCall Gr (aCons (mv (bin dItem (eVar 0) (eVar 2))) (aCons (mv (bin dItem (eVar 1) (eVar 2))) aNil)))))) (eVar 2) [2])) aNil))) (eC (.int 0)))))) gNil)
  (gSeq (gIf (cB (mv (bin dIsN (eVar 1) (eC .non)))) (gRet (mv (bin dIsN (eVar 0) (eC .non)))) gNil)
  (gSeq (gIf (cOr (cB (mv (bin dIsB (eVar 1) (eC (.bl true))))) (cB (mv (bin dIsB (eVar 1) (eC (.bl false)))))) (gRet (eIf (cB (eVar 1)) (mv (bin dIsB (eVar 0) (eC (.bl true)))) (mv (bin dIsB (eVar 0) (eC (.bl false)))))) gNil)
  (gSeq (gIf (cB (mv (un (dIsi "str") (eVar 1)))) (gRet (eAnd (mv (un (dIsi "str") (eVar 0))) (mv (bin dEq (eVar 0) (eVar 1))))) gNil)
  (gRet (eAnd (mv (un (dIsi "int") (eVar 0))) (eAnd (eNot (mv (un (dIsi "bool") (eVar 0)))) (mv (bin dEq (eVar 0) (eVar 1))))))))))
def Gn__law_same : Nat → Fn
  | 0 => fun _ => none
  | n + 1 => bodyG 1 (g__law_same (Gn__law_same n))
def G__law_same : Fn := Gn__law_same 6
def g__law_all : S := (gRet (mv (bin dEq (mv (blt bLen (aCons (mv (gLc (iterM (eVar 0)) (tgTup 2 (tgCons (tgName 1) (tgCons (tgName 2) tgNil))) (cNot (cB (mv (gCall G__law_same (aCons (eVar 1) (aCons (eVar 2) aNil)))))) (eVar 1) [1, 2])) aNil))) (eC (.int 0)))))
def G__law_all : Fn := bodyG 2 g__law_all
def g__law_any : S := (gSeq (gWhile (cAnd (cB (mDl rNe 0)) (cB (mv (bin dEq (mDl rLast 0) (eC (.int 0)))))) (gX (mDlPop 0)) 200)
  (gSeq (gIf (cB (mDl rNe 0)) (gSeq (gSet 2 (mv (blt bInt (aCons (mDlPop 0) aNil))))
  (gSeq (gX (mDlApp dFdiv 0 2 1))
  (gRet (mv (bin dMod (eVar 2) (eVar 1)))))) gNil)
  (gSeq (gDlMix 0 (mv (bin dMod (mv (blt bInt (aCons (mv (bin dAdd (mv (bin dMul (mDl rMix 0) (eC (.int 48271)))) (eC (.int 31)))) aNil))) (eC (.int 2147483647)))))
  (gRet (mv (bin dMod (mv (blt bInt (aCons (mv (bin dFdiv (mDl rMix 0) (eC (.int 64)))) aNil))) (eVar 1)))))))
def G__law_any : Fn := bodyG 1 g__law_any
def g__law_deal : M O := (gThen (gSet 2 (mv (bin dMul (mv (bin dMul (mv (bin dMul (mv (bin dMul (mv (bin dMul (mv (bin dPow (eC (.int 10)) (eC (.int 64)))) (mv (bin dPow (eC (.int 10)) (eC (.int 64)))))) (mv (bin dPow (eC (.int 10)) (eC (.int 64)))))) (mv (bin dPow (eC (.int 10)) (eC (.int 64)))))) (mv (bin dPow (eC (.int 10)) (eC (.int 64)))))) (mv (bin dPow (eC (.int 10)) (eC (.int 64)))))))
  (gThen (gSetN 3 (gLc (iterM (mv (slM dSl (eVar 0) pNo (pSo (eC (.int 63)))))) (tgName 4) cYes (mv (bin dMod (mv (blt bInt (aCons (mv (blt bAbs (aCons (mv (blt bInt (aCons (eVar 4) aNil))) aNil))) aNil))) (eVar 2))) [4]))
  (gThen (gSet 5 (mv (bin dAdd (eC (.int 70001)) (mv (bin dMul (eC (.int 7919)) (eVar 1))))))
  (gThen (gFor (iterM (eVar 3)) (tgName 4) (gSet 5 (mv (bin dMod (mv (blt bInt (aCons (mv (bin dAdd (mv (bin dAdd (mv (bin dMul (eVar 5) (eC (.int 69621)))) (mv (bin dMod (mv (blt bInt (aCons (eVar 4) aNil))) (eC (.int 2147483563)))))) (eC (.int 23)))) aNil))) (eC (.int 2147483647))))))
  (mDeal (un dRev (mv (gLc (iterM (eVar 3)) (tgName 4) (cB (mv (bin dGe (eVar 4) (mv (bin dPow (eC (.int 10)) (eC (.int 18))))))) (eVar 4) [4]))) (eVar 5))))))
def G__law_deal : FnO := bodyO 4 g__law_deal
def g__law_divisor : S := (gSeq (gWhile (cB (mv (bin dNe (eVar 1) (eC (.int 0))))) (gPar [0, 1] (aConsL (eVar 1) (aConsL (mv (bin dMod (mv (blt bInt (aCons (eVar 0) aNil))) (eVar 1))) aNilN))) 40)
  (gRet (eVar 0)))
def G__law_divisor : Fn := bodyG 0 g__law_divisor
def g__law_divisors_due : S := (gSeq (gSetN 1 (gLc (iRange (aCons (eC (.int 1)) (aCons (mv (bin dAdd (eVar 0) (eC (.int 1)))) aNil))) (tgName 8) (cB (mv (bin dEq (mv (bin dMod (mv (blt bInt (aCons (eVar 0) aNil))) (eVar 8))) (eC (.int 0))))) (eVar 8) [8]))
  (gSeq (gPar [2, 3, 4] (aConsN (mLst aNil) (aConsN (mLst aNil) (aConsN (mLst aNil) aNilN))))
  (gSeq (gFor (iterM (eVar 1)) (tgName 5) (gFor (iterM (eVar 1)) (tgName 6) (gSeq (gSet 7 (mv (gCall G__law_divisor (aCons (eVar 5) (aCons (eVar 6) aNil)))))
  (gSeq (gX (eApp 2 (mv (methL dIndex (eVar 1) (mv (bin dFdiv (mv (bin dMul (eVar 5) (eVar 6))) (eVar 7)))))))
  (gSeq (gX (eApp 3 (mv (methL dIndex (eVar 1) (eVar 7)))))
  (gIf (cB (mv (bin dEq (mv (bin dMod (mv (blt bInt (aCons (eVar 6) aNil))) (eVar 5))) (eC (.int 0))))) (gX (eApp 4 (mv (mTup (aCons (mv (methL dIndex (eVar 1) (eVar 5))) (aCons (mv (methL dIndex (eVar 1) (eVar 6))) aNil)))))) gNil))))))
  (gRet (mv (mTup (aCons (mv (blt bLen (aCons (eVar 1) aNil))) (aCons (mv (mTup (aCons (mv (mTup (aCons (eC (.str "join")) (aCons (mv (blt bTup (aCons (eVar 2) aNil))) aNil)))) (aCons (mv (mTup (aCons (eC (.str "meet")) (aCons (mv (blt bTup (aCons (eVar 3) aNil))) aNil)))) aNil)))) (aCons (mv (mTup (aCons (mv (mTup (aCons (eC (.str "sub")) (aCons (mv (blt bTup (aCons (eVar 4) aNil))) aNil)))) aNil))) aNil)))))))))
def G__law_divisors_due : Fn := bodyG 8 g__law_divisors_due
def g__law_bits : S := (gSeq (gPar [2, 3] (aConsN (mLst aNil) (aConsL (eVar 0) aNilN)))
  (gSeq (gFor (iRange (aCons (eVar 1) aNil)) (tgName 4) (gSeq (gIf (cB (mv (bin dEq (mv (bin dMod (mv (blt bInt (aCons (eVar 3) aNil))) (eC (.int 2)))) (eC (.int 1))))) (gX (eApp 2 (eVar 4))) gNil)
  (gSet 3 (mv (bin dFdiv (eVar 3) (eC (.int 2)))))))
  (gRet (eVar 2))))
def G__law_bits : Fn := bodyG 3 g__law_bits
def g__law_lots_due : S := (gSeq (gSet 1 (mv (slM dSl (mv (gLc (iRange (aCons (eC (.int 16)) aNil)) (tgName 8) cYes (mv (gCall G__law_bits (aCons (eVar 8) (aCons (eVar 0) aNil)))) [8])) pNo (pSo (mv (bin dItem (mv (mLst (aCons (eC (.int 1)) (aCons (eC (.int 2)) (aCons (eC (.int 4)) (aCons (eC (.int 8)) (aCons (eC (.int 16)) aNil))))))) (eVar 0)))))))
  (gSeq (gPar [2, 3, 4] (aConsN (mLst aNil) (aConsN (mLst aNil) (aConsN (mLst aNil) aNilN))))
  (gSeq (gFor (iRange (aCons (mv (blt bLen (aCons (eVar 1) aNil))) aNil)) (tgName 5) (gFor (iRange (aCons (mv (blt bLen (aCons (eVar 1) aNil))) aNil)) (tgName 6) (gSeq (gX (eApp 2 (mv (methL dIndex (eVar 1) (mv (un dSortSet (mv (bin dAdd (mv (bin dItem (eVar 1) (eVar 5))) (mv (bin dItem (eVar 1) (eVar 6)))))))))))
  (gSeq (gX (eApp 3 (mv (methL dIndex (eVar 1) (mv (gLc (iterM (mv (bin dItem (eVar 1) (eVar 5)))) (tgName 9) (cB (mv (bin dIn (eVar 9) (mv (bin dItem (eVar 1) (eVar 6)))))) (eVar 9) [9]))))))
  (gIf (cB (mv (bin dEq (mv (blt bLen (aCons (mv (gLc (iterM (mv (bin dItem (eVar 1) (eVar 5)))) (tgName 9) (cB (mv (bin dNotIn (eVar 9) (mv (bin dItem (eVar 1) (eVar 6)))))) (eVar 9) [9])) aNil))) (eC (.int 0))))) (gX (eApp 4 (mv (mTup (aCons (eVar 5) (aCons (eVar 6) aNil)))))) gNil)))))
  (gSeq (gSet 7 (mv (mTup (aCons (mv (mTup (aCons (eC (.str "greatest")) (aCons (mv (mTup (aCons (mv (bin dSub (mv (blt bLen (aCons (eVar 1) aNil))) (eC (.int 1)))) aNil))) aNil)))) (aCons (mv (mTup (aCons (eC (.str "join")) (aCons (mv (blt bTup (aCons (eVar 2) aNil))) aNil)))) (aCons (mv (mTup (aCons (eC (.str "least")) (aCons (mv (mTup (aCons (eC (.int 0)) aNil))) aNil)))) (aCons (mv (mTup (aCons (eC (.str "meet")) (aCons (mv (blt bTup (aCons (eVar 3) aNil))) aNil)))) aNil)))))))
  (gRet (mv (mTup (aCons (mv (blt bLen (aCons (eVar 1) aNil))) (aCons (eVar 7) (aCons (mv (mTup (aCons (mv (mTup (aCons (eC (.str "sub")) (aCons (mv (blt bTup (aCons (eVar 4) aNil))) aNil)))) aNil))) aNil))))))))))
def G__law_lots_due : Fn := bodyG 9 g__law_lots_due
def g__law_of : S := (gRet (mv (bin dItem (eVar 1) (mv (gCall1 G__law_any (aCons (eVar 0) (aCons (mv (blt bLen (aCons (eVar 1) aNil))) aNil)))))))
def G__law_of : Fn := bodyG 0 g__law_of
def g__law_told : S := (gRet (eIf (cB (mv (un (dIsC "World") (eVar 0)))) (mv (mTup (aCons (mv (un (dAttr "World" "size") (eVar 0))) (aCons (mv (un (dAttr "World" "makers") (eVar 0))) (aCons (mv (un (dAttr "World" "relations") (eVar 0))) aNil))))) (eC .non)))
def G__law_told : Fn := bodyG 0 g__law_told
def g_World_init : S := (gSeq (gFld "World" 0 "size" (eVar 1))
  (gSeq (gFld "World" 0 "makers" (eVar 2))
  (gFld "World" 0 "relations" (eVar 3))))
def G_World_init : Fn := bodyG 0 g_World_init
def g_common_divisor : S := (gSeq (gWhile (cB (mv (bin dNe (eVar 1) (eC (.int 0))))) (gPar [0, 1] (aConsL (eVar 1) (aConsL (mv (bin dMod (eVar 0) (eVar 1))) aNilN))) 40)
  (gRet (eVar 0)))
def G_common_divisor : Fn := bodyG 0 g_common_divisor
def g_divisors_of : S := (gSeq (gPar [1, 2, 3] (aConsN (mLst aNil) (aConsN (mLst aNil) (aConsL (eC (.int 1)) aNilN))))
  (gSeq (gWhile (cB (mv (bin dLe (mv (bin dMul (eVar 3) (eVar 3))) (eVar 0)))) (gSeq (gIf (cB (mv (bin dEq (mv (bin dMod (eVar 0) (eVar 3))) (eC (.int 0))))) (gSeq (gX (eApp 1 (eVar 3)))
  (gIf (cB (mv (bin dNe (mv (bin dMul (eVar 3) (eVar 3))) (eVar 0)))) (gX (eApp 2 (mv (bin dFdiv (eVar 0) (eVar 3))))) gNil)) gNil)
  (gAug 3 dAddI (eC (.int 1)))) 40)
  (gRet (mv (bin dAdd (eVar 1) (mv (un dRev (eVar 2))))))))
def G_divisors_of : Fn := bodyG 3 g_divisors_of
def g_pairs_of : S := (gRet (mv (gLc2 (iRange (aCons (eVar 0) aNil)) (tgName 1) cYes (iRange (aCons (eVar 0) aNil)) (tgName 2) cYes (mv (mTup (aCons (eVar 1) (aCons (eVar 2) aNil)))) [1, 2] [2])))
def G_pairs_of : Fn := bodyG 2 g_pairs_of
def g_divisors_world : S := (gSeq (gSet 1 (mv (gCall G_divisors_of (aCons (eVar 0) aNil))))
  (gSeq (gSet 2 (mv (gDc (iEnumM (aCons (eVar 1) aNil)) (tgTup 2 (tgCons (tgName 8) (tgCons (tgName 9) tgNil))) cYes (eVar 9) (eVar 8) [8, 9])))
  (gSeq (gSet 3 (mv (blt bLen (aCons (eVar 1) aNil))))
  (gSeq (gSet 4 (mv (blt bTup (aCons (mv (gLc (iterM (mv (gCall G_pairs_of (aCons (eVar 3) aNil)))) (tgTup 2 (tgCons (tgName 10) (tgCons (tgName 11) tgNil))) (cB (mv (bin dEq (mv (bin dMod (mv (bin dItem (eVar 1) (eVar 11))) (mv (bin dItem (eVar 1) (eVar 10))))) (eC (.int 0))))) (mv (mTup (aCons (eVar 10) (aCons (eVar 11) aNil)))) [10, 11])) aNil))))
  (gSeq (gSetN 5 (gLc (iterM (mv (gCall G_pairs_of (aCons (eVar 3) aNil)))) (tgTup 2 (tgCons (tgName 10) (tgCons (tgName 11) tgNil))) cYes (mv (gCall G_common_divisor (aCons (mv (bin dItem (eVar 1) (eVar 10))) (aCons (mv (bin dItem (eVar 1) (eVar 11))) aNil)))) [10, 11]))
  (gSeq (gSetN 6 (gLc (iZipM (aCons (mv (gCall G_pairs_of (aCons (eVar 3) aNil))) (aCons (eVar 5) aNil))) (tgTup 2 (tgCons (tgTup 2 (tgCons (tgName 10) (tgCons (tgName 11) tgNil))) (tgCons (tgName 12) tgNil))) cYes (mv (bin dFdiv (mv (bin dMul (mv (bin dItem (eVar 1) (eVar 10))) (mv (bin dItem (eVar 1) (eVar 11))))) (eVar 12))) [12, 10, 11]))
  (gSeq (gSet 7 (mv (mTup (aCons (mv (mTup (aCons (eC (.str "join")) (aCons (mv (blt bTup (aCons (mv (gLc (iterM (eVar 6)) (tgName 9) cYes (mv (bin dItem (eVar 2) (eVar 9))) [9])) aNil))) aNil)))) (aCons (mv (mTup (aCons (eC (.str "meet")) (aCons (mv (blt bTup (aCons (mv (gLc (iterM (eVar 5)) (tgName 9) cYes (mv (bin dItem (eVar 2) (eVar 9))) [9])) aNil))) aNil)))) aNil)))))
  (gRet (mv (gMake "World" G_World_init (aCons (eVar 3) (aCons (eVar 7) (aCons (mv (mTup (aCons (mv (mTup (aCons (eC (.str "sub")) (aCons (eVar 4) aNil)))) aNil))) aNil)))))))))))))
def G_divisors_world : Fn := bodyG 12 g_divisors_world
def g_lots_world : S := (gSeq (gSet 1 (eC (.int 1)))
  (gSeq (gFor (iRange (aCons (eVar 0) aNil)) (tgName 2) (gAug 1 dMul (eC (.int 2))))
  (gSeq (gSet 3 (mv (blt bTup (aCons (mv (gLc (iterM (mv (gCall G_pairs_of (aCons (eVar 1) aNil)))) (tgTup 2 (tgCons (tgName 7) (tgCons (tgName 8) tgNil))) (cB (mv (bin dEq (mv (bin dAnd (eVar 7) (eVar 8))) (eVar 7)))) (mv (mTup (aCons (eVar 7) (aCons (eVar 8) aNil)))) [7, 8])) aNil))))
  (gSeq (gSet 4 (mv (blt bTup (aCons (mv (gLc (iterM (mv (gCall G_pairs_of (aCons (eVar 1) aNil)))) (tgTup 2 (tgCons (tgName 7) (tgCons (tgName 8) tgNil))) cYes (mv (bin dOr (eVar 7) (eVar 8))) [7, 8])) aNil))))
  (gSeq (gSet 5 (mv (blt bTup (aCons (mv (gLc (iterM (mv (gCall G_pairs_of (aCons (eVar 1) aNil)))) (tgTup 2 (tgCons (tgName 7) (tgCons (tgName 8) tgNil))) cYes (mv (bin dAnd (eVar 7) (eVar 8))) [7, 8])) aNil))))
  (gSeq (gSet 6 (mv (mTup (aCons (mv (mTup (aCons (eC (.str "greatest")) (aCons (mv (mTup (aCons (mv (bin dSub (eVar 1) (eC (.int 1)))) aNil))) aNil)))) (aCons (mv (mTup (aCons (eC (.str "join")) (aCons (eVar 4) aNil)))) (aCons (mv (mTup (aCons (eC (.str "least")) (aCons (mv (mTup (aCons (eC (.int 0)) aNil))) aNil)))) (aCons (mv (mTup (aCons (eC (.str "meet")) (aCons (eVar 5) aNil)))) aNil)))))))
  (gRet (mv (gMake "World" G_World_init (aCons (eVar 1) (aCons (eVar 6) (aCons (mv (mTup (aCons (mv (mTup (aCons (eC (.str "sub")) (aCons (eVar 3) aNil)))) aNil))) aNil))))))))))))
def G_lots_world : Fn := bodyG 8 g_lots_world
def g_law : S := (gSeq (gPar [1, 2] (aConsO (gCallO G__law_deal (aCons (eVar 0) (aCons (eC (.int 59)) aNil))) (aConsN (mLst aNil) aNilN)))
  (gSeq (gFor (iRange (aCons (eC (.int 5)) aNil)) (tgName 3) (gX (eApp 2 (mv (mTup (aCons (mv (gCall G__law_told (aCons (eIf (cB (mv (bin dGt (eVar 3) (eC (.int 1))))) (mv (gCall G_lots_world (aCons (eVar 3) aNil))) (mv (gCall G_lots_world (aCons (eVar 3) aNil)))) aNil))) (aCons (mv (gCall G__law_lots_due (aCons (eVar 3) aNil))) aNil)))))))
  (gSeq (gFor (iterM (mv (mLst (aCons (eC (.int 1)) (aCons (mv (bin dAdd (eC (.int 2)) (mv (gCall1 G__law_any (aCons (eVar 1) (aCons (eC (.int 20)) aNil)))))) (aCons (mv (gCall1 G__law_of (aCons (eVar 1) (aCons (mv (mLst (aCons (eC (.int 12)) (aCons (eC (.int 30)) (aCons (eC (.int 60)) (aCons (eC (.int 64)) (aCons (eC (.int 120)) (aCons (eC (.int 210)) (aCons (eC (.int 216)) aNil))))))))) aNil)))) (aCons (mv (bin dAdd (eC (.int 1)) (mv (gCall1 G__law_any (aCons (eVar 1) (aCons (eC (.int 100)) aNil)))))) aNil))))))) (tgName 4) (gSeq (gSet 5 (mv (gCall G__law_divisors_due (aCons (eVar 4) aNil))))
  (gIf (cB (mv (bin dLe (mv (bin dItem (eVar 5) (eC (.int 0)))) (eC (.int 16))))) (gSeq (gX (eApp 2 (mv (mTup (aCons (mv (gCall G__law_told (aCons (mv (gCall G_divisors_world (aCons (eVar 4) aNil))) aNil))) (aCons (eVar 5) aNil))))))
  (gX (eApp 2 (mv (mTup (aCons (mv (gCall G__law_told (aCons (mv (gCall G_divisors_world (aCons (eVar 4) aNil))) aNil))) (aCons (eVar 5) aNil))))))) gNil)))
  (gRet (mv (gCall G__law_all (aCons (eVar 2) aNil)))))))
def G_law : Fn := bodyG 5 g_law

/-! ### that it computes it -/
section
variable {P : Program} {w : World} {K : PySem.W.Frag} {mg : Str → Option Value} {base : Heap}
theorem okn__law_same (T : Tx K mg) : ∀ n, FnOk P w K mg base CX0 (1 + n) T.f__law_same T.fd__law_same ["told", "due"] (spI ⟨K, mg⟩ 2 (Gn__law_same n))
  | 0 => fn_none rfl
  | j + 1 => by
    have ih := okn__law_same T j
    refine fnI (m := 1) (g := g__law_same (Gn__law_same j)) T.F__law_same sc__law_same rfl rfl (fun cdv A outer s H E hr => ?_)
    have hu := hr.units
    have hu1 := hu_of hr
    have hu5 := hu5_of hr
    exact (qs_cons (qs_if (qt_val (qe_isi kit_tuple T.z_isinstance T.z_tuple (qe_var (i := 1)))) (qs_cons (qs_if (PW.pt (qw_or (qt_not (qt_val (qe_isi kit_tuple T.z_isinstance T.z_tuple (qe_var (i := 0))))) (qw_or1 (qt_cmp (op_neA hu) sNe (qe_callB c_len sLen T.z_len (qa_cons (qe_var (i := 0)) qa_nil)) (qe_callB c_len sLen T.z_len (qa_cons (qe_var (i := 1)) qa_nil)) (nomark _))))) (qs_one (qs_ret qe_bl)) qs_nil)
    (qs_one (qs_ret (qe_cmp (op_eqA hu) sEq (qe_callB c_len sLen T.z_len (qa_cons (qe_new (qn_lc (own := [("at", 2)]) rfl sc__law_same.nd (qi_range1 T.z_range (qa_cons (qe_callB c_len sLen T.z_len (qa_cons (qe_var (i := 1)) qa_nil)) qa_nil)) (blkOk_by (N := ["told", "due", "at"]) (sc := defScope st__law_same) (by decide +kernel)) (fun _ _ _ _ _ => (qg_name (i := 2) sc__law_same.nd)) (fun _ _ _ _ _ => (qts_one (qt_not (qt_val (qe_call ih hr T.m__law_same T.F__law_same.kp T.b__law_same pass0 (qa_cons (qe_ix (ix_all hu1) sItem (qe_var (i := 0)) (qe_var (i := 2)) (fun _ _ => rfl)) (qa_cons (qe_ix (ix_all hu1) sItem (qe_var (i := 1)) (qe_var (i := 2)) (fun _ _ => rfl)) qa_nil)) (lenA_cons (lenA_cons lenA_nil))))))) (fun _ _ _ _ _ => (qe_var (i := 2))))) qa_nil)) qe_int (nomark _))))) qs_nil)
    (qs_cons (qs_if (qt_cmp op_isN sIsN (qe_var (i := 1)) qe_non (nomark _)) (qs_one (qs_ret (qe_cmp op_isN sIsN (qe_var (i := 0)) qe_non (nomark _)))) qs_nil)
    (qs_cons (qs_if (PW.pt (qw_or (qt_cmp op_isBA sIsB (qe_var (i := 1)) qe_bl (nomark _)) (qw_or1 (qt_cmp op_isBA sIsB (qe_var (i := 1)) qe_bl (nomark _))))) (qs_one (qs_ret (qe_ifExp (qt_val (qe_var (i := 1))) (qe_cmp op_isBA sIsB (qe_var (i := 0)) qe_bl (nomark _)) (qe_cmp op_isBA sIsB (qe_var (i := 0)) qe_bl (nomark _))))) qs_nil)
    (qs_cons (qs_if (qt_val (qe_isi kit_str T.z_isinstance T.z_str (qe_var (i := 1)))) (qs_one (qs_ret (qe_and (qe_isi kit_str T.z_isinstance T.z_str (qe_var (i := 0))) (qe_one (qe_cmp (op_eqA hu) sEq (qe_var (i := 0)) (qe_var (i := 1)) (nomark _)))))) qs_nil)
    (qs_one (qs_ret (qe_and (qe_isi kit_int T.z_isinstance T.z_int (qe_var (i := 0))) (qe_and (qe_not (qe_isi kit_bool T.z_isinstance T.z_bool (qe_var (i := 0)))) (qe_one (qe_cmp (op_eqA hu) sEq (qe_var (i := 0)) (qe_var (i := 1)) (nomark _)))))))))))
theorem ok__law_same (T : Tx K mg) : FnOk P w K mg base CX0 7 T.f__law_same T.fd__law_same ["told", "due"] (spI ⟨K, mg⟩ 2 G__law_same) := okn__law_same T 6
theorem ok__law_all (T : Tx K mg) : FnOk P w K mg base CX0 8 T.f__law_all T.fd__law_all ["pairs"] (spI ⟨K, mg⟩ 1 G__law_all) := by
  refine fnI (k := 7) (m := 2) (g := g__law_all) T.F__law_all sc__law_all rfl rfl (fun cdv A outer s H E hr => ?_)
  have hu := hr.units
  have hu1 := hu_of hr
  have hu5 := hu5_of hr
  exact (qs_one (qs_ret (qe_cmp (op_eqA hu) sEq (qe_callB c_len sLen T.z_len (qa_cons (qe_new (qn_lc (own := [("told", 1), ("due", 2)]) rfl sc__law_all.nd (qi_seq (qe_var (i := 0))) (blkOk_by (N := ["pairs", "told", "due"]) (sc := defScope st__law_all) (by decide +kernel)) (fun _ _ _ _ _ => (qg_tup (n := 2) rfl (qgs_cons (qg_name (i := 1) sc__law_all.nd) (qgs_cons (qg_name (i := 2) sc__law_all.nd) qgs_nil)))) (fun _ _ _ _ _ => (qts_one (qt_not (qt_val (qe_call ((ok__law_same T).mono (by decide)) hr T.m__law_same T.F__law_same.kp T.b__law_same pass0 (qa_cons (qe_var (i := 1)) (qa_cons (qe_var (i := 2)) qa_nil)) (lenA_cons (lenA_cons lenA_nil))))))) (fun _ _ _ _ _ => (qe_var (i := 1))))) qa_nil)) qe_int (nomark _))))
theorem ok__law_any (T : Tx K mg) : FnOk P w K mg base CX0 1 T.f__law_any T.fd__law_any ["deal", "bound"] (spI ⟨K, mg⟩ 2 G__law_any) := by
  refine fnI (k := 0) (m := 1) (g := g__law_any) T.F__law_any sc__law_any rfl rfl (fun cdv A outer s H E hr => ?_)
  have hu := hr.units
  have hu1 := hu_of hr
  have hu5 := hu5_of hr
  exact (qs_cons (qs_while 200 PassesOwn.never (PW.pt (qw_and (qt_dlNe (i := 0) hu) (qw_and1 (qt_cmp (op_eqA hu) sEq (qe_dlLast (i := 0)) qe_int (nomark _))))) (qs_one (qs_expr (qe_dlPop (i := 0)))))
    (qs_cons (qs_if (qt_dlNe (i := 0) hu) (qs_cons (qs_set (i := 2) sc__law_any.nd (qe_callTy call_int1 sInt T.z_int (qa_cons (qe_dlPop (i := 0)) qa_nil)))
    (qs_cons (qs_expr (qe_dlApp (i := 0) (ia := 2) (ib := 1) op_fdivW sFdiv))
    (qs_one (qs_ret (qe_op op_mod sMod (qe_var (i := 2)) (qe_var (i := 1))))))) qs_nil)
    (qs_cons (qs_dlMix (i := 0) (qe_op op_mod sMod (qe_callTy call_int1 sInt T.z_int (qa_cons (qe_op op_addA sAdd (qe_op op_mulA sMul (qe_dlMix (i := 0)) qe_int) qe_int) qa_nil)) qe_int))
    (qs_one (qs_ret (qe_op op_mod sMod (qe_callTy call_int1 sInt T.z_int (qa_cons (qe_op op_fdivW sFdiv (qe_dlMix (i := 0)) qe_int) qa_nil)) (qe_var (i := 1))))))))
theorem ok__law_deal (T : Tx K mg) : FnOk P w K mg base CX0 1 T.f__law_deal T.fd__law_deal ["script", "salt"] (spO ⟨K, mg⟩ 2 G__law_deal) := by
  refine fnO (k := 0) (m := 4) (g := g__law_deal) T.F__law_deal sc__law_deal rfl rfl (fun cdv A outer s H E hr => ?_)
  have hu := hr.units
  have hu1 := hu_of hr
  have hu5 := hu5_of hr
  exact (qso_cons (qs_set (i := 2) sc__law_deal.nd (qe_op op_mulA sMul (qe_op op_mulA sMul (qe_op op_mulA sMul (qe_op op_mulA sMul (qe_op op_mulA sMul (qe_op op_pow sPow qe_int qe_int) (qe_op op_pow sPow qe_int qe_int)) (qe_op op_pow sPow qe_int qe_int)) (qe_op op_pow sPow qe_int qe_int)) (qe_op op_pow sPow qe_int qe_int)) (qe_op op_pow sPow qe_int qe_int)))
    (qso_cons (qs_setLc (i := 3) (own := [("cell", 4)]) rfl sc__law_deal.nd (qi_seq (qe_slice (qe_var (i := 0)) qo_none (qo_some qe_int))) (blkOk_by (N := ["script", "salt", "most", "cells", "cell", "mix"]) (sc := defScope st__law_deal) (by decide +kernel)) (fun _ _ _ _ _ => (qg_name (i := 4) sc__law_deal.nd)) (fun _ _ _ _ _ => qts_nil) (fun _ _ _ _ _ => (qe_op op_mod sMod (qe_callTy call_int1 sInt T.z_int (qa_cons (qe_callB call_abs sAbs T.z_abs (qa_cons (qe_callTy call_int1 sInt T.z_int (qa_cons (qe_var (i := 4)) qa_nil)) qa_nil)) qa_nil)) (qe_var (i := 2)))) (sw_true rfl rfl rfl (by decide +kernel)))
    (qso_cons (qs_set (i := 5) sc__law_deal.nd (qe_op op_addA sAdd qe_int (qe_op op_mulA sMul qe_int (qe_var (i := 1)))))
    (qso_cons (qs_for PassesOwn.never rfl (qi_seq (qe_var (i := 3))) (qg_name (i := 4) sc__law_deal.nd) (qs_one (qs_set (i := 5) sc__law_deal.nd (qe_op op_mod sMod (qe_callTy call_int1 sInt T.z_int (qa_cons (qe_op op_addA sAdd (qe_op op_addA sAdd (qe_op op_mulA sMul (qe_var (i := 5)) qe_int) (qe_op op_mod sMod (qe_callTy call_int1 sInt T.z_int (qa_cons (qe_var (i := 4)) qa_nil)) qe_int)) qe_int) qa_nil)) qe_int))))
    (qso_ret (qno_deal (qn_rev (qe_new (qn_lc (own := [("cell", 4)]) rfl sc__law_deal.nd (qi_seq (qe_var (i := 3))) (blkOk_by (N := ["script", "salt", "most", "cells", "cell", "mix"]) (sc := defScope st__law_deal) (by decide +kernel)) (fun _ _ _ _ _ => (qg_name (i := 4) sc__law_deal.nd)) (fun _ _ _ _ _ => (qts_one (qt_cmp op_ge sGe (qe_var (i := 4)) (qe_op op_pow sPow qe_int qe_int) (nomark _)))) (fun _ _ _ _ _ => (qe_var (i := 4)))))) (qe_var (i := 5))))))))
theorem ok__law_divisor (T : Tx K mg) : FnOk P w K mg base CX0 1 T.f__law_divisor T.fd__law_divisor ["one", "other"] (spI ⟨K, mg⟩ 2 G__law_divisor) := by
  refine fnI (k := 0) (m := 0) (g := g__law_divisor) T.F__law_divisor sc__law_divisor rfl rfl (fun cdv A outer s H E hr => ?_)
  have hu := hr.units
  have hu1 := hu_of hr
  have hu5 := hu5_of hr
  exact (qs_cons (qs_while 40 PassesOwn.never (qt_cmp (op_neA hu) sNe (qe_var (i := 1)) qe_int (nomark _)) (qs_one (qs_par (i := 0) (j := 1) rfl sc__law_divisor.nd (qan_l (qe_var (i := 1)) (qan_l (qe_op op_mod sMod (qe_callTy call_int1 sInt T.z_int (qa_cons (qe_var (i := 0)) qa_nil)) (qe_var (i := 1))) qan_nil)))))
    (qs_one (qs_ret (qe_var (i := 0)))))
theorem ok__law_divisors_due (T : Tx K mg) : FnOk P w K mg base CX0 2 T.f__law_divisors_due T.fd__law_divisors_due ["number"] (spI ⟨K, mg⟩ 1 G__law_divisors_due) := by
  refine fnI (k := 1) (m := 8) (g := g__law_divisors_due) T.F__law_divisors_due sc__law_divisors_due rfl rfl (fun cdv A outer s H E hr => ?_)
  have hu := hr.units
  have hu1 := hu_of hr
  have hu5 := hu5_of hr
  exact (qs_cons (qs_setLc (i := 1) (own := [("part", 8)]) rfl sc__law_divisors_due.nd (qi_range2 T.z_range (qa_cons qe_int (qa_cons (qe_op op_addA sAdd (qe_var (i := 0)) qe_int) qa_nil))) (blkOk_by (N := ["number", "parts", "join", "meet", "within", "one", "other", "common", "part"]) (sc := defScope st__law_divisors_due) (by decide +kernel)) (fun _ _ _ _ _ => (qg_name (i := 8) sc__law_divisors_due.nd)) (fun _ _ _ _ _ => (qts_one (qt_cmp (op_eqA hu) sEq (qe_op op_mod sMod (qe_callTy call_int1 sInt T.z_int (qa_cons (qe_var (i := 0)) qa_nil)) (qe_var (i := 8))) qe_int (nomark _)))) (fun _ _ _ _ _ => (qe_var (i := 8))) (sw_true rfl rfl rfl (by decide +kernel)))
    (qs_cons (qs_par3 (i := 2) (j := 3) (l := 4) rfl sc__law_divisors_due.nd (qan_n (qn_lst qa_nil lenA_nil) (qan_n (qn_lst qa_nil lenA_nil) (qan_n (qn_lst qa_nil lenA_nil) qan_nil))))
    (qs_cons (qs_for PassesOwn.never rfl (qi_seq (qe_var (i := 1))) (qg_name (i := 5) sc__law_divisors_due.nd) (qs_one (qs_for PassesOwn.never rfl (qi_seq (qe_var (i := 1))) (qg_name (i := 6) sc__law_divisors_due.nd) (qs_cons (qs_set (i := 7) sc__law_divisors_due.nd (qe_call ((ok__law_divisor T).mono (by decide)) hr T.m__law_divisor T.F__law_divisor.kp T.b__law_divisor pass0 (qa_cons (qe_var (i := 5)) (qa_cons (qe_var (i := 6)) qa_nil)) (lenA_cons (lenA_cons lenA_nil))))
    (qs_cons (qs_expr (qe_append (i := 2) (qe_index hu5 (qe_var (i := 1)) (qe_op op_fdivW sFdiv (qe_op op_mulA sMul (qe_var (i := 5)) (qe_var (i := 6))) (qe_var (i := 7))))))
    (qs_cons (qs_expr (qe_append (i := 3) (qe_index hu5 (qe_var (i := 1)) (qe_var (i := 7)))))
    (qs_one (qs_if (qt_cmp (op_eqA hu) sEq (qe_op op_mod sMod (qe_callTy call_int1 sInt T.z_int (qa_cons (qe_var (i := 6)) qa_nil)) (qe_var (i := 5))) qe_int (nomark _)) (qs_one (qs_expr (qe_append (i := 4) (qe_tup (qa_cons (qe_index hu5 (qe_var (i := 1)) (qe_var (i := 5))) (qa_cons (qe_index hu5 (qe_var (i := 1)) (qe_var (i := 6))) qa_nil)) (lenA_cons (lenA_cons lenA_nil)))))) qs_nil))))))))
    (qs_one (qs_ret (qe_tup (qa_cons (qe_callB c_len sLen T.z_len (qa_cons (qe_var (i := 1)) qa_nil)) (qa_cons (qe_tup (qa_cons (qe_tup (qa_cons qe_str (qa_cons (qe_callTy call_tuple_of sTup T.z_tuple (qa_cons (qe_var (i := 2)) qa_nil)) qa_nil)) (lenA_cons (lenA_cons lenA_nil))) (qa_cons (qe_tup (qa_cons qe_str (qa_cons (qe_callTy call_tuple_of sTup T.z_tuple (qa_cons (qe_var (i := 3)) qa_nil)) qa_nil)) (lenA_cons (lenA_cons lenA_nil))) qa_nil)) (lenA_cons (lenA_cons lenA_nil))) (qa_cons (qe_tup (qa_cons (qe_tup (qa_cons qe_str (qa_cons (qe_callTy call_tuple_of sTup T.z_tuple (qa_cons (qe_var (i := 4)) qa_nil)) qa_nil)) (lenA_cons (lenA_cons lenA_nil))) qa_nil) (lenA_cons lenA_nil)) qa_nil))) (lenA_cons (lenA_cons (lenA_cons lenA_nil)))))))))
theorem ok__law_bits (T : Tx K mg) : FnOk P w K mg base CX0 1 T.f__law_bits T.fd__law_bits ["number", "many"] (spI ⟨K, mg⟩ 2 G__law_bits) := by
  refine fnI (k := 0) (m := 3) (g := g__law_bits) T.F__law_bits sc__law_bits rfl rfl (fun cdv A outer s H E hr => ?_)
  have hu := hr.units
  have hu1 := hu_of hr
  have hu5 := hu5_of hr
  exact (qs_cons (qs_par (i := 2) (j := 3) rfl sc__law_bits.nd (qan_n (qn_lst qa_nil lenA_nil) (qan_l (qe_var (i := 0)) qan_nil)))
    (qs_cons (qs_for PassesOwn.never rfl (qi_range1 T.z_range (qa_cons (qe_var (i := 1)) qa_nil)) (qg_name (i := 4) sc__law_bits.nd) (qs_cons (qs_if (qt_cmp (op_eqA hu) sEq (qe_op op_mod sMod (qe_callTy call_int1 sInt T.z_int (qa_cons (qe_var (i := 3)) qa_nil)) qe_int) qe_int (nomark _)) (qs_one (qs_expr (qe_append (i := 2) (qe_var (i := 4))))) qs_nil)
    (qs_one (qs_set (i := 3) sc__law_bits.nd (qe_op op_fdivW sFdiv (qe_var (i := 3)) qe_int)))))
    (qs_one (qs_ret (qe_var (i := 2))))))
theorem ok__law_lots_due (T : Tx K mg) : FnOk P w K mg base CX0 2 T.f__law_lots_due T.fd__law_lots_due ["many"] (spI ⟨K, mg⟩ 1 G__law_lots_due) := by
  refine fnI (k := 1) (m := 9) (g := g__law_lots_due) T.F__law_lots_due sc__law_lots_due rfl rfl (fun cdv A outer s H E hr => ?_)
  have hu := hr.units
  have hu1 := hu_of hr
  have hu5 := hu5_of hr
  exact (qs_cons (qs_set (i := 1) sc__law_lots_due.nd (qe_slice (qe_new (qn_lc (own := [("number", 8)]) rfl sc__law_lots_due.nd (qi_range1 T.z_range (qa_cons qe_int qa_nil)) (blkOk_by (N := ["many", "lots", "join", "meet", "within", "one", "other", "makers", "number", "thing"]) (sc := defScope st__law_lots_due) (by decide +kernel)) (fun _ _ _ _ _ => (qg_name (i := 8) sc__law_lots_due.nd)) (fun _ _ _ _ _ => qts_nil) (fun _ _ _ _ _ => (qe_call ((ok__law_bits T).mono (by decide)) hr T.m__law_bits T.F__law_bits.kp T.b__law_bits pass0 (qa_cons (qe_var (i := 8)) (qa_cons (qe_var (i := 0)) qa_nil)) (lenA_cons (lenA_cons lenA_nil)))))) qo_none (qo_some (qe_ix (ix_all hu1) sItem (qe_new (qn_lst (qa_cons qe_int (qa_cons qe_int (qa_cons qe_int (qa_cons qe_int (qa_cons qe_int qa_nil))))) (lenA_cons (lenA_cons (lenA_cons (lenA_cons (lenA_cons lenA_nil))))))) (qe_var (i := 0)) (fun _ _ => rfl)))))
    (qs_cons (qs_par3 (i := 2) (j := 3) (l := 4) rfl sc__law_lots_due.nd (qan_n (qn_lst qa_nil lenA_nil) (qan_n (qn_lst qa_nil lenA_nil) (qan_n (qn_lst qa_nil lenA_nil) qan_nil))))
    (qs_cons (qs_for PassesOwn.never rfl (qi_range1 T.z_range (qa_cons (qe_callB c_len sLen T.z_len (qa_cons (qe_var (i := 1)) qa_nil)) qa_nil)) (qg_name (i := 5) sc__law_lots_due.nd) (qs_one (qs_for PassesOwn.never rfl (qi_range1 T.z_range (qa_cons (qe_callB c_len sLen T.z_len (qa_cons (qe_var (i := 1)) qa_nil)) qa_nil)) (qg_name (i := 6) sc__law_lots_due.nd) (qs_cons (qs_expr (qe_append (i := 2) (qe_index hu5 (qe_var (i := 1)) (qe_new (qn_sortSet rfl T.z_sorted T.z_set (qe_op op_addA sAdd (qe_ix (ix_all hu1) sItem (qe_var (i := 1)) (qe_var (i := 5)) (fun _ _ => rfl)) (qe_ix (ix_all hu1) sItem (qe_var (i := 1)) (qe_var (i := 6)) (fun _ _ => rfl))))))))
    (qs_cons (qs_expr (qe_append (i := 3) (qe_index hu5 (qe_var (i := 1)) (qe_new (qn_lc (own := [("thing", 9)]) rfl sc__law_lots_due.nd (qi_seq (qe_ix (ix_all hu1) sItem (qe_var (i := 1)) (qe_var (i := 5)) (fun _ _ => rfl))) (blkOk_by (N := ["many", "lots", "join", "meet", "within", "one", "other", "makers", "number", "thing"]) (sc := defScope st__law_lots_due) (by decide +kernel)) (fun _ _ _ _ _ => (qg_name (i := 9) sc__law_lots_due.nd)) (fun _ _ _ _ _ => (qts_one (qt_cmp (op_inA hu5) sIn (qe_var (i := 9)) (qe_ix (ix_all hu1) sItem (qe_var (i := 1)) (qe_var (i := 6)) (fun _ _ => rfl)) (by with_unfolding_all rfl)))) (fun _ _ _ _ _ => (qe_var (i := 9))))))))
    (qs_one (qs_if (qt_cmp (op_eqA hu) sEq (qe_callB c_len sLen T.z_len (qa_cons (qe_new (qn_lc (own := [("thing", 9)]) rfl sc__law_lots_due.nd (qi_seq (qe_ix (ix_all hu1) sItem (qe_var (i := 1)) (qe_var (i := 5)) (fun _ _ => rfl))) (blkOk_by (N := ["many", "lots", "join", "meet", "within", "one", "other", "makers", "number", "thing"]) (sc := defScope st__law_lots_due) (by decide +kernel)) (fun _ _ _ _ _ => (qg_name (i := 9) sc__law_lots_due.nd)) (fun _ _ _ _ _ => (qts_one (qt_cmp (op_notInA hu5) sNotIn (qe_var (i := 9)) (qe_ix (ix_all hu1) sItem (qe_var (i := 1)) (qe_var (i := 6)) (fun _ _ => rfl)) (by with_unfolding_all rfl)))) (fun _ _ _ _ _ => (qe_var (i := 9))))) qa_nil)) qe_int (nomark _)) (qs_one (qs_expr (qe_append (i := 4) (qe_tup (qa_cons (qe_var (i := 5)) (qa_cons (qe_var (i := 6)) qa_nil)) (lenA_cons (lenA_cons lenA_nil)))))) qs_nil)))))))
    (qs_cons (qs_set (i := 7) sc__law_lots_due.nd (qe_tup (qa_cons (qe_tup (qa_cons qe_str (qa_cons (qe_tup (qa_cons (qe_op op_sub sSub (qe_callB c_len sLen T.z_len (qa_cons (qe_var (i := 1)) qa_nil)) qe_int) qa_nil) (lenA_cons lenA_nil)) qa_nil)) (lenA_cons (lenA_cons lenA_nil))) (qa_cons (qe_tup (qa_cons qe_str (qa_cons (qe_callTy call_tuple_of sTup T.z_tuple (qa_cons (qe_var (i := 2)) qa_nil)) qa_nil)) (lenA_cons (lenA_cons lenA_nil))) (qa_cons (qe_tup (qa_cons qe_str (qa_cons (qe_tup (qa_cons qe_int qa_nil) (lenA_cons lenA_nil)) qa_nil)) (lenA_cons (lenA_cons lenA_nil))) (qa_cons (qe_tup (qa_cons qe_str (qa_cons (qe_callTy call_tuple_of sTup T.z_tuple (qa_cons (qe_var (i := 3)) qa_nil)) qa_nil)) (lenA_cons (lenA_cons lenA_nil))) qa_nil)))) (lenA_cons (lenA_cons (lenA_cons (lenA_cons lenA_nil))))))
    (qs_one (qs_ret (qe_tup (qa_cons (qe_callB c_len sLen T.z_len (qa_cons (qe_var (i := 1)) qa_nil)) (qa_cons (qe_var (i := 7)) (qa_cons (qe_tup (qa_cons (qe_tup (qa_cons qe_str (qa_cons (qe_callTy call_tuple_of sTup T.z_tuple (qa_cons (qe_var (i := 4)) qa_nil)) qa_nil)) (lenA_cons (lenA_cons lenA_nil))) qa_nil) (lenA_cons lenA_nil)) qa_nil))) (lenA_cons (lenA_cons (lenA_cons lenA_nil))))))))))
theorem ok__law_of (T : Tx K mg) : FnOk P w K mg base CX0 2 T.f__law_of T.fd__law_of ["deal", "some"] (spI ⟨K, mg⟩ 2 G__law_of) := by
  refine fnI (k := 1) (m := 0) (g := g__law_of) T.F__law_of sc__law_of rfl rfl (fun cdv A outer s H E hr => ?_)
  have hu := hr.units
  have hu1 := hu_of hr
  have hu5 := hu5_of hr
  exact (qs_one (qs_ret (qe_ix (ix_all hu1) sItem (qe_var (i := 1)) (qe_call1 ((ok__law_any T).mono (by decide)) hr T.m__law_any T.F__law_any.kp T.b__law_any pass0 (qa_cons (qe_var (i := 0)) (qa_cons (qe_callB c_len sLen T.z_len (qa_cons (qe_var (i := 1)) qa_nil)) qa_nil)) (lenA_cons (lenA_cons lenA_nil))) (fun _ _ => rfl))))
theorem ok__law_told (T : Tx K mg) : FnOk P w K mg base CX0 1 T.f__law_told T.fd__law_told ["world"] (spI ⟨K, mg⟩ 1 G__law_told) := by
  refine fnI (k := 0) (m := 0) (g := g__law_told) T.F__law_told sc__law_told rfl rfl (fun cdv A outer s H E hr => ?_)
  have hu := hr.units
  have hu1 := hu_of hr
  have hu5 := hu5_of hr
  exact (qs_one (qs_ret (qe_ifExp (qt_val (qe_isC T.ci_World T.ko_World T.z_isinstance T.m_World (qe_var (i := 0)))) (qe_tup (qa_cons (qe_attr T.m_World T.cl_World T.na_World_size (qe_var (i := 0))) (qa_cons (qe_attr T.m_World T.cl_World T.na_World_makers (qe_var (i := 0))) (qa_cons (qe_attr T.m_World T.cl_World T.na_World_relations (qe_var (i := 0))) qa_nil))) (lenA_cons (lenA_cons (lenA_cons lenA_nil)))) qe_non)))
theorem ok_World_init (T : Tx K mg) : FnOk P w K mg base CX0 1 T.f_World_init T.fd_World_init ["self", "size", "makers", "relations"] (spI ⟨K, mg⟩ 4 G_World_init) := by
  refine fnI (k := 0) (m := 0) (g := g_World_init) T.F_World_init sc_World_init rfl rfl (fun cdv A outer s H E hr => ?_)
  have hu := hr.units
  have hu1 := hu_of hr
  have hu5 := hu5_of hr
  exact (qs_cons (qs_fld (i := 0) T.m_World T.cl_World T.na_World_size (qe_var (i := 1)))
    (qs_cons (qs_fld (i := 0) T.m_World T.cl_World T.na_World_makers (qe_var (i := 2)))
    (qs_one (qs_fld (i := 0) T.m_World T.cl_World T.na_World_relations (qe_var (i := 3))))))
theorem ok_common_divisor (T : Tx K mg) : FnOk P w K mg base CX0 1 T.f_common_divisor T.fd_common_divisor ["one", "other"] (spI ⟨K, mg⟩ 2 G_common_divisor) := by
  refine fnI (k := 0) (m := 0) (g := g_common_divisor) T.F_common_divisor sc_common_divisor rfl rfl (fun cdv A outer s H E hr => ?_)
  have hu := hr.units
  have hu1 := hu_of hr
  have hu5 := hu5_of hr
  exact (qs_cons (qs_while 40 PassesOwn.never (qt_cmp (op_neA hu) sNe (qe_var (i := 1)) qe_int (nomark _)) (qs_one (qs_par (i := 0) (j := 1) rfl sc_common_divisor.nd (qan_l (qe_var (i := 1)) (qan_l (qe_op op_mod sMod (qe_var (i := 0)) (qe_var (i := 1))) qan_nil)))))
    (qs_one (qs_ret (qe_var (i := 0)))))
theorem ok_divisors_of (T : Tx K mg) : FnOk P w K mg base CX0 1 T.f_divisors_of T.fd_divisors_of ["number"] (spI ⟨K, mg⟩ 1 G_divisors_of) := by
  refine fnI (k := 0) (m := 3) (g := g_divisors_of) T.F_divisors_of sc_divisors_of rfl rfl (fun cdv A outer s H E hr => ?_)
  have hu := hr.units
  have hu1 := hu_of hr
  have hu5 := hu5_of hr
  exact (qs_cons (qs_par3 (i := 1) (j := 2) (l := 3) rfl sc_divisors_of.nd (qan_n (qn_lst qa_nil lenA_nil) (qan_n (qn_lst qa_nil lenA_nil) (qan_l qe_int qan_nil))))
    (qs_cons (qs_while 40 PassesOwn.never (qt_cmp op_le sLe (qe_op op_mulA sMul (qe_var (i := 3)) (qe_var (i := 3))) (qe_var (i := 0)) (nomark _)) (qs_cons (qs_if (qt_cmp (op_eqA hu) sEq (qe_op op_mod sMod (qe_var (i := 0)) (qe_var (i := 3))) qe_int (nomark _)) (qs_cons (qs_expr (qe_append (i := 1) (qe_var (i := 3))))
    (qs_one (qs_if (qt_cmp (op_neA hu) sNe (qe_op op_mulA sMul (qe_var (i := 3)) (qe_var (i := 3))) (qe_var (i := 0)) (nomark _)) (qs_one (qs_expr (qe_append (i := 2) (qe_op op_fdivW sFdiv (qe_var (i := 0)) (qe_var (i := 3)))))) qs_nil))) qs_nil)
    (qs_one (qs_aug (i := 3) sc_divisors_of.nd ip_add sAddI qe_int))))
    (qs_one (qs_ret (qe_op op_addA sAdd (qe_var (i := 1)) (qe_new (qn_rev (qe_var (i := 2)))))))))
theorem ok_pairs_of (T : Tx K mg) : FnOk P w K mg base CX0 1 T.f_pairs_of T.fd_pairs_of ["size"] (spI ⟨K, mg⟩ 1 G_pairs_of) := by
  refine fnI (k := 0) (m := 2) (g := g_pairs_of) T.F_pairs_of sc_pairs_of rfl rfl (fun cdv A outer s H E hr => ?_)
  have hu := hr.units
  have hu1 := hu_of hr
  have hu5 := hu5_of hr
  exact (qs_one (qs_ret (qe_new (qn_lc2 (own := [("one", 1), ("other", 2)]) rfl sc_pairs_of.nd (qi_range1 T.z_range (qa_cons (qe_var (i := 0)) qa_nil)) (blkOk_by (N := ["size", "one", "other"]) (sc := defScope st_pairs_of) (by decide +kernel)) (fun _ _ _ _ _ => (qg_name (i := 1) sc_pairs_of.nd)) (fun _ _ _ _ _ => qts_nil) (fun _ _ _ _ _ => (qi_range1 T.z_range (qa_cons (qe_var (i := 0)) qa_nil))) (fun _ _ _ _ _ => (qg_name (i := 2) sc_pairs_of.nd)) (fun _ _ _ _ _ => qts_nil) (fun _ _ _ _ _ => (qe_tup (qa_cons (qe_var (i := 1)) (qa_cons (qe_var (i := 2)) qa_nil)) (lenA_cons (lenA_cons lenA_nil)))) [2]))))
theorem ok_divisors_world (T : Tx K mg) : FnOk P w K mg base CX0 3 T.f_divisors_world T.fd_divisors_world ["number"] (spI ⟨K, mg⟩ 1 G_divisors_world) := by
  refine fnI (k := 2) (m := 12) (g := g_divisors_world) T.F_divisors_world sc_divisors_world rfl rfl (fun cdv A outer s H E hr => ?_)
  have hu := hr.units
  have hu1 := hu_of hr
  have hu5 := hu5_of hr
  exact (qs_cons (qs_set (i := 1) sc_divisors_world.nd (qe_call ((ok_divisors_of T).mono (by decide)) hr T.m_divisors_of T.F_divisors_of.kp T.b_divisors_of pass0 (qa_cons (qe_var (i := 0)) qa_nil) (lenA_cons lenA_nil)))
    (qs_cons (qs_set (i := 2) sc_divisors_world.nd (qe_new (qn_dc (own := [("at", 8), ("part", 9)]) rfl sc_divisors_world.nd (qi_enum T.z_enumerate (qa_cons (qe_var (i := 1)) qa_nil)) (blkOk_by (N := ["number", "parts", "place", "size", "within", "meets", "joins", "makers", "at", "part", "one", "other", "meet"]) (sc := defScope st_divisors_world) (by decide +kernel)) (fun _ _ _ _ _ => (qg_tup (n := 2) rfl (qgs_cons (qg_name (i := 8) sc_divisors_world.nd) (qgs_cons (qg_name (i := 9) sc_divisors_world.nd) qgs_nil)))) (fun _ _ _ _ _ => qts_nil) (fun _ _ _ _ _ => (qe_var (i := 9))) (fun _ _ _ _ _ => (qe_var (i := 8))))))
    (qs_cons (qs_set (i := 3) sc_divisors_world.nd (qe_callB c_len sLen T.z_len (qa_cons (qe_var (i := 1)) qa_nil)))
    (qs_cons (qs_set (i := 4) sc_divisors_world.nd (qe_callTy call_tuple_of sTup T.z_tuple (qa_cons (qe_new (qn_lc (own := [("one", 10), ("other", 11)]) rfl sc_divisors_world.nd (qi_seq (qe_call ((ok_pairs_of T).mono (by decide)) hr T.m_pairs_of T.F_pairs_of.kp T.b_pairs_of pass0 (qa_cons (qe_var (i := 3)) qa_nil) (lenA_cons lenA_nil))) (blkOk_by (N := ["number", "parts", "place", "size", "within", "meets", "joins", "makers", "at", "part", "one", "other", "meet"]) (sc := defScope st_divisors_world) (by decide +kernel)) (fun _ _ _ _ _ => (qg_tup (n := 2) rfl (qgs_cons (qg_name (i := 10) sc_divisors_world.nd) (qgs_cons (qg_name (i := 11) sc_divisors_world.nd) qgs_nil)))) (fun _ _ _ _ _ => (qts_one (qt_cmp (op_eqA hu) sEq (qe_op op_mod sMod (qe_ix (ix_all hu1) sItem (qe_var (i := 1)) (qe_var (i := 11)) (fun _ _ => rfl)) (qe_ix (ix_all hu1) sItem (qe_var (i := 1)) (qe_var (i := 10)) (fun _ _ => rfl))) qe_int (nomark _)))) (fun _ _ _ _ _ => (qe_tup (qa_cons (qe_var (i := 10)) (qa_cons (qe_var (i := 11)) qa_nil)) (lenA_cons (lenA_cons lenA_nil)))))) qa_nil)))
    (qs_cons (qs_setLc (i := 5) (own := [("one", 10), ("other", 11)]) rfl sc_divisors_world.nd (qi_seq (qe_call ((ok_pairs_of T).mono (by decide)) hr T.m_pairs_of T.F_pairs_of.kp T.b_pairs_of pass0 (qa_cons (qe_var (i := 3)) qa_nil) (lenA_cons lenA_nil))) (blkOk_by (N := ["number", "parts", "place", "size", "within", "meets", "joins", "makers", "at", "part", "one", "other", "meet"]) (sc := defScope st_divisors_world) (by decide +kernel)) (fun _ _ _ _ _ => (qg_tup (n := 2) rfl (qgs_cons (qg_name (i := 10) sc_divisors_world.nd) (qgs_cons (qg_name (i := 11) sc_divisors_world.nd) qgs_nil)))) (fun _ _ _ _ _ => qts_nil) (fun _ _ _ _ _ => (qe_call ((ok_common_divisor T).mono (by decide)) hr T.m_common_divisor T.F_common_divisor.kp T.b_common_divisor pass0 (qa_cons (qe_ix (ix_all hu1) sItem (qe_var (i := 1)) (qe_var (i := 10)) (fun _ _ => rfl)) (qa_cons (qe_ix (ix_all hu1) sItem (qe_var (i := 1)) (qe_var (i := 11)) (fun _ _ => rfl)) qa_nil)) (lenA_cons (lenA_cons lenA_nil)))) (sw_true rfl rfl rfl (by decide +kernel)))
    (qs_cons (qs_setLc (i := 6) (own := [("meet", 12), ("one", 10), ("other", 11)]) rfl sc_divisors_world.nd (qi_zip T.z_zip (qa_cons (qe_call ((ok_pairs_of T).mono (by decide)) hr T.m_pairs_of T.F_pairs_of.kp T.b_pairs_of pass0 (qa_cons (qe_var (i := 3)) qa_nil) (lenA_cons lenA_nil)) (qa_cons (qe_var (i := 5)) qa_nil))) (blkOk_by (N := ["number", "parts", "place", "size", "within", "meets", "joins", "makers", "at", "part", "one", "other", "meet"]) (sc := defScope st_divisors_world) (by decide +kernel)) (fun _ _ _ _ _ => (qg_tup (n := 2) rfl (qgs_cons (qg_tup (n := 2) rfl (qgs_cons (qg_name (i := 10) sc_divisors_world.nd) (qgs_cons (qg_name (i := 11) sc_divisors_world.nd) qgs_nil))) (qgs_cons (qg_name (i := 12) sc_divisors_world.nd) qgs_nil)))) (fun _ _ _ _ _ => qts_nil) (fun _ _ _ _ _ => (qe_op op_fdivW sFdiv (qe_op op_mulA sMul (qe_ix (ix_all hu1) sItem (qe_var (i := 1)) (qe_var (i := 10)) (fun _ _ => rfl)) (qe_ix (ix_all hu1) sItem (qe_var (i := 1)) (qe_var (i := 11)) (fun _ _ => rfl))) (qe_var (i := 12)))) (sw_true rfl rfl rfl (by decide +kernel)))
    (qs_cons (qs_set (i := 7) sc_divisors_world.nd (qe_tup (qa_cons (qe_tup (qa_cons qe_str (qa_cons (qe_callTy call_tuple_of sTup T.z_tuple (qa_cons (qe_new (qn_lc (own := [("part", 9)]) rfl sc_divisors_world.nd (qi_seq (qe_var (i := 6))) (blkOk_by (N := ["number", "parts", "place", "size", "within", "meets", "joins", "makers", "at", "part", "one", "other", "meet"]) (sc := defScope st_divisors_world) (by decide +kernel)) (fun _ _ _ _ _ => (qg_name (i := 9) sc_divisors_world.nd)) (fun _ _ _ _ _ => qts_nil) (fun _ _ _ _ _ => (qe_ix (ix_all hu1) sItem (qe_var (i := 2)) (qe_var (i := 9)) (fun _ _ => rfl))))) qa_nil)) qa_nil)) (lenA_cons (lenA_cons lenA_nil))) (qa_cons (qe_tup (qa_cons qe_str (qa_cons (qe_callTy call_tuple_of sTup T.z_tuple (qa_cons (qe_new (qn_lc (own := [("part", 9)]) rfl sc_divisors_world.nd (qi_seq (qe_var (i := 5))) (blkOk_by (N := ["number", "parts", "place", "size", "within", "meets", "joins", "makers", "at", "part", "one", "other", "meet"]) (sc := defScope st_divisors_world) (by decide +kernel)) (fun _ _ _ _ _ => (qg_name (i := 9) sc_divisors_world.nd)) (fun _ _ _ _ _ => qts_nil) (fun _ _ _ _ _ => (qe_ix (ix_all hu1) sItem (qe_var (i := 2)) (qe_var (i := 9)) (fun _ _ => rfl))))) qa_nil)) qa_nil)) (lenA_cons (lenA_cons lenA_nil))) qa_nil)) (lenA_cons (lenA_cons lenA_nil))))
    (qs_one (qs_ret (qe_new (qn_make T.mk_World ((ok_World_init T).mono (k := 1) (by decide)) (hr.mono (j := 1 + 1) (by decide)) T.m_World T.b_World_init pass0 (qa_cons (qe_var (i := 3)) (qa_cons (qe_var (i := 7)) (qa_cons (qe_tup (qa_cons (qe_tup (qa_cons (qe_gstr (by rfl) T.m_SUB) (qa_cons (qe_var (i := 4)) qa_nil)) (lenA_cons (lenA_cons lenA_nil))) qa_nil) (lenA_cons lenA_nil)) qa_nil))) (lenA_cons (lenA_cons (lenA_cons lenA_nil))))))))))))))
theorem ok_lots_world (T : Tx K mg) : FnOk P w K mg base CX0 3 T.f_lots_world T.fd_lots_world ["many"] (spI ⟨K, mg⟩ 1 G_lots_world) := by
  refine fnI (k := 2) (m := 8) (g := g_lots_world) T.F_lots_world sc_lots_world rfl rfl (fun cdv A outer s H E hr => ?_)
  have hu := hr.units
  have hu1 := hu_of hr
  have hu5 := hu5_of hr
  exact (qs_cons (qs_set (i := 1) sc_lots_world.nd qe_int)
    (qs_cons (qs_for PassesOwn.never rfl (qi_range1 T.z_range (qa_cons (qe_var (i := 0)) qa_nil)) (qg_name (i := 2) sc_lots_world.nd) (qs_one (qs_aug (i := 1) sc_lots_world.nd ip_mulA sMul qe_int)))
    (qs_cons (qs_set (i := 3) sc_lots_world.nd (qe_callTy call_tuple_of sTup T.z_tuple (qa_cons (qe_new (qn_lc (own := [("one", 7), ("other", 8)]) rfl sc_lots_world.nd (qi_seq (qe_call ((ok_pairs_of T).mono (by decide)) hr T.m_pairs_of T.F_pairs_of.kp T.b_pairs_of pass0 (qa_cons (qe_var (i := 1)) qa_nil) (lenA_cons lenA_nil))) (blkOk_by (N := ["many", "size", "_", "within", "join", "meet", "makers", "one", "other"]) (sc := defScope st_lots_world) (by decide +kernel)) (fun _ _ _ _ _ => (qg_tup (n := 2) rfl (qgs_cons (qg_name (i := 7) sc_lots_world.nd) (qgs_cons (qg_name (i := 8) sc_lots_world.nd) qgs_nil)))) (fun _ _ _ _ _ => (qts_one (qt_cmp (op_eqA hu) sEq (qe_op op_and sAnd (qe_var (i := 7)) (qe_var (i := 8))) (qe_var (i := 7)) (nomark _)))) (fun _ _ _ _ _ => (qe_tup (qa_cons (qe_var (i := 7)) (qa_cons (qe_var (i := 8)) qa_nil)) (lenA_cons (lenA_cons lenA_nil)))))) qa_nil)))
    (qs_cons (qs_set (i := 4) sc_lots_world.nd (qe_callTy call_tuple_of sTup T.z_tuple (qa_cons (qe_new (qn_lc (own := [("one", 7), ("other", 8)]) rfl sc_lots_world.nd (qi_seq (qe_call ((ok_pairs_of T).mono (by decide)) hr T.m_pairs_of T.F_pairs_of.kp T.b_pairs_of pass0 (qa_cons (qe_var (i := 1)) qa_nil) (lenA_cons lenA_nil))) (blkOk_by (N := ["many", "size", "_", "within", "join", "meet", "makers", "one", "other"]) (sc := defScope st_lots_world) (by decide +kernel)) (fun _ _ _ _ _ => (qg_tup (n := 2) rfl (qgs_cons (qg_name (i := 7) sc_lots_world.nd) (qgs_cons (qg_name (i := 8) sc_lots_world.nd) qgs_nil)))) (fun _ _ _ _ _ => qts_nil) (fun _ _ _ _ _ => (qe_op op_or sOr (qe_var (i := 7)) (qe_var (i := 8)))))) qa_nil)))
    (qs_cons (qs_set (i := 5) sc_lots_world.nd (qe_callTy call_tuple_of sTup T.z_tuple (qa_cons (qe_new (qn_lc (own := [("one", 7), ("other", 8)]) rfl sc_lots_world.nd (qi_seq (qe_call ((ok_pairs_of T).mono (by decide)) hr T.m_pairs_of T.F_pairs_of.kp T.b_pairs_of pass0 (qa_cons (qe_var (i := 1)) qa_nil) (lenA_cons lenA_nil))) (blkOk_by (N := ["many", "size", "_", "within", "join", "meet", "makers", "one", "other"]) (sc := defScope st_lots_world) (by decide +kernel)) (fun _ _ _ _ _ => (qg_tup (n := 2) rfl (qgs_cons (qg_name (i := 7) sc_lots_world.nd) (qgs_cons (qg_name (i := 8) sc_lots_world.nd) qgs_nil)))) (fun _ _ _ _ _ => qts_nil) (fun _ _ _ _ _ => (qe_op op_and sAnd (qe_var (i := 7)) (qe_var (i := 8)))))) qa_nil)))
    (qs_cons (qs_set (i := 6) sc_lots_world.nd (qe_tup (qa_cons (qe_tup (qa_cons qe_str (qa_cons (qe_tup (qa_cons (qe_op op_sub sSub (qe_var (i := 1)) qe_int) qa_nil) (lenA_cons lenA_nil)) qa_nil)) (lenA_cons (lenA_cons lenA_nil))) (qa_cons (qe_tup (qa_cons qe_str (qa_cons (qe_var (i := 4)) qa_nil)) (lenA_cons (lenA_cons lenA_nil))) (qa_cons (qe_tup (qa_cons qe_str (qa_cons (qe_tup (qa_cons qe_int qa_nil) (lenA_cons lenA_nil)) qa_nil)) (lenA_cons (lenA_cons lenA_nil))) (qa_cons (qe_tup (qa_cons qe_str (qa_cons (qe_var (i := 5)) qa_nil)) (lenA_cons (lenA_cons lenA_nil))) qa_nil)))) (lenA_cons (lenA_cons (lenA_cons (lenA_cons lenA_nil))))))
    (qs_one (qs_ret (qe_new (qn_make T.mk_World ((ok_World_init T).mono (k := 1) (by decide)) (hr.mono (j := 1 + 1) (by decide)) T.m_World T.b_World_init pass0 (qa_cons (qe_var (i := 1)) (qa_cons (qe_var (i := 6)) (qa_cons (qe_tup (qa_cons (qe_tup (qa_cons (qe_gstr (by rfl) T.m_SUB) (qa_cons (qe_var (i := 3)) qa_nil)) (lenA_cons (lenA_cons lenA_nil))) qa_nil) (lenA_cons lenA_nil)) qa_nil))) (lenA_cons (lenA_cons (lenA_cons lenA_nil)))))))))))))
theorem ok_law (T : Tx K mg) : FnOk P w K mg base CX0 9 T.f_law T.fd_law ["script"] (spI ⟨K, mg⟩ 1 G_law) := by
  refine fnI (k := 8) (m := 5) (g := g_law) T.F_law sc_law rfl rfl (fun cdv A outer s H E hr => ?_)
  have hu := hr.units
  have hu1 := hu_of hr
  have hu5 := hu5_of hr
  exact (qs_cons (qs_par (i := 1) (j := 2) rfl sc_law.nd (qan_o (qno_call ((ok__law_deal T).mono (by decide)) hr T.m__law_deal T.F__law_deal.kp T.b__law_deal pass0 (qa_cons (qe_var (i := 0)) (qa_cons qe_int qa_nil)) (lenA_cons (lenA_cons lenA_nil))) (qan_n (qn_lst qa_nil lenA_nil) qan_nil)))
    (qs_cons (qs_for PassesOwn.never rfl (qi_range1 T.z_range (qa_cons qe_int qa_nil)) (qg_name (i := 3) sc_law.nd) (qs_one (qs_expr (qe_append (i := 2) (qe_tup (qa_cons (qe_call ((ok__law_told T).mono (by decide)) hr T.m__law_told T.F__law_told.kp T.b__law_told pass0 (qa_cons (qe_ifExp (qt_cmp op_gt sGt (qe_var (i := 3)) qe_int (nomark _)) (qe_call ((ok_lots_world T).mono (by decide)) hr T.m_lots_world T.F_lots_world.kp T.b_lots_world pass0 (qa_cons (qe_var (i := 3)) qa_nil) (lenA_cons lenA_nil)) (qe_callK ((ok_lots_world T).mono (by decide)) hr T.m_lots_world T.F_lots_world.kp T.kw_lots_world pass0 (qk_cons (qe_var (i := 3)) qk_nil) (lenA_cons lenA_nil))) qa_nil) (lenA_cons lenA_nil)) (qa_cons (qe_call ((ok__law_lots_due T).mono (by decide)) hr T.m__law_lots_due T.F__law_lots_due.kp T.b__law_lots_due pass0 (qa_cons (qe_var (i := 3)) qa_nil) (lenA_cons lenA_nil)) qa_nil)) (lenA_cons (lenA_cons lenA_nil)))))))
    (qs_cons (qs_for PassesOwn.never rfl (qi_seq (qe_new (qn_lst (qa_cons qe_int (qa_cons (qe_op op_addA sAdd qe_int (qe_call1 ((ok__law_any T).mono (by decide)) hr T.m__law_any T.F__law_any.kp T.b__law_any pass0 (qa_cons (qe_var (i := 1)) (qa_cons qe_int qa_nil)) (lenA_cons (lenA_cons lenA_nil)))) (qa_cons (qe_call1 ((ok__law_of T).mono (by decide)) hr T.m__law_of T.F__law_of.kp T.b__law_of pass0 (qa_cons (qe_var (i := 1)) (qa_cons (qe_new (qn_lst (qa_cons qe_int (qa_cons qe_int (qa_cons qe_int (qa_cons qe_int (qa_cons qe_int (qa_cons qe_int (qa_cons qe_int qa_nil))))))) (lenA_cons (lenA_cons (lenA_cons (lenA_cons (lenA_cons (lenA_cons (lenA_cons lenA_nil))))))))) qa_nil)) (lenA_cons (lenA_cons lenA_nil))) (qa_cons (qe_op op_addA sAdd qe_int (qe_call1 ((ok__law_any T).mono (by decide)) hr T.m__law_any T.F__law_any.kp T.b__law_any pass0 (qa_cons (qe_var (i := 1)) (qa_cons qe_int qa_nil)) (lenA_cons (lenA_cons lenA_nil)))) qa_nil)))) (lenA_cons (lenA_cons (lenA_cons (lenA_cons lenA_nil))))))) (qg_name (i := 4) sc_law.nd) (qs_cons (qs_set (i := 5) sc_law.nd (qe_call ((ok__law_divisors_due T).mono (by decide)) hr T.m__law_divisors_due T.F__law_divisors_due.kp T.b__law_divisors_due pass0 (qa_cons (qe_var (i := 4)) qa_nil) (lenA_cons lenA_nil)))
    (qs_one (qs_if (qt_cmp op_le sLe (qe_ix (ix_all hu1) sItem (qe_var (i := 5)) qe_int (fun _ _ => rfl)) qe_int (nomark _)) (qs_cons (qs_expr (qe_append (i := 2) (qe_tup (qa_cons (qe_call ((ok__law_told T).mono (by decide)) hr T.m__law_told T.F__law_told.kp T.b__law_told pass0 (qa_cons (qe_call ((ok_divisors_world T).mono (by decide)) hr T.m_divisors_world T.F_divisors_world.kp T.b_divisors_world pass0 (qa_cons (qe_var (i := 4)) qa_nil) (lenA_cons lenA_nil)) qa_nil) (lenA_cons lenA_nil)) (qa_cons (qe_var (i := 5)) qa_nil)) (lenA_cons (lenA_cons lenA_nil)))))
    (qs_one (qs_expr (qe_append (i := 2) (qe_tup (qa_cons (qe_call ((ok__law_told T).mono (by decide)) hr T.m__law_told T.F__law_told.kp T.b__law_told pass0 (qa_cons (qe_callK ((ok_divisors_world T).mono (by decide)) hr T.m_divisors_world T.F_divisors_world.kp T.kw_divisors_world pass0 (qk_cons (qe_var (i := 4)) qk_nil) (lenA_cons lenA_nil)) qa_nil) (lenA_cons lenA_nil)) (qa_cons (qe_var (i := 5)) qa_nil)) (lenA_cons (lenA_cons lenA_nil))))))) qs_nil))))
    (qs_one (qs_ret (qe_call ((ok__law_all T).mono (by decide)) hr T.m__law_all T.F__law_all.kp T.b__law_all pass0 (qa_cons (qe_var (i := 2)) qa_nil) (lenA_cons lenA_nil)))))))
end
end Q

set_option maxHeartbeats 4000000
namespace Q
open PySem PySem.Spec L2
/-! ### the mathematics -/
def okS : Option (D × List Sl) → Bool
  | some (.bl true, _) => true
  | _ => false
theorem okS_some {o : Option (D × List Sl)} (h : okS o = true) : ∃ e, o = some (.bl true, e) := by
  match o, h with
  | some (.bl true, e), _ => exact ⟨e, rfl⟩
def chkD (n : Int) : Bool := match G__law_divisors_due [.sh (.int n)] with
  | some (due, _) => match dItem due (.int 0) with
    | some (.int s) => if s ≤ 16 then (match G_divisors_world [.sh (.int n)] with
      | some (w, _) => match G__law_told [.sh w] with
        | some (t, _) => okS (G__law_same [.sh t, .sh due])
        | none => false
      | none => false) else true
    | _ => false
  | none => false
def chkL (n : Int) : Bool := match G__law_lots_due [.sh (.int n)] with
  | some (due, _) => (match G_lots_world [.sh (.int n)] with
      | some (w, _) => match G__law_told [.sh w] with
        | some (t, _) => okS (G__law_same [.sh t, .sh due])
        | none => false
      | none => false)
  | none => false
def Good (p : D) : Prop := ∃ t d e, p = .tup [t, d] ∧ G__law_same [.sh t, .sh d] = some (.bl true, e)
theorem chkL_some {n : Int} (h : chkL n = true) : ∃ due e1 w e2 t e3 e4, G__law_lots_due [.sh (.int n)] = some (due, e1) ∧ G_lots_world [.sh (.int n)] = some (w, e2) ∧ G__law_told [.sh w] = some (t, e3) ∧ G__law_same [.sh t, .sh due] = some (.bl true, e4) := by
  unfold chkL at h
  split at h
  · rename_i due e1 q1
    split at h
    · rename_i w e2 q2
      split at h
      · rename_i t e3 q3
        obtain ⟨e4, q4⟩ := okS_some h
        exact ⟨due, e1, w, e2, t, e3, e4, q1, q2, q3, q4⟩
      · cases h
    · cases h
  · cases h
theorem chkD_some {n : Int} (h : chkD n = true) : ∃ due e1 s, G__law_divisors_due [.sh (.int n)] = some (due, e1) ∧ dItem due (.int 0) = some (.int s) ∧ (s ≤ 16 → ∃ w e2 t e3 e4, G_divisors_world [.sh (.int n)] = some (w, e2) ∧ G__law_told [.sh w] = some (t, e3) ∧ G__law_same [.sh t, .sh due] = some (.bl true, e4)) := by
  unfold chkD at h
  split at h
  · rename_i due e1 q1
    split at h
    · rename_i s q0
      refine ⟨due, e1, s, q1, q0, fun hs => ?_⟩
      rw [if_pos hs] at h
      split at h
      · rename_i w e2 q2
        split at h
        · rename_i t e3 q3
          obtain ⟨e4, q4⟩ := okS_some h
          exact ⟨w, e2, t, e3, e4, q2, q3, q4⟩
        · cases h
      · cases h
    · cases h
  · cases h
theorem all_ok {ps : List D} (h : ∀ p ∈ ps, Good p) : ∃ e, G__law_all [.sh (.lst ps)] = some (.bl true, e) := by
  have key : ∀ (qs : List D) (x : D), (∀ p ∈ qs, Good p) → lcL (tgTup 2 (tgCons (tgName 1) (tgCons (tgName 2) tgNil))) (cNot (cB (mv (gCall G__law_same (aCons (eVar 1) (aCons (eVar 2) aNil)))))) (eVar 1) [1, 2] qs [.sh x, .no, .no] = some ([], [.sh x, .no, .no]) := by
    intro qs x
    induction qs with
    | nil => intro _; rfl
    | cons p r ih =>
      intro hq
      obtain ⟨t, d, e, rfl, hs⟩ := hq p List.mem_cons_self
      have ih := ih fun p hp => hq p (List.mem_cons_of_mem _ hp)
      have c : cNot (cB (mv (gCall G__law_same (aCons (eVar 1) (aCons (eVar 2) aNil))))) [.sh x, .sh t, .sh d] = some (false, [.sh x, .sh t, .sh d]) := by
        simp [cNot, cB, mv, gCall, aCons, aNil, eVar, mb, mr, mrd, L.rd, mo, asB, fzAll, mfz, L.fz, hs]
      have g : tgTup 2 (tgCons (tgName 1) (tgCons (tgName 2) tgNil)) (.tup [t, d]) [.sh x, .no, .no] = some [.sh x, .sh t, .sh d] := rfl
      simp only [lcL, g, c, wipeE, List.set]
      exact ih
  refine ⟨[.sh (.lst ps)], ?_⟩
  · show bodyG 2 g__law_all _ = _
    unfold bodyG g__law_all
    have k := key ps (.lst ps) h
    have it : iterM (eVar 0) [.sh (.lst ps), .no, .no] = some (ps, [.sh (.lst ps), .no, .no]) := rfl
    have kk : gLc (iterM (eVar 0)) (tgTup 2 (tgCons (tgName 1) (tgCons (tgName 2) tgNil))) (cNot (cB (mv (gCall G__law_same (aCons (eVar 1) (aCons (eVar 2) aNil)))))) (eVar 1) [1, 2] [.sh (.lst ps), .no, .no] = some (.lst [], [.sh (.lst ps), .no, .no]) := by
      unfold gLc
      rw [it]
      show (match lcL (tgTup 2 (tgCons (tgName 1) (tgCons (tgName 2) tgNil))) (cNot (cB (mv (gCall G__law_same (aCons (eVar 1) (aCons (eVar 2) aNil)))))) (eVar 1) [1, 2] ps [.sh (.lst ps), .no, .no] with
        | some (xs, ε2) => some (D.lst xs, backE [.sh (.lst ps), .no, .no] ε2 [1, 2])
        | none => none) = _
      rw [k]
      rfl
    have k2 : gRet (mv (bin dEq (mv (blt bLen (aCons (mv (gLc (iterM (eVar 0)) (tgTup 2 (tgCons (tgName 1) (tgCons (tgName 2) tgNil))) (cNot (cB (mv (gCall G__law_same (aCons (eVar 1) (aCons (eVar 2) aNil)))))) (eVar 1) [1, 2])) aNil))) (eC (.int 0)))) [.sh (.lst ps), .no, .no] = some (.rt (.bl true) [.sh (.lst ps), .no, .no]) := by
      generalize gLc (iterM (eVar 0)) (tgTup 2 (tgCons (tgName 1) (tgCons (tgName 2) tgNil))) (cNot (cB (mv (gCall G__law_same (aCons (eVar 1) (aCons (eVar 2) aNil)))))) (eVar 1) [1, 2] = F at kk ⊢
      simp only [gRet, mv, bin, blt, aCons, aNil, mb, kk, mr, mrdAll, rdAll, L.rd, bLen, mo, eC, mrd, dEq, dEqB, mfz, L.fz]
      rfl
    simp only [List.replicate, List.cons_append, List.nil_append, k2]
    rfl
abbrev bodyLt : S := (gX (eApp 2 (mv (mTup (aCons (mv (gCall G__law_told (aCons (eIf (cB (mv (bin dGt (eVar 3) (eC (.int 1))))) (mv (gCall G_lots_world (aCons (eVar 3) aNil))) (mv (gCall G_lots_world (aCons (eVar 3) aNil)))) aNil))) (aCons (mv (gCall G__law_lots_due (aCons (eVar 3) aNil))) aNil))))))
abbrev bodyDv : S := (gSeq (gSet 5 (mv (gCall G__law_divisors_due (aCons (eVar 4) aNil))))
  (gIf (cB (mv (bin dLe (mv (bin dItem (eVar 5) (eC (.int 0)))) (eC (.int 16))))) (gSeq (gX (eApp 2 (mv (mTup (aCons (mv (gCall G__law_told (aCons (mv (gCall G_divisors_world (aCons (eVar 4) aNil))) aNil))) (aCons (eVar 5) aNil))))))
  (gX (eApp 2 (mv (mTup (aCons (mv (gCall G__law_told (aCons (mv (gCall G_divisors_world (aCons (eVar 4) aNil))) aNil))) (aCons (eVar 5) aNil))))))) gNil))
theorem loopL {x : D} {dl : O} : ∀ (js : List Int), (∀ j ∈ js, chkL j = true) → ∀ (ps : List D) (s3 : Sl), ps.length + js.length ≤ 1000 → (∀ p ∈ ps, Good p) →
    ∃ ps' s3', forL (tgName 3) bodyLt (js.map D.int) [.sh x, .ow dl, .ow (.flat (.lst ps)), s3, .no, .no] = some (.nx [.sh x, .ow dl, .ow (.flat (.lst ps')), s3', .no, .no]) ∧ (∀ p ∈ ps', Good p) ∧ ps'.length ≤ ps.length + js.length
  | [], _, ps, s3, _, hg => ⟨ps, s3, rfl, hg, Nat.le_refl _⟩
  | j :: r, hj, ps, s3, hl, hg => by
    obtain ⟨due, e1, w, e2, t, e3, e4, q1, q2, q3, q4⟩ := chkL_some (hj j List.mem_cons_self)
    have hl2 : ps.length < 1000000 := by rw [List.length_cons] at hl; omega
    have b : bodyLt [.sh x, .ow dl, .ow (.flat (.lst ps)), .sh (.int j), .no, .no] = some (.nx [.sh x, .ow dl, .ow (.flat (.lst (ps ++ [.tup [t, due]]))), .sh (.int j), .no, .no]) := by
      simp [bodyLt, gX, eApp, lendS, isLstO, mv, mTup, aCons, aNil, gCall, eIf, cB, bin, dGt, dInt2, eVar, eC, mb, mr, mrd, L.rd, mo, asB, fzAll, mfz, L.fz, q1, q2, q3, hl2, likeS]
    obtain ⟨ps', s3', e, g', l'⟩ := loopL r (fun j h => hj j (List.mem_cons_of_mem _ h)) (ps ++ [.tup [t, due]]) (.sh (.int j)) (by rw [List.length_append, List.length_singleton]; rw [List.length_cons] at hl; omega) (fun p hp => by
      rcases List.mem_append.mp hp with h | h
      · exact hg p h
      · rw [List.mem_singleton] at h; exact ⟨t, due, e4, h, q4⟩)
    refine ⟨ps', s3', ?_, g', by rw [List.length_append, List.length_singleton] at l'; rw [List.length_cons]; omega⟩
    have tg : tgName 3 (.int j) [.sh x, .ow dl, .ow (.flat (.lst ps)), s3, .no, .no] = some [.sh x, .ow dl, .ow (.flat (.lst ps)), .sh (.int j), .no, .no] := rfl
    simp only [List.map_cons, forL, tg, b]
    exact e
theorem loopD {x : D} {dl : O} {s3 : Sl} : ∀ (js : List Int), (∀ j ∈ js, chkD j = true) → ∀ (ps : List D) (s4 s5 : Sl), ps.length + 2 * js.length ≤ 1000 → (∀ p ∈ ps, Good p) →
    ∃ ps' s4' s5', forL (tgName 4) bodyDv (js.map D.int) [.sh x, .ow dl, .ow (.flat (.lst ps)), s3, s4, s5] = some (.nx [.sh x, .ow dl, .ow (.flat (.lst ps')), s3, s4', s5']) ∧ (∀ p ∈ ps', Good p) ∧ ps'.length ≤ ps.length + 2 * js.length
  | [], _, ps, s4, s5, _, hg => ⟨ps, s4, s5, rfl, hg, Nat.le_refl _⟩
  | j :: r, hj, ps, s4, s5, hl, hg => by
    obtain ⟨due, e1, s, q1, q0, qs⟩ := chkD_some (hj j List.mem_cons_self)
    have hl2 : ps.length < 1000000 := by rw [List.length_cons] at hl; omega
    have hl3 : ps.length + 1 < 1000000 := by rw [List.length_cons] at hl; omega
    have b : ∃ ps2, bodyDv [.sh x, .ow dl, .ow (.flat (.lst ps)), s3, .sh (.int j), s5] = some (.nx [.sh x, .ow dl, .ow (.flat (.lst ps2)), s3, .sh (.int j), .sh due]) ∧ (∀ p ∈ ps2, Good p) ∧ ps2.length ≤ ps.length + 2 := by
      have b1 : gSet 5 (mv (gCall G__law_divisors_due (aCons (eVar 4) aNil))) [.sh x, .ow dl, .ow (.flat (.lst ps)), s3, .sh (.int j), s5] = some (.nx [.sh x, .ow dl, .ow (.flat (.lst ps)), s3, .sh (.int j), .sh due]) := by
        simp [gSet, mv, gCall, aCons, aNil, eVar, mb, mr, fzAll, mfz, L.fz, q1]
      have b2 : cB (mv (bin dLe (mv (bin dItem (eVar 5) (eC (.int 0)))) (eC (.int 16)))) [.sh x, .ow dl, .ow (.flat (.lst ps)), s3, .sh (.int j), .sh due] = some (decide (s ≤ 16), [.sh x, .ow dl, .ow (.flat (.lst ps)), s3, .sh (.int j), .sh due]) := by
        simp [cB, mv, bin, eVar, eC, mb, mr, mrd, L.rd, mo, asB, dLe, dInt2, q0]
      by_cases hs : s ≤ 16
      · obtain ⟨w, e2, t, e3, e4, q2, q3, q4⟩ := qs hs
        refine ⟨ps ++ [.tup [t, due]] ++ [.tup [t, due]], ?_, fun p hp => ?_, by simp⟩
        · rw [decide_eq_true hs] at b2
          simp only [bodyDv, gSeq, b1, gIf, b2]
          simp [gX, eApp, lendS, isLstO, mv, mTup, aCons, aNil, gCall, eVar, mb, mr, fzAll, mfz, L.fz, q2, q3, hl2, hl3, likeS]
        · simp at hp
          rcases hp with h | h
          · exact hg p h
          · exact ⟨t, due, e4, h, q4⟩
      · refine ⟨ps, ?_, hg, by omega⟩
        rw [decide_eq_false hs] at b2
        simp only [bodyDv, gSeq, b1, gIf, b2, gNil]
    obtain ⟨ps2, b, g2, l2⟩ := b
    obtain ⟨ps', s4', s5', e, g', l'⟩ := loopD r (fun j h => hj j (List.mem_cons_of_mem _ h)) ps2 (.sh (.int j)) (.sh due) (by rw [List.length_cons] at hl; omega) g2
    refine ⟨ps', s4', s5', ?_, g', by rw [List.length_cons]; omega⟩
    have tg : tgName 4 (.int j) [.sh x, .ow dl, .ow (.flat (.lst ps)), s3, s4, s5] = some [.sh x, .ow dl, .ow (.flat (.lst ps)), s3, .sh (.int j), s5] := rfl
    simp only [List.map_cons, forL, tg, b]
    exact e
/-- a draw out of a list of ints -/
theorem of_ok {c : List Int} (m : Int) {ks : List Int} (hc : c.length < 200) (h0 : 0 < ks.length) (h1 : ks.length < 1000) : ∃ z c' m', G__law_of [.pw (.deal c m), .sh (.lst (ks.map D.int))] = some (.int z, [.pw (.deal c' m'), .sh (.lst (ks.map D.int))]) ∧ z ∈ ks ∧ c'.length ≤ c.length := by
  have hb2 : ((ks.length : Nat) : Int).natAbs.log2 < 9000 := by
    rw [Int.natAbs_natCast]
    exact Nat.lt_of_le_of_lt (Nat.log2_le_self _) (by omega)
  obtain ⟨r, c', m', e, r0, r1, hl⟩ := any_ok m hc (b := (ks.length : Nat)) (by omega) hb2
  obtain ⟨k, rfl⟩ : ∃ k : Nat, r = k := ⟨r.toNat, by omega⟩
  have hr : k < ks.length := by omega
  refine ⟨ks[k], c', m', ?_, List.getElem_mem _, hl⟩
  have ei : dItem (.lst (ks.map D.int)) (.int (k : Nat)) = some (.int ks[k]) := by
    have a : L2.atI (ks.map D.int) (k : Nat) = some (.int ks[k]) := atI_nat (by rw [List.getElem?_map, List.getElem?_eq_getElem hr]; rfl)
    simp only [dItem, dIx, a]
  have ea : G__law_any [.pw (.deal c m), .sh (.int (ks.length : Nat))] = some (.int (k : Nat), [.pw (.deal c' m'), .sh (.int (ks.length : Nat))]) := e
  show bodyG 0 g__law_of _ = _
  unfold bodyG g__law_of
  simp [gRet, mv, bin, eVar, gCall1, aCons, aNil, blt, mb, mr, mrd, mrdAll, rdAll, rdS, L.rd, mo, bLen, fzAll, mfz, L.fz, lendS, likeS, ea, ei, keepP]

theorem ch0 : ((List.range 2).all fun i => chkD ((2 * 0 + i + 1 : Nat) : Int)) = true := by decide +kernel
theorem ch1 : ((List.range 2).all fun i => chkD ((2 * 1 + i + 1 : Nat) : Int)) = true := by decide +kernel
theorem ch2 : ((List.range 2).all fun i => chkD ((2 * 2 + i + 1 : Nat) : Int)) = true := by decide +kernel
theorem ch3 : ((List.range 2).all fun i => chkD ((2 * 3 + i + 1 : Nat) : Int)) = true := by decide +kernel
theorem ch4 : ((List.range 2).all fun i => chkD ((2 * 4 + i + 1 : Nat) : Int)) = true := by decide +kernel
theorem ch5 : ((List.range 2).all fun i => chkD ((2 * 5 + i + 1 : Nat) : Int)) = true := by decide +kernel
theorem ch6 : ((List.range 2).all fun i => chkD ((2 * 6 + i + 1 : Nat) : Int)) = true := by decide +kernel
theorem ch7 : ((List.range 2).all fun i => chkD ((2 * 7 + i + 1 : Nat) : Int)) = true := by decide +kernel
theorem ch8 : ((List.range 2).all fun i => chkD ((2 * 8 + i + 1 : Nat) : Int)) = true := by decide +kernel
theorem ch9 : ((List.range 2).all fun i => chkD ((2 * 9 + i + 1 : Nat) : Int)) = true := by decide +kernel
theorem ch10 : ((List.range 2).all fun i => chkD ((2 * 10 + i + 1 : Nat) : Int)) = true := by decide +kernel
theorem ch11 : ((List.range 2).all fun i => chkD ((2 * 11 + i + 1 : Nat) : Int)) = true := by decide +kernel
theorem ch12 : ((List.range 2).all fun i => chkD ((2 * 12 + i + 1 : Nat) : Int)) = true := by decide +kernel
theorem ch13 : ((List.range 2).all fun i => chkD ((2 * 13 + i + 1 : Nat) : Int)) = true := by decide +kernel
theorem ch14 : ((List.range 2).all fun i => chkD ((2 * 14 + i + 1 : Nat) : Int)) = true := by decide +kernel
theorem ch15 : ((List.range 2).all fun i => chkD ((2 * 15 + i + 1 : Nat) : Int)) = true := by decide +kernel
theorem ch16 : ((List.range 2).all fun i => chkD ((2 * 16 + i + 1 : Nat) : Int)) = true := by decide +kernel
theorem ch17 : ((List.range 2).all fun i => chkD ((2 * 17 + i + 1 : Nat) : Int)) = true := by decide +kernel
theorem ch18 : ((List.range 2).all fun i => chkD ((2 * 18 + i + 1 : Nat) : Int)) = true := by decide +kernel
theorem ch19 : ((List.range 2).all fun i => chkD ((2 * 19 + i + 1 : Nat) : Int)) = true := by decide +kernel
theorem ch20 : ((List.range 2).all fun i => chkD ((2 * 20 + i + 1 : Nat) : Int)) = true := by decide +kernel
theorem ch21 : ((List.range 2).all fun i => chkD ((2 * 21 + i + 1 : Nat) : Int)) = true := by decide +kernel
theorem ch22 : ((List.range 2).all fun i => chkD ((2 * 22 + i + 1 : Nat) : Int)) = true := by decide +kernel
theorem ch23 : ((List.range 2).all fun i => chkD ((2 * 23 + i + 1 : Nat) : Int)) = true := by decide +kernel
theorem ch24 : ((List.range 2).all fun i => chkD ((2 * 24 + i + 1 : Nat) : Int)) = true := by decide +kernel
theorem ch25 : ((List.range 2).all fun i => chkD ((2 * 25 + i + 1 : Nat) : Int)) = true := by decide +kernel
theorem ch26 : ((List.range 2).all fun i => chkD ((2 * 26 + i + 1 : Nat) : Int)) = true := by decide +kernel
theorem ch27 : ((List.range 2).all fun i => chkD ((2 * 27 + i + 1 : Nat) : Int)) = true := by decide +kernel
theorem ch28 : ((List.range 2).all fun i => chkD ((2 * 28 + i + 1 : Nat) : Int)) = true := by decide +kernel
theorem ch29 : ((List.range 2).all fun i => chkD ((2 * 29 + i + 1 : Nat) : Int)) = true := by decide +kernel
theorem ch30 : ((List.range 2).all fun i => chkD ((2 * 30 + i + 1 : Nat) : Int)) = true := by decide +kernel
theorem ch31 : ((List.range 2).all fun i => chkD ((2 * 31 + i + 1 : Nat) : Int)) = true := by decide +kernel
theorem ch32 : ((List.range 2).all fun i => chkD ((2 * 32 + i + 1 : Nat) : Int)) = true := by decide +kernel
theorem ch33 : ((List.range 2).all fun i => chkD ((2 * 33 + i + 1 : Nat) : Int)) = true := by decide +kernel
theorem ch34 : ((List.range 2).all fun i => chkD ((2 * 34 + i + 1 : Nat) : Int)) = true := by decide +kernel
theorem ch35 : ((List.range 2).all fun i => chkD ((2 * 35 + i + 1 : Nat) : Int)) = true := by decide +kernel
theorem ch36 : ((List.range 2).all fun i => chkD ((2 * 36 + i + 1 : Nat) : Int)) = true := by decide +kernel
theorem ch37 : ((List.range 2).all fun i => chkD ((2 * 37 + i + 1 : Nat) : Int)) = true := by decide +kernel
theorem ch38 : ((List.range 2).all fun i => chkD ((2 * 38 + i + 1 : Nat) : Int)) = true := by decide +kernel
theorem ch39 : ((List.range 2).all fun i => chkD ((2 * 39 + i + 1 : Nat) : Int)) = true := by decide +kernel
theorem ch40 : ((List.range 2).all fun i => chkD ((2 * 40 + i + 1 : Nat) : Int)) = true := by decide +kernel
theorem ch41 : ((List.range 2).all fun i => chkD ((2 * 41 + i + 1 : Nat) : Int)) = true := by decide +kernel
theorem ch42 : ((List.range 2).all fun i => chkD ((2 * 42 + i + 1 : Nat) : Int)) = true := by decide +kernel
theorem ch43 : ((List.range 2).all fun i => chkD ((2 * 43 + i + 1 : Nat) : Int)) = true := by decide +kernel
theorem ch44 : ((List.range 2).all fun i => chkD ((2 * 44 + i + 1 : Nat) : Int)) = true := by decide +kernel
theorem ch45 : ((List.range 2).all fun i => chkD ((2 * 45 + i + 1 : Nat) : Int)) = true := by decide +kernel
theorem ch46 : ((List.range 2).all fun i => chkD ((2 * 46 + i + 1 : Nat) : Int)) = true := by decide +kernel
theorem ch47 : ((List.range 2).all fun i => chkD ((2 * 47 + i + 1 : Nat) : Int)) = true := by decide +kernel
theorem ch48 : ((List.range 2).all fun i => chkD ((2 * 48 + i + 1 : Nat) : Int)) = true := by decide +kernel
theorem ch49 : ((List.range 2).all fun i => chkD ((2 * 49 + i + 1 : Nat) : Int)) = true := by decide +kernel
theorem chA : ∀ c : Nat, c < 50 → ((List.range 2).all fun i => chkD ((2 * c + i + 1 : Nat) : Int)) = true
  | 0, _ => ch0
  | 1, _ => ch1
  | 2, _ => ch2
  | 3, _ => ch3
  | 4, _ => ch4
  | 5, _ => ch5
  | 6, _ => ch6
  | 7, _ => ch7
  | 8, _ => ch8
  | 9, _ => ch9
  | 10, _ => ch10
  | 11, _ => ch11
  | 12, _ => ch12
  | 13, _ => ch13
  | 14, _ => ch14
  | 15, _ => ch15
  | 16, _ => ch16
  | 17, _ => ch17
  | 18, _ => ch18
  | 19, _ => ch19
  | 20, _ => ch20
  | 21, _ => ch21
  | 22, _ => ch22
  | 23, _ => ch23
  | 24, _ => ch24
  | 25, _ => ch25
  | 26, _ => ch26
  | 27, _ => ch27
  | 28, _ => ch28
  | 29, _ => ch29
  | 30, _ => ch30
  | 31, _ => ch31
  | 32, _ => ch32
  | 33, _ => ch33
  | 34, _ => ch34
  | 35, _ => ch35
  | 36, _ => ch36
  | 37, _ => ch37
  | 38, _ => ch38
  | 39, _ => ch39
  | 40, _ => ch40
  | 41, _ => ch41
  | 42, _ => ch42
  | 43, _ => ch43
  | 44, _ => ch44
  | 45, _ => ch45
  | 46, _ => ch46
  | 47, _ => ch47
  | 48, _ => ch48
  | 49, _ => ch49
  | k + 50, h => absurd h (by omega)
theorem num20 : ∀ n : Int, 1 ≤ n → n ≤ 100 → chkD n = true := fun n h1 h2 => by
  have h := chA ((n.toNat - 1) / 2) (by omega)
  rw [List.all_eq_true] at h
  have := h ((n.toNat - 1) % 2) (List.mem_range.mpr (by omega))
  have e : ((2 * ((n.toNat - 1) / 2) + (n.toNat - 1) % 2 + 1 : Nat) : Int) = n := by omega
  rw [e] at this
  exact this
theorem k120 : chkD 120 = true := by decide +kernel
theorem k210 : chkD 210 = true := by decide +kernel
theorem k216 : chkD 216 = true := by decide +kernel
theorem num7 : ∀ n ∈ ([12, 30, 60, 64, 120, 210, 216] : List Int), chkD n = true := fun n hn => by
  simp only [List.mem_cons, List.not_mem_nil, or_false] at hn
  rcases hn with rfl | rfl | rfl | rfl | rfl | rfl | rfl
  · exact num20 _ (by decide) (by decide)
  · exact num20 _ (by decide) (by decide)
  · exact num20 _ (by decide) (by decide)
  · exact num20 _ (by decide) (by decide)
  · exact k120
  · exact k210
  · exact k216
theorem lots5 : ∀ j ∈ ([0, 1, 2, 3, 4] : List Int), chkL j = true := by
  have h : ([0, 1, 2, 3, 4] : List Int).all chkL = true := by decide +kernel
  rw [List.all_eq_true] at h
  exact h
theorem law_true : ∀ ns : List Int, ns.length ≤ 63 → ∃ e, G_law [.sh (.scr ns)] = some (.bl true, e) := fun ns hn => by
  obtain ⟨c, m, ed, hc⟩ := deal_ok hn 59
  have ed : G__law_deal [.scr ns, .int 59] = some (.deal c m) := ed
  obtain ⟨ps1, s3, l1, g1, z1⟩ := loopL (x := .scr ns) (dl := .deal c m) [0, 1, 2, 3, 4] lots5 [] .no (by decide) (fun p hp => nomatch hp)
  obtain ⟨r1, c1, m1, a1, p1, q1, h1⟩ := any_ok (c := c) m (b := 20) (by omega) (by decide) (by decide)
  have a1 : G__law_any [.pw (.deal c m), .sh (.int 20)] = some (.int r1, [.pw (.deal c1 m1), .sh (.int 20)]) := a1
  obtain ⟨r2, c2, m2, a2, p2, h2⟩ := of_ok (c := c1) m1 (ks := [12, 30, 60, 64, 120, 210, 216]) (by omega) (by decide) (by decide)
  simp only [List.map_cons, List.map_nil] at a2
  obtain ⟨r3, c3, m3, a3, p3, q3, h3⟩ := any_ok (c := c2) m2 (b := 100) (by omega) (by decide) (by decide)
  have a3 : G__law_any [.pw (.deal c2 m2), .sh (.int 100)] = some (.int r3, [.pw (.deal c3 m3), .sh (.int 100)]) := a3
  obtain ⟨ps2, s4, s5, l2, g2, z2⟩ := loopD (x := .scr ns) (dl := .deal c3 m3) (s3 := s3) [1, 2 + r1, r2, 1 + r3] (fun j hj => by
    simp only [List.mem_cons, List.not_mem_nil, or_false] at hj
    rcases hj with rfl | rfl | rfl | rfl
    · exact num20 _ (by decide) (by decide)
    · exact num20 _ (by omega) (by omega)
    · exact num7 _ p2
    · exact num20 _ (by omega) (by omega)) ps1 .no .no (by simp at z1 ⊢; omega) g1
  obtain ⟨e, ha⟩ := all_ok g2
  refine ⟨[.sh (.scr ns)], ?_⟩
  have b1 : gPar [1, 2] (aConsO (gCallO G__law_deal (aCons (eVar 0) (aCons (eC (.int 59)) aNil))) (aConsN (mLst aNil) aNilN)) [.sh (.scr ns), .no, .no, .no, .no, .no] = some (.nx [.sh (.scr ns), .ow (.deal c m), .ow (.flat (.lst [])), .no, .no, .no]) := by
    simp [gPar, aConsO, gCallO, aCons, eVar, eC, aNil, aConsN, aNilN, flatM, mLst, mb, mr, mo, fzAll, mfz, L.fz, ed, setAll, A.sl]
  have b2 : gFor (iRange (aCons (eC (.int 5)) aNil)) (tgName 3) bodyLt [.sh (.scr ns), .ow (.deal c m), .ow (.flat (.lst [])), .no, .no, .no] = some (.nx [.sh (.scr ns), .ow (.deal c m), .ow (.flat (.lst ps1)), s3, .no, .no]) := by
    have r5 : iRange (aCons (eC (.int 5)) aNil) [.sh (.scr ns), .ow (.deal c m), .ow (.flat (.lst [])), .no, .no, .no] = some (([0, 1, 2, 3, 4] : List Int).map D.int, [.sh (.scr ns), .ow (.deal c m), .ow (.flat (.lst [])), .no, .no, .no]) := rfl
    unfold gFor
    rw [r5]
    exact l1
  have b3 : gFor (iterM (mv (mLst (aCons (eC (.int 1)) (aCons (mv (bin dAdd (eC (.int 2)) (mv (gCall1 G__law_any (aCons (eVar 1) (aCons (eC (.int 20)) aNil)))))) (aCons (mv (gCall1 G__law_of (aCons (eVar 1) (aCons (mv (mLst (aCons (eC (.int 12)) (aCons (eC (.int 30)) (aCons (eC (.int 60)) (aCons (eC (.int 64)) (aCons (eC (.int 120)) (aCons (eC (.int 210)) (aCons (eC (.int 216)) aNil))))))))) aNil)))) (aCons (mv (bin dAdd (eC (.int 1)) (mv (gCall1 G__law_any (aCons (eVar 1) (aCons (eC (.int 100)) aNil)))))) aNil))))))) (tgName 4) bodyDv [.sh (.scr ns), .ow (.deal c m), .ow (.flat (.lst ps1)), s3, .no, .no] = some (.nx [.sh (.scr ns), .ow (.deal c3 m3), .ow (.flat (.lst ps2)), s3, s4, s5]) := by
    rw [← l2]
    simp only [gFor, iterM, mv, mLst, aCons, aNil, eC, mb, mr, bin, gCall1, eVar, List.getElem?_cons_succ, List.getElem?_cons_zero, mrd, L.rd, mo, fzAll, mfz, L.fz, lendS, likeS, List.set, List.map_cons, List.map_nil, a1, a2, a3, dAdd, itemsOf]
  have b4 : gRet (mv (gCall G__law_all (aCons (eVar 2) aNil))) [.sh (.scr ns), .ow (.deal c3 m3), .ow (.flat (.lst ps2)), s3, s4, s5] = some (.rt (.bl true) [.sh (.scr ns), .ow (.deal c3 m3), .sh (.lst ps2), s3, s4, s5]) := by
    simp only [gRet, mv, gCall, aCons, aNil, eVar, List.getElem?_cons_succ, List.getElem?_cons_zero, mb, mr, fzAll, mfz, L.fz, List.set, List.map_cons, List.map_nil, ha]
  have g : g_law [.sh (.scr ns), .no, .no, .no, .no, .no] = some (.rt (.bl true) [.sh (.scr ns), .ow (.deal c3 m3), .sh (.lst ps2), s3, s4, s5]) := by
    unfold g_law
    rw [seq_nx b1]
    exact (seq_nx b2).trans ((seq_nx b3).trans b4)
  exact body_rt (m := 5) rfl g rfl
end Q

namespace Q
open PySem PySem.Spec L2
/-! ### what the top has written -/
theorem all_mk {l : PySem.W.OpenLaw} {w : World} {K : PySem.W.Frag} {h : Heap} {mg : Str → Option Value} {fa f0 f1 f2 f3 f4 f5 f6 f7 f8 f9 f10 f11 f12 f13 f14 f15 f16 C_World : Addr} (X : K.In h) (G : h.Ns PySem.mainGlobals mg) (hfa : mg "law" = some (.ref fa))
    {od0 an0 od1 an1 od2 an2 od3 an3 od4 an4 od5 an5 od6 an6 od7 an7 od8 an8 od9 an9 od10 an10 od11 an11 od12 an12 od13 an13 od14 an14 od15 an15 od16 an16 : Option Addr} {sl0 sl1 sl2 sl3 sl4 sl5 sl6 sl7 sl8 sl9 sl10 sl11 sl12 sl13 sl14 sl15 sl16 : Array (Option Value)} {oc0 kV0 dc0 pm0 cd0 ct0 oc1 kV1 dc1 pm1 cd1 ct1 oc2 kV2 dc2 pm2 cd2 ct2 oc3 kV3 dc3 pm3 cd3 ct3 oc4 kV4 dc4 pm4 cd4 ct4 oc5 kV5 dc5 pm5 cd5 ct5 oc6 kV6 dc6 pm6 cd6 ct6 oc7 kV7 dc7 pm7 cd7 ct7 oc8 kV8 dc8 pm8 cd8 ct8 oc9 kV9 dc9 pm9 cd9 ct9 oc10 kV10 dc10 pm10 cd10 ct10 oc11 kV11 dc11 pm11 cd11 ct11 oc12 kV12 dc12 pm12 cd12 ct12 oc13 kV13 dc13 pm13 cd13 ct13 oc14 kV14 dc14 pm14 cd14 ct14 oc15 kV15 dc15 pm15 cd15 ct15 oc16 kV16 dc16 pm16 cd16 ct16 : Value} {t_SUB : Tok}
    (aC_World : PySem.W.nsIn K PySem.mainGlobals "World" = some (some (.ref C_World)))
    (a0 : PySem.W.nsIn K PySem.mainGlobals "_law_same" = some (some (.ref f0)))
    (l0 : K.lookup f0 = some ⟨oc0, od0, .func (PySem.W.fnOf "_law_same" "_law_same" (defArgs st__law_same) (defBody st__law_same) (defScope st__law_same) .none kV0 dc0 pm0 an0 cd0 ct0), sl0⟩) (c0 : PySem.W.codeIn K cd0 "_law_same" = true) (k0 : PySem.W.keepIn K (.ref f0) = true)
    (a1 : PySem.W.nsIn K PySem.mainGlobals "_law_all" = some (some (.ref f1)))
    (l1 : K.lookup f1 = some ⟨oc1, od1, .func (PySem.W.fnOf "_law_all" "_law_all" (defArgs st__law_all) (defBody st__law_all) (defScope st__law_all) .none kV1 dc1 pm1 an1 cd1 ct1), sl1⟩) (c1 : PySem.W.codeIn K cd1 "_law_all" = true) (k1 : PySem.W.keepIn K (.ref f1) = true)
    (a2 : PySem.W.nsIn K PySem.mainGlobals "_law_any" = some (some (.ref f2)))
    (l2 : K.lookup f2 = some ⟨oc2, od2, .func (PySem.W.fnOf "_law_any" "_law_any" (defArgs st__law_any) (defBody st__law_any) (defScope st__law_any) .none kV2 dc2 pm2 an2 cd2 ct2), sl2⟩) (c2 : PySem.W.codeIn K cd2 "_law_any" = true) (k2 : PySem.W.keepIn K (.ref f2) = true)
    (a3 : PySem.W.nsIn K PySem.mainGlobals "_law_deal" = some (some (.ref f3)))
    (l3 : K.lookup f3 = some ⟨oc3, od3, .func (PySem.W.fnOf "_law_deal" "_law_deal" (defArgs st__law_deal) (defBody st__law_deal) (defScope st__law_deal) .none kV3 dc3 pm3 an3 cd3 ct3), sl3⟩) (c3 : PySem.W.codeIn K cd3 "_law_deal" = true) (k3 : PySem.W.keepIn K (.ref f3) = true)
    (a4 : PySem.W.nsIn K PySem.mainGlobals "_law_divisor" = some (some (.ref f4)))
    (l4 : K.lookup f4 = some ⟨oc4, od4, .func (PySem.W.fnOf "_law_divisor" "_law_divisor" (defArgs st__law_divisor) (defBody st__law_divisor) (defScope st__law_divisor) .none kV4 dc4 pm4 an4 cd4 ct4), sl4⟩) (c4 : PySem.W.codeIn K cd4 "_law_divisor" = true) (k4 : PySem.W.keepIn K (.ref f4) = true)
    (a5 : PySem.W.nsIn K PySem.mainGlobals "_law_divisors_due" = some (some (.ref f5)))
    (l5 : K.lookup f5 = some ⟨oc5, od5, .func (PySem.W.fnOf "_law_divisors_due" "_law_divisors_due" (defArgs st__law_divisors_due) (defBody st__law_divisors_due) (defScope st__law_divisors_due) .none kV5 dc5 pm5 an5 cd5 ct5), sl5⟩) (c5 : PySem.W.codeIn K cd5 "_law_divisors_due" = true) (k5 : PySem.W.keepIn K (.ref f5) = true)
    (a6 : PySem.W.nsIn K PySem.mainGlobals "_law_bits" = some (some (.ref f6)))
    (l6 : K.lookup f6 = some ⟨oc6, od6, .func (PySem.W.fnOf "_law_bits" "_law_bits" (defArgs st__law_bits) (defBody st__law_bits) (defScope st__law_bits) .none kV6 dc6 pm6 an6 cd6 ct6), sl6⟩) (c6 : PySem.W.codeIn K cd6 "_law_bits" = true) (k6 : PySem.W.keepIn K (.ref f6) = true)
    (a7 : PySem.W.nsIn K PySem.mainGlobals "_law_lots_due" = some (some (.ref f7)))
    (l7 : K.lookup f7 = some ⟨oc7, od7, .func (PySem.W.fnOf "_law_lots_due" "_law_lots_due" (defArgs st__law_lots_due) (defBody st__law_lots_due) (defScope st__law_lots_due) .none kV7 dc7 pm7 an7 cd7 ct7), sl7⟩) (c7 : PySem.W.codeIn K cd7 "_law_lots_due" = true) (k7 : PySem.W.keepIn K (.ref f7) = true)
    (a8 : PySem.W.nsIn K PySem.mainGlobals "_law_of" = some (some (.ref f8)))
    (l8 : K.lookup f8 = some ⟨oc8, od8, .func (PySem.W.fnOf "_law_of" "_law_of" (defArgs st__law_of) (defBody st__law_of) (defScope st__law_of) .none kV8 dc8 pm8 an8 cd8 ct8), sl8⟩) (c8 : PySem.W.codeIn K cd8 "_law_of" = true) (k8 : PySem.W.keepIn K (.ref f8) = true)
    (a9 : PySem.W.nsIn K PySem.mainGlobals "_law_told" = some (some (.ref f9)))
    (l9 : K.lookup f9 = some ⟨oc9, od9, .func (PySem.W.fnOf "_law_told" "_law_told" (defArgs st__law_told) (defBody st__law_told) (defScope st__law_told) .none kV9 dc9 pm9 an9 cd9 ct9), sl9⟩) (c9 : PySem.W.codeIn K cd9 "_law_told" = true) (k9 : PySem.W.keepIn K (.ref f9) = true)
    (a10 : PySem.W.findIn K (.ref C_World) "__init__" = some (some (.ref f10))) (i10 : PySem.W.isFn K (.ref f10) = true)
    (l10 : K.lookup f10 = some ⟨oc10, od10, .func (PySem.W.fnOf "__init__" "World.__init__" (defArgs st_World_init) (defBody st_World_init) (defScope st_World_init) .none kV10 dc10 pm10 an10 cd10 ct10), sl10⟩) (c10 : PySem.W.codeIn K cd10 "World.__init__" = true) (k10 : PySem.W.keepIn K (.ref f10) = true)
    (a11 : PySem.W.nsIn K PySem.mainGlobals "common_divisor" = some (some (.ref f11)))
    (l11 : K.lookup f11 = some ⟨oc11, od11, .func (PySem.W.fnOf "common_divisor" "common_divisor" (defArgs st_common_divisor) (defBody st_common_divisor) (defScope st_common_divisor) .none kV11 dc11 pm11 an11 cd11 ct11), sl11⟩) (c11 : PySem.W.codeIn K cd11 "common_divisor" = true) (k11 : PySem.W.keepIn K (.ref f11) = true)
    (a12 : PySem.W.nsIn K PySem.mainGlobals "divisors_of" = some (some (.ref f12)))
    (l12 : K.lookup f12 = some ⟨oc12, od12, .func (PySem.W.fnOf "divisors_of" "divisors_of" (defArgs st_divisors_of) (defBody st_divisors_of) (defScope st_divisors_of) .none kV12 dc12 pm12 an12 cd12 ct12), sl12⟩) (c12 : PySem.W.codeIn K cd12 "divisors_of" = true) (k12 : PySem.W.keepIn K (.ref f12) = true)
    (a13 : PySem.W.nsIn K PySem.mainGlobals "pairs_of" = some (some (.ref f13)))
    (l13 : K.lookup f13 = some ⟨oc13, od13, .func (PySem.W.fnOf "pairs_of" "pairs_of" (defArgs st_pairs_of) (defBody st_pairs_of) (defScope st_pairs_of) .none kV13 dc13 pm13 an13 cd13 ct13), sl13⟩) (c13 : PySem.W.codeIn K cd13 "pairs_of" = true) (k13 : PySem.W.keepIn K (.ref f13) = true)
    (a14 : PySem.W.nsIn K PySem.mainGlobals "divisors_world" = some (some (.ref f14)))
    (l14 : K.lookup f14 = some ⟨oc14, od14, .func (PySem.W.fnOf "divisors_world" "divisors_world" (defArgs st_divisors_world) (defBody st_divisors_world) (defScope st_divisors_world) .none kV14 dc14 pm14 an14 cd14 ct14), sl14⟩) (c14 : PySem.W.codeIn K cd14 "divisors_world" = true) (k14 : PySem.W.keepIn K (.ref f14) = true)
    (a15 : PySem.W.nsIn K PySem.mainGlobals "lots_world" = some (some (.ref f15)))
    (l15 : K.lookup f15 = some ⟨oc15, od15, .func (PySem.W.fnOf "lots_world" "lots_world" (defArgs st_lots_world) (defBody st_lots_world) (defScope st_lots_world) .none kV15 dc15 pm15 an15 cd15 ct15), sl15⟩) (c15 : PySem.W.codeIn K cd15 "lots_world" = true) (k15 : PySem.W.keepIn K (.ref f15) = true)
    (a16 : PySem.W.nsIn K PySem.mainGlobals "law" = some (some (.ref f16)))
    (l16 : K.lookup f16 = some ⟨oc16, od16, .func (PySem.W.fnOf "law" "law" (defArgs st_law) (defBody st_law) (defScope st_law) .none kV16 dc16 pm16 an16 cd16 ct16), sl16⟩) (c16 : PySem.W.codeIn K cd16 "law" = true) (k16 : PySem.W.keepIn K (.ref f16) = true)
    (pg_World : PySem.W.plainGet K C_World Str.empty = true) (hd_World : PySem.W.hasDictIn K C_World = true) (po_World : PySem.W.plainOver K C_World = true) (sa_World : PySem.W.findIn K (.ref C_World) "__setattr__" = some (some (.builtin "object.__setattr__"))) (mk_World : PySem.W.makesIn K C_World = true) (kc_World : PySem.W.keepIn K (.ref C_World) = true)
    (ia_World : PySem.W.findIn K (.ref C_World) "__class__" = some (some (.builtin "object.__class__"))) (in_World : PySem.W.specialIn K (.builtin "object.__class__") "__get__" = some (some (.builtin "getset_descriptor.__get__"))) (it_World : PySem.W.takesIn K (.builtin "object.__class__") = some true) (im_World : PySem.W.mroIn K C_World (.type "object") = some true)
    (na_World_makers : PySem.W.findIn K (.ref C_World) "makers" = some none)
    (na_World_relations : PySem.W.findIn K (.ref C_World) "relations" = some none)
    (na_World_size : PySem.W.findIn K (.ref C_World) "size" = some none)
    (z_abs : PySem.W.nsIn K PySem.mainGlobals "abs" = some none)
    (z_bool : PySem.W.nsIn K PySem.mainGlobals "bool" = some none)
    (z_enumerate : PySem.W.nsIn K PySem.mainGlobals "enumerate" = some none)
    (z_int : PySem.W.nsIn K PySem.mainGlobals "int" = some none)
    (z_isinstance : PySem.W.nsIn K PySem.mainGlobals "isinstance" = some none)
    (z_len : PySem.W.nsIn K PySem.mainGlobals "len" = some none)
    (z_range : PySem.W.nsIn K PySem.mainGlobals "range" = some none)
    (z_set : PySem.W.nsIn K PySem.mainGlobals "set" = some none)
    (z_sorted : PySem.W.nsIn K PySem.mainGlobals "sorted" = some none)
    (z_str : PySem.W.nsIn K PySem.mainGlobals "str" = some none)
    (z_tuple : PySem.W.nsIn K PySem.mainGlobals "tuple" = some none)
    (z_zip : PySem.W.nsIn K PySem.mainGlobals "zip" = some none)
    (m_SUB : PySem.W.nsIn K PySem.mainGlobals "SUB" = some (some (.str "sub" t_SUB)))
    : ∃ fd : FuncData, (∀ (s : Shared) (v : Value), BindsTo s fd ⟨[v], []⟩ [("script", v)]) ∧ ∀ base : Heap, K.In base → base.Ns PySem.mainGlobals mg → FnOk l.prog w K mg base CX0 9 fa fd ["script"] (spLaw K) := by
  have e := hfa.symm.trans (PySem.W.mg_of X G a16)
  cases e
  have F0 := fun_mk (st := st__law_same) l0 c0 k0
  have F1 := fun_mk (st := st__law_all) l1 c1 k1
  have F2 := fun_mk (st := st__law_any) l2 c2 k2
  have F3 := fun_mk (st := st__law_deal) l3 c3 k3
  have F4 := fun_mk (st := st__law_divisor) l4 c4 k4
  have F5 := fun_mk (st := st__law_divisors_due) l5 c5 k5
  have F6 := fun_mk (st := st__law_bits) l6 c6 k6
  have F7 := fun_mk (st := st__law_lots_due) l7 c7 k7
  have F8 := fun_mk (st := st__law_of) l8 c8 k8
  have F9 := fun_mk (st := st__law_told) l9 c9 k9
  have F10 := fun_mk (st := st_World_init) l10 c10 k10
  have F11 := fun_mk (st := st_common_divisor) l11 c11 k11
  have F12 := fun_mk (st := st_divisors_of) l12 c12 k12
  have F13 := fun_mk (st := st_pairs_of) l13 c13 k13
  have F14 := fun_mk (st := st_divisors_world) l14 c14 k14
  have F15 := fun_mk (st := st_lots_world) l15 c15 k15
  have F16 := fun_mk (st := st_law) l16 c16 k16
  let T : Tx K mg := {
    f__law_same := f0,
    fd__law_same := _,
    F__law_same := F0,
    b__law_same := F0.binds (ps := ["told", "due"]) fun _ _ _ _ _ _ us hl => match us, hl with | [_, _], _ => rfl,
    m__law_same := PySem.W.mg_of X G a0,
    f__law_all := f1,
    fd__law_all := _,
    F__law_all := F1,
    b__law_all := F1.binds (ps := ["pairs"]) fun _ _ _ _ _ _ us hl => match us, hl with | [_], _ => rfl,
    m__law_all := PySem.W.mg_of X G a1,
    f__law_any := f2,
    fd__law_any := _,
    F__law_any := F2,
    b__law_any := F2.binds (ps := ["deal", "bound"]) fun _ _ _ _ _ _ us hl => match us, hl with | [_, _], _ => rfl,
    m__law_any := PySem.W.mg_of X G a2,
    f__law_deal := f3,
    fd__law_deal := _,
    F__law_deal := F3,
    b__law_deal := F3.binds (ps := ["script", "salt"]) fun _ _ _ _ _ _ us hl => match us, hl with | [_, _], _ => rfl,
    m__law_deal := PySem.W.mg_of X G a3,
    f__law_divisor := f4,
    fd__law_divisor := _,
    F__law_divisor := F4,
    b__law_divisor := F4.binds (ps := ["one", "other"]) fun _ _ _ _ _ _ us hl => match us, hl with | [_, _], _ => rfl,
    m__law_divisor := PySem.W.mg_of X G a4,
    f__law_divisors_due := f5,
    fd__law_divisors_due := _,
    F__law_divisors_due := F5,
    b__law_divisors_due := F5.binds (ps := ["number"]) fun _ _ _ _ _ _ us hl => match us, hl with | [_], _ => rfl,
    m__law_divisors_due := PySem.W.mg_of X G a5,
    f__law_bits := f6,
    fd__law_bits := _,
    F__law_bits := F6,
    b__law_bits := F6.binds (ps := ["number", "many"]) fun _ _ _ _ _ _ us hl => match us, hl with | [_, _], _ => rfl,
    m__law_bits := PySem.W.mg_of X G a6,
    f__law_lots_due := f7,
    fd__law_lots_due := _,
    F__law_lots_due := F7,
    b__law_lots_due := F7.binds (ps := ["many"]) fun _ _ _ _ _ _ us hl => match us, hl with | [_], _ => rfl,
    m__law_lots_due := PySem.W.mg_of X G a7,
    f__law_of := f8,
    fd__law_of := _,
    F__law_of := F8,
    b__law_of := F8.binds (ps := ["deal", "some"]) fun _ _ _ _ _ _ us hl => match us, hl with | [_, _], _ => rfl,
    m__law_of := PySem.W.mg_of X G a8,
    f__law_told := f9,
    fd__law_told := _,
    F__law_told := F9,
    b__law_told := F9.binds (ps := ["world"]) fun _ _ _ _ _ _ us hl => match us, hl with | [_], _ => rfl,
    m__law_told := PySem.W.mg_of X G a9,
    f_World_init := f10,
    fd_World_init := _,
    F_World_init := F10,
    b_World_init := F10.binds (ps := ["self", "size", "makers", "relations"]) fun _ _ _ _ _ _ us hl => match us, hl with | [_, _, _, _], _ => rfl,
    f_common_divisor := f11,
    fd_common_divisor := _,
    F_common_divisor := F11,
    b_common_divisor := F11.binds (ps := ["one", "other"]) fun _ _ _ _ _ _ us hl => match us, hl with | [_, _], _ => rfl,
    m_common_divisor := PySem.W.mg_of X G a11,
    f_divisors_of := f12,
    fd_divisors_of := _,
    F_divisors_of := F12,
    b_divisors_of := F12.binds (ps := ["number"]) fun _ _ _ _ _ _ us hl => match us, hl with | [_], _ => rfl,
    m_divisors_of := PySem.W.mg_of X G a12,
    f_pairs_of := f13,
    fd_pairs_of := _,
    F_pairs_of := F13,
    b_pairs_of := F13.binds (ps := ["size"]) fun _ _ _ _ _ _ us hl => match us, hl with | [_], _ => rfl,
    m_pairs_of := PySem.W.mg_of X G a13,
    f_divisors_world := f14,
    fd_divisors_world := _,
    F_divisors_world := F14,
    b_divisors_world := F14.binds (ps := ["number"]) fun _ _ _ _ _ _ us hl => match us, hl with | [_], _ => rfl,
    m_divisors_world := PySem.W.mg_of X G a14,
    kw_divisors_world := kwAll F14 fun _ _ _ _ _ _ ws hl => match ws, hl with | [_], _ => rfl,
    f_lots_world := f15,
    fd_lots_world := _,
    F_lots_world := F15,
    b_lots_world := F15.binds (ps := ["many"]) fun _ _ _ _ _ _ us hl => match us, hl with | [_], _ => rfl,
    m_lots_world := PySem.W.mg_of X G a15,
    kw_lots_world := kwAll F15 fun _ _ _ _ _ _ ws hl => match ws, hl with | [_], _ => rfl,
    f_law := fa,
    fd_law := _,
    F_law := F16,
    b_law := F16.binds (ps := ["script"]) fun _ _ _ _ _ _ us hl => match us, hl with | [_], _ => rfl,
    m_law := PySem.W.mg_of X G a16,
    C_World := C_World,
    m_World := PySem.W.mg_of X G aC_World,
    cl_World := ⟨pg_World, hd_World, po_World, sa_World⟩,
    mk_World := ⟨mk_World, a10, i10, kc_World⟩,
    ci_World := ⟨⟨pg_World, hd_World, po_World, sa_World⟩, ia_World, in_World, it_World, im_World⟩,
    ko_World := ko_self,
    na_World_makers := na_World_makers,
    na_World_relations := na_World_relations,
    na_World_size := na_World_size,
    z_abs := PySem.W.mg_none_of X G z_abs,
    z_bool := PySem.W.mg_none_of X G z_bool,
    z_enumerate := PySem.W.mg_none_of X G z_enumerate,
    z_int := PySem.W.mg_none_of X G z_int,
    z_isinstance := PySem.W.mg_none_of X G z_isinstance,
    z_len := PySem.W.mg_none_of X G z_len,
    z_range := PySem.W.mg_none_of X G z_range,
    z_set := PySem.W.mg_none_of X G z_set,
    z_sorted := PySem.W.mg_none_of X G z_sorted,
    z_str := PySem.W.mg_none_of X G z_str,
    z_tuple := PySem.W.mg_none_of X G z_tuple,
    z_zip := PySem.W.mg_none_of X G z_zip,
    t_SUB := t_SUB,
    m_SUB := PySem.W.mg_of X G m_SUB }
  exact ⟨T.fd_law, fun s v => .of_eq rfl, fun base _ _ => law_imp (ok_law T) law_true⟩
end Q

open PySem PySem.W PyProof.Rows
set_option maxHeartbeats 0 in
theorem PySem.Challenge.cw_wordsathand_k59_worlds_of_lots_and_of_di_holds : PySem.Challenge.rw_wordsathand_k59_worlds_of_lots_and_of_di.Holds := by
  w_on; o_law; k_head; (case hw => w_witness2)
  k_fill
  refine L2.walk_of (l := PySem.Challenge.rw_wordsathand_k59_worlds_of_lots_and_of_di) (n := 63) (k := 9) (x := "script") (CX := fun _ => L2.CX0) (sp := fun w => Q.spLaw _) rfl (by decide) rfl ⟨rfl, by decide, by decide⟩ (fun w h Y => PySem.W.kIn_of Y) ?F (fun _ H a ns hl _ hS => Q.law_sp ns hl hS) (fun _ _ _ _ _ h => h)
  case F =>
    intro w mg fa h KX G hmg
    refine' Q.all_mk KX G hmg ?aC_World ?a0 ?l0 ?c0 ?k0 ?a1 ?l1 ?c1 ?k1 ?a2 ?l2 ?c2 ?k2 ?a3 ?l3 ?c3 ?k3 ?a4 ?l4 ?c4 ?k4 ?a5 ?l5 ?c5 ?k5 ?a6 ?l6 ?c6 ?k6 ?a7 ?l7 ?c7 ?k7 ?a8 ?l8 ?c8 ?k8 ?a9 ?l9 ?c9 ?k9 ?a10 ?i10 ?l10 ?c10 ?k10 ?a11 ?l11 ?c11 ?k11 ?a12 ?l12 ?c12 ?k12 ?a13 ?l13 ?c13 ?k13 ?a14 ?l14 ?c14 ?k14 ?a15 ?l15 ?c15 ?k15 ?a16 ?l16 ?c16 ?k16 ?pg_World ?hd_World ?po_World ?sa_World ?mk_World ?kc_World ?ia_World ?in_World ?it_World ?im_World ?na_World_makers ?na_World_relations ?na_World_size ?z_abs ?z_bool ?z_enumerate ?z_int ?z_isinstance ?z_len ?z_range ?z_set ?z_sorted ?z_str ?z_tuple ?z_zip ?m_SUB
    (case aC_World => k_is); (case a0 => k_is); (case l0 => k_is); (case c0 => k_is); (case k0 => k_is); (case a1 => k_is); (case l1 => k_is); (case c1 => k_is); (case k1 => k_is); (case a2 => k_is); (case l2 => k_is); (case c2 => k_is); (case k2 => k_is); (case a3 => k_is); (case l3 => k_is); (case c3 => k_is); (case k3 => k_is); (case a4 => k_is); (case l4 => k_is); (case c4 => k_is); (case k4 => k_is); (case a5 => k_is); (case l5 => k_is); (case c5 => k_is); (case k5 => k_is); (case a6 => k_is); (case l6 => k_is); (case c6 => k_is); (case k6 => k_is); (case a7 => k_is); (case l7 => k_is); (case c7 => k_is); (case k7 => k_is); (case a8 => k_is); (case l8 => k_is); (case c8 => k_is); (case k8 => k_is); (case a9 => k_is); (case l9 => k_is); (case c9 => k_is); (case k9 => k_is); (case a10 => k_is); (case i10 => k_is); (case l10 => k_is); (case c10 => k_is); (case k10 => k_is); (case a11 => k_is); (case l11 => k_is); (case c11 => k_is); (case k11 => k_is); (case a12 => k_is); (case l12 => k_is); (case c12 => k_is); (case k12 => k_is); (case a13 => k_is); (case l13 => k_is); (case c13 => k_is); (case k13 => k_is); (case a14 => k_is); (case l14 => k_is); (case c14 => k_is); (case k14 => k_is); (case a15 => k_is); (case l15 => k_is); (case c15 => k_is); (case k15 => k_is); (case a16 => k_is); (case l16 => k_is); (case c16 => k_is); (case k16 => k_is); (case pg_World => k_is); (case hd_World => k_is); (case po_World => k_is); (case sa_World => k_is); (case mk_World => k_is); (case kc_World => k_is); (case ia_World => k_is); (case in_World => k_is); (case it_World => k_is); (case im_World => k_is); (case na_World_makers => k_is); (case na_World_relations => k_is); (case na_World_size => k_is); (case z_abs => k_is); (case z_bool => k_is); (case z_enumerate => k_is); (case z_int => k_is); (case z_isinstance => k_is); (case z_len => k_is); (case z_range => k_is); (case z_set => k_is); (case z_sorted => k_is); (case z_str => k_is); (case z_tuple => k_is); (case z_zip => k_is); (case m_SUB => k_is)
