import PyProof.Rows.All
import Wide.All
import OpenK.AllK
import Wide.FinOn
import HandS.ForMost
import HandS.ForExc
import HandS.Lambda
import HandS.TupAny
import HandS.TupMul
import HandS.Deep
import HandS.Style
import HandS.IsInst
import HandS.Zip
import HandS.Conv
import HandS.ExcCtx
import HandS.Base
import HandS.Hot
import HandS.HotCalls
import HandS.ExcIs
import KE.KRevSl
import KE.GoesEnum
import KE.GoesMore
import HandS.Iter
import HandS.SetFor
import HandS.Strs
import HandS.Dict
import HandS.Sort
import PyProof.Rows.IntBool
import KE.KStateDown
import HandS.Defaults
import HandS.Head0
import HandS.Head1
import HandS.Head2
import HandS.HeadEnd
import HandS.HeadHook1
import HandS.HeadHook2
import HandS.HeadHook3
import HandS.HeadHook4
import HandS.HeadWalk
import HandS.EndTab
import PySem.Challenge.RW_anypages_k01_documents_and_rules_known
set_option Elab.async false
set_option linter.all false
set_option maxRecDepth 100000
set_option maxHeartbeats 4000000
/-! DLa: a layer of data. What a piece of code does is told by a plain function over data trees; the heap is kept out of sight. -/
namespace DL
open PySem PySem.Spec PyProof.Rows L2
abbrev Frag := PySem.W.Frag

/-! ### data -/
inductive D where
  | non | bl (b : Bool) | int (i : Int) | str (x : Str)
  | tup (xs : List D) | lst (xs : List D)
  | scr (ns : List Int) | rng (lo hi : Int) | dct (ks : List (List Int)) (vs : List D)

mutual
/-- the value v is the data d, over the part G of the heap that no one changes -/
inductive Dq (K : Frag) (G : Hp) : V → D → Prop
  | non : Dq K G .non .non
  | bl (b : Bool) : Dq K G (.bl b) (.bl b)
  | int (i : Int) : Dq K G (.int i) (.int i)
  | str (x : Str) : Dq K G (.str x) (.str x)
  | lst {a : Addr} {xs : List V} {ds : List D} : G a = some (.lst xs) → DqAll K G xs ds → Dq K G (.ref a) (.lst ds)
  | tup {a : Addr} {xs : List V} {ds : List D} : SqT K G a xs → DqAll K G xs ds → Dq K G (.ref a) (.tup ds)
  | scr {a : Addr} {ns : List Int} : SqL K G a (ns.map V.int) → Dq K G (.ref a) (.scr ns)
  | rng {a : Addr} {lo hi : Int} : G a = some (.rng lo hi) → Dq K G (.ref a) (.rng lo hi)
  | dct {a : Addr} {o : Obj} {kvs : List (List Key × V)} {ks : List (List Int)} {ds : List D} : G a = some (.frz o (.dT kvs)) →
      kvs.map (·.1) = ks.map (·.map Sum.inl) → DqAll K G (kvs.map (·.2)) ds → Dq K G (.ref a) (.dct ks ds)
inductive DqAll (K : Frag) (G : Hp) : List V → List D → Prop
  | nil : DqAll K G [] []
  | cons {v : V} {vs : List V} {d : D} {ds : List D} : Dq K G v d → DqAll K G vs ds → DqAll K G (v :: vs) (d :: ds)
end

section
variable {K : Frag} {G G' H H' : Hp} {v : V} {vs ws : List V} {d : D} {ds es : List D}
theorem sqT_mono {a : Addr} {xs : List V} (e : Same G G') (h : SqT K G a xs) : SqT K G' a xs := by
  rcases h with (h | ⟨o, h⟩) | h
  · exact .inl (.inl (e _ _ h))
  · exact .inl (.inr ⟨o, e _ _ h⟩)
  · exact .inr h
mutual
theorem Dq.mono (e : Same G G') : ∀ {v : V} {d : D}, Dq K G v d → Dq K G' v d
  | _, _, .non => .non
  | _, _, .bl b => .bl b
  | _, _, .int i => .int i
  | _, _, .str x => .str x
  | _, _, .lst h a => .lst (e _ _ h) (DqAll.mono e a)
  | _, _, .tup h a => .tup (sqT_mono e h) (DqAll.mono e a)
  | _, _, .scr h => .scr (e.seq h)
  | _, _, .rng h => .rng (e _ _ h)
  | _, _, .dct h k a => .dct (e _ _ h) k (DqAll.mono e a)
theorem DqAll.mono (e : Same G G') : ∀ {vs : List V} {ds : List D}, DqAll K G vs ds → DqAll K G' vs ds
  | _, _, .nil => .nil
  | _, _, .cons h t => .cons (Dq.mono e h) (DqAll.mono e t)
end
theorem DqAll.length : ∀ {vs : List V} {ds : List D}, DqAll K G vs ds → vs.length = ds.length
  | _, _, .nil => rfl
  | _, _, .cons _ t => congrArg (· + 1) (DqAll.length t)
theorem DqAll.get : ∀ {vs : List V} {ds : List D} {i : Nat} {v : V} {d : D}, DqAll K G vs ds → vs[i]? = some v → ds[i]? = some d → Dq K G v d
  | _, _, 0, _, _, .cons h _, e1, e2 => by
    cases Option.some.inj e1
    cases Option.some.inj e2
    exact h
  | _, _, i + 1, _, _, .cons _ t, e1, e2 => DqAll.get (i := i) t e1 e2
theorem DqAll.atD : ∀ {vs : List V} {ds : List D} {i : Nat} {d : D}, DqAll K G vs ds → ds[i]? = some d → ∃ v, vs[i]? = some v ∧ Dq K G v d
  | _, _, 0, _, .cons h _, e => by
    cases Option.some.inj e
    exact ⟨_, rfl, h⟩
  | _, _, i + 1, _, .cons _ t, e => DqAll.atD (i := i) t e
theorem DqAll.append : ∀ {vs ws : List V} {ds es : List D}, DqAll K G vs ds → DqAll K G ws es → DqAll K G (vs ++ ws) (ds ++ es)
  | _, _, _, _, .nil, s => s
  | _, _, _, _, .cons h t, s => .cons h (DqAll.append t s)
theorem DqAll.take : ∀ {vs : List V} {ds : List D} (n : Nat), DqAll K G vs ds → DqAll K G (vs.take n) (ds.take n)
  | _, _, 0, _ => .nil
  | _, _, _ + 1, .nil => .nil
  | _, _, n + 1, .cons h t => .cons h (DqAll.take n t)
theorem DqAll.drop : ∀ {vs : List V} {ds : List D} (n : Nat), DqAll K G vs ds → DqAll K G (vs.drop n) (ds.drop n)
  | _, _, 0, h => h
  | _, _, _ + 1, .nil => .nil
  | _, _, n + 1, .cons _ t => DqAll.drop n t
theorem DqAll.one (h : Dq K G v d) : DqAll K G [v] [d] := .cons h .nil
theorem DqAll.reverse : ∀ {vs : List V} {ds : List D}, DqAll K G vs ds → DqAll K G vs.reverse ds.reverse
  | _, _, .nil => .nil
  | _, _, .cons h t => by
    rw [List.reverse_cons, List.reverse_cons]
    exact (DqAll.reverse t).append (.one h)
theorem DqAll.ints : ∀ (ns : List Int), DqAll K G (ns.map V.int) (ns.map D.int)
  | [] => .nil
  | n :: r => .cons (.int n) (DqAll.ints r)
theorem DqAll.nil_iff (h : DqAll K G vs ds) : vs = [] ↔ ds = [] := by
  cases h with
  | nil => exact ⟨fun _ => rfl, fun _ => rfl⟩
  | cons _ _ =>
    constructor
    · intro e; cases e
    · intro e; cases e
end

/-! ### what a slot of a frame holds -/
inductive Mo where
  | lst (ds : List D) | dct (ks : List (List Int)) (ds : List D) | ins (C : Addr) (fs : List (Str × D))
/-- nothing that is known, data, a thing of its own that changes -/
inductive Sl where
  | un | da (d : D) | mu (m : Mo) | px (a : Addr)
abbrev Rho := List Sl

inductive Fds (K : Frag) (G : Hp) : List (Str × V) → List (Str × D) → Prop
  | nil : Fds K G [] []
  | cons {f : Str} {v : V} {d : D} {vs : List (Str × V)} {ds : List (Str × D)} : Dq K G v d → Fds K G vs ds → Fds K G ((f, v) :: vs) ((f, d) :: ds)
theorem Fds.mono {K : Frag} {G G' : Hp} (e : Same G G') : ∀ {vs : List (Str × V)} {ds : List (Str × D)}, Fds K G vs ds → Fds K G' vs ds
  | _, _, .nil => .nil
  | _, _, .cons h t => .cons (h.mono e) (Fds.mono e t)

def MoR (K : Frag) (G H : Hp) (p : Addr) : Mo → Prop
  | .lst ds => G p = none ∧ ∃ vs, H p = some (.lst vs) ∧ DqAll K G vs ds
  | .dct ks ds => G p = none ∧ ∃ kvs, H p = some (.dT kvs) ∧ kvs.map (·.1) = ks.map (·.map Sum.inl) ∧ DqAll K G (kvs.map (·.2)) ds
  | .ins C fs => G p = none ∧ ∃ dx vs, H p = some (.ins C dx vs) ∧ Fds K G vs fs
def SlR (K : Frag) (G H : Hp) (o : Option V) : Sl → Prop
  | .un => True
  | .da d => ∃ v, o = some v ∧ Dq K G v d
  | .mu m => ∃ p, o = some (.ref p) ∧ MoR K G H p m
  | .px a => o = some (.ref a)
/-- the addresses that a frame may change -/
def Mu (ρ : Rho) (σ : L2.St) (a : Addr) : Prop := ∃ (i : Nat) (m : Mo), ρ[i]? = some (Sl.mu m) ∧ σ[i]? = some (some (V.ref a))

/-- the kept part, and the tables of code objects -/
structure Wf (T : List (Addr × Str)) (G H : Hp) : Prop where
  same : Same G H
  tabs : LamX.Tabs T H
  ntb : ∀ a ps, G a ≠ some (.tbl ps)

structure Rel (K : Frag) (T : List (Addr × Str)) (G : Hp) (ρ : Rho) (σ : L2.St) (H : Hp) : Prop where
  wf : Wf T G H
  len : σ.length = ρ.length
  sl : ∀ (i : Nat) (s : Sl) (o : Option V), ρ[i]? = some s → σ[i]? = some o → SlR K G H o s
  ne : ∀ (i j : Nat) (m m' : Mo) (p : Addr), ρ[i]? = some (Sl.mu m) → ρ[j]? = some (Sl.mu m') → σ[i]? = some (some (V.ref p)) → σ[j]? = some (some (V.ref p)) → i = j

/-- a thing that a frame may own -/
def Ow : Option HO → Prop
  | some (.lst _) | some (.dT _) | some (.ins _ _ _) => True
  | _ => False
theorem ow_ne {o : Option HO} (h : Ow o) : o ≠ none := fun z => by rw [z] at h; exact h
theorem ow_some {o : Option HO} (h : Ow o) : ∃ u, o = some u ∧ ∀ ps, u ≠ .tbl ps := by
  cases o with
  | none => exact h.elim
  | some u => exact ⟨u, rfl, fun ps z => by rw [z] at h; exact h⟩
/-- what a piece of code may do to the heap: M is what it may change -/
structure Ext (T : List (Addr × Str)) (M : Addr → Prop) (G H G' H' : Hp) : Prop where
  wf : Wf T G' H'
  sG : Same G G'
  sH : ∀ a o, H a = some o → ¬ M a → (∀ ps, o ≠ .tbl ps) → H' a = some o
  fr : ∀ a, G a = none → Ow (H a) → ¬ M a → G' a = none
  al : ∀ a, H a ≠ none → H' a ≠ none

structure Stp (K : Frag) (T : List (Addr × Str)) (n : Nat) (ρ : Rho) (σ : L2.St) (G H : Hp) (ρ' : Rho) (σ' : L2.St) (G' H' : Hp) : Prop where
  rel : Rel K T G' ρ' σ' H'
  ext : Ext T (Mu ρ σ) G H G' H'
  mm : ∀ a, Mu ρ' σ' a → Mu ρ σ a ∨ H a = none
  pr : ∀ (i : Nat) (m' : Mo), i < n → ρ'[i]? = some (Sl.mu m') → (∃ m, ρ[i]? = some (Sl.mu m)) ∧ σ'[i]? = σ[i]?

section
variable {K : Frag} {T : List (Addr × Str)} {n : Nat} {ρ ρ' ρ1 ρ2 : Rho} {σ σ' σ1 σ2 : L2.St} {G H G1 H1 G2 H2 G' H' : Hp} {p : Addr} {o : HO} {M : Addr → Prop}
theorem Rel.muSome (R : Rel K T G ρ σ H) {a : Addr} (h : Mu ρ σ a) : H a ≠ none := by
  obtain ⟨i, m, e1, e2⟩ := h
  obtain ⟨p, e3, h⟩ := R.sl i _ _ e1 e2
  cases e3
  cases m with
  | lst ds => obtain ⟨_, vs, h, _⟩ := h; rw [h]; exact fun z => nomatch z
  | dct ks ds => obtain ⟨_, vs, h, _⟩ := h; rw [h]; exact fun z => nomatch z
  | ins C fs => obtain ⟨_, dx, vs, h, _⟩ := h; rw [h]; exact fun z => nomatch z
theorem Rel.muOw (R : Rel K T G ρ σ H) {a : Addr} (h : Mu ρ σ a) : Ow (H a) := by
  obtain ⟨i, m, e1, e2⟩ := h
  obtain ⟨p, e3, h⟩ := R.sl i _ _ e1 e2
  cases e3
  cases m with
  | lst ds => obtain ⟨_, vs, h, _⟩ := h; rw [h]; trivial
  | dct ks ds => obtain ⟨_, vs, h, _⟩ := h; rw [h]; trivial
  | ins C fs => obtain ⟨_, dx, vs, h, _⟩ := h; rw [h]; trivial
theorem Rel.muFree (R : Rel K T G ρ σ H) {a : Addr} (h : Mu ρ σ a) : G a = none := by
  obtain ⟨i, m, e1, e2⟩ := h
  obtain ⟨p, e3, h⟩ := R.sl i _ _ e1 e2
  cases e3
  cases m with
  | lst ds => exact h.1
  | dct ks ds => exact h.1
  | ins C fs => exact h.1
theorem Wf.none (w : Wf T G H) {a : Addr} (h : H a = none) : G a = none := w.same.free h
theorem Ext.refl (w : Wf T G H) : Ext T M G H G H := ⟨w, Same.refl _, fun _ _ h _ _ => h, fun _ h _ _ => h, fun _ h => h⟩
theorem Ext.back (e : Ext T M G H G' H') {a : Addr} (h : H' a = none) : H a = none := by
  cases q : H a with
  | none => rfl
  | some u => exact absurd h (e.al a (by rw [q]; exact fun z => nomatch z))
theorem Ext.trans {M2 : Addr → Prop} (a : Ext T M G H G1 H1) (b : Ext T M2 G1 H1 G2 H2) (m : ∀ x, M2 x → M x ∨ H x = none) : Ext T M G H G2 H2 :=
  ⟨b.wf, a.sG.trans b.sG, fun x o h nm nt => b.sH x o (a.sH x o h nm nt) (fun z => (m x z).elim nm fun z => by rw [h] at z; cases z) nt,
    fun x hg hh nm => b.fr x (a.fr x hg hh nm) (by obtain ⟨u, e, nt⟩ := ow_some hh; rw [a.sH x u e nm nt, ← e]; exact hh) (fun z => (m x z).elim nm (ow_ne hh)), fun x h => b.al x (a.al x h)⟩
theorem Ext.mono {M2 : Addr → Prop} (a : Ext T M G H G1 H1) (m : ∀ x, M x → M2 x ∨ H x = none) : Ext T M2 G H G1 H1 :=
  ⟨a.wf, a.sG, fun x o h nm nt => a.sH x o h (fun z => (m x z).elim nm fun z => by rw [h] at z; cases z) nt, fun x hg hh nm => a.fr x hg hh fun z => (m x z).elim nm (ow_ne hh), a.al⟩
theorem Stp.refl (R : Rel K T G ρ σ H) : Stp K T n ρ σ G H ρ σ G H := ⟨R, .refl R.wf, fun _ h => .inl h, fun _ m' _ e => ⟨⟨m', e⟩, rfl⟩⟩
theorem Stp.trans (a : Stp K T n ρ σ G H ρ1 σ1 G1 H1) (b : Stp K T n ρ1 σ1 G1 H1 ρ2 σ2 G2 H2) : Stp K T n ρ σ G H ρ2 σ2 G2 H2 :=
  ⟨b.rel, a.ext.trans b.ext a.mm, fun x h => (b.mm x h).elim (a.mm x) fun h => .inr (a.ext.back h),
    fun i m' hi e => by
      obtain ⟨⟨m1, e1⟩, h1⟩ := b.pr i m' hi e
      obtain ⟨h2, h3⟩ := a.pr i m1 hi e1
      exact ⟨h2, h1.trans h3⟩⟩

/-- a slot's data stand over a greater part -/
theorem SlR.mono {o : Option V} {s : Sl} (e : Same G G') (hfr : ∀ p, o = some (.ref p) → (∃ m, s = .mu m) → G' p = none ∧ H' p = H p) (h : SlR K G H o s) : SlR K G' H' o s := by
  cases s with
  | un => trivial
  | px a => exact h
  | da d => obtain ⟨v, e1, h⟩ := h; exact ⟨v, e1, h.mono e⟩
  | mu m =>
    obtain ⟨p, e1, h⟩ := h
    obtain ⟨f1, f2⟩ := hfr p e1 ⟨m, rfl⟩
    refine ⟨p, e1, ?_⟩
    cases m with
    | lst ds => obtain ⟨_, vs, h1, h2⟩ := h; exact ⟨f1, vs, by rw [f2]; exact h1, h2.mono e⟩
    | dct ks ds => obtain ⟨_, vs, h1, h2, h3⟩ := h; exact ⟨f1, vs, by rw [f2]; exact h1, h2, h3.mono e⟩
    | ins C fs => obtain ⟨_, dx, vs, h1, h2⟩ := h; exact ⟨f1, dx, vs, by rw [f2]; exact h1, h2.mono e⟩
theorem mu_of {i : Nat} {m : Mo} (e1 : ρ[i]? = some (.mu m)) (e2 : σ[i]? = some (some (.ref p))) : Mu ρ σ p := ⟨i, m, e1, e2⟩

/-- a new object, of the kept part -/
theorem Stp.new (R : Rel K T G ρ σ H) (hp : H p = none) (ht : ∀ ps, o ≠ .tbl ps) : Stp K T n ρ σ G H ρ σ (upd G p o) (upd H p o) := by
  have gp := R.wf.none hp
  have sG : Same G (upd G p o) := fun a u h => by rw [upd_ne (ne_of_none h gp)]; exact h
  have sH : Same H (upd H p o) := fun a u h => by rw [upd_ne (ne_of_none h hp)]; exact h
  have w : Wf T (upd G p o) (upd H p o) := by
    refine ⟨fun a u h => ?_, R.wf.tabs.ext sH, fun a ps h => ?_⟩
    · by_cases q : a = p
      · subst q; rw [upd_same] at h ⊢; exact h
      · rw [upd_ne q] at h ⊢; exact R.wf.same _ _ h
    · by_cases q : a = p
      · subst q; rw [upd_same] at h; exact ht ps (Option.some.inj h)
      · rw [upd_ne q] at h; exact R.wf.ntb _ _ h
  refine ⟨⟨w, R.len, fun i s u e1 e2 => (R.sl i s u e1 e2).mono sG fun q eq ⟨m, em⟩ => ?_, R.ne⟩, ⟨w, sG, fun a u h _ _ => sH a u h, fun a hg hh _ => ?_, fun a h z => ?_⟩, fun _ h => .inl h, fun _ m' _ e => ⟨⟨m', e⟩, rfl⟩⟩
  · subst em; subst eq
    have mq : Mu ρ σ q := mu_of e1 e2
    have n1 : q ≠ p := fun z => R.muSome mq (by rw [z]; exact hp)
    rw [upd_ne n1, upd_ne n1]
    exact ⟨R.muFree mq, rfl⟩
  · have n1 : a ≠ p := fun z => ow_ne hh (by rw [z]; exact hp)
    rw [upd_ne n1]; exact hg
  · by_cases q : a = p
    · subst q; exact h hp
    · rw [upd_ne q] at z; exact h z
/-- a new object that stays out of the kept part -/
theorem Stp.newF (R : Rel K T G ρ σ H) (hp : H p = none) : Stp K T n ρ σ G H ρ σ G (upd H p o) := by
  have sH : Same H (upd H p o) := fun a u h => by rw [upd_ne (ne_of_none h hp)]; exact h
  have w : Wf T G (upd H p o) := ⟨R.wf.same.trans sH, R.wf.tabs.ext sH, R.wf.ntb⟩
  refine ⟨⟨w, R.len, fun i s u e1 e2 => (R.sl i s u e1 e2).mono (Same.refl _) fun q eq ⟨m, em⟩ => ?_, R.ne⟩, ⟨w, Same.refl _, fun a u h _ _ => sH a u h, fun a hg _ _ => hg, fun a h z => ?_⟩, fun _ h => .inl h, fun _ m' _ e => ⟨⟨m', e⟩, rfl⟩⟩
  · subst em; subst eq
    have mq : Mu ρ σ q := mu_of e1 e2
    have n1 : q ≠ p := fun z => R.muSome mq (by rw [z]; exact hp)
    rw [upd_ne n1]
    exact ⟨R.muFree mq, rfl⟩
  · by_cases q : a = p
    · subst q; exact h hp
    · rw [upd_ne q] at z; exact h z
/-- data put into a slot -/
theorem get_set {α : Type} {l : List α} {i j : Nat} {x y : α} (h : (l.set i x)[j]? = some y) : (j = i ∧ y = x) ∨ (j ≠ i ∧ l[j]? = some y) := by
  by_cases q : i = j
  · subst q
    rw [List.getElem?_set] at h
    simp only [if_true] at h
    split at h
    · exact .inl ⟨rfl, (Option.some.inj h).symm⟩
    · cases h
  · rw [List.getElem?_set_ne q] at h
    exact .inr ⟨fun z => q z.symm, h⟩
def isMu : Option Sl → Bool
  | some (.mu _) => true
  | _ => false
theorem Stp.set {i : Nat} {d : D} {v : V} (R : Rel K T G ρ σ H) (h : Dq K G v d) : Stp K T n ρ σ G H (ρ.set i (.da d)) (σ.set i (some v)) G H := by
  have mm : ∀ (j : Nat) (m : Mo), (ρ.set i (Sl.da d))[j]? = some (Sl.mu m) → j ≠ i ∧ ρ[j]? = some (Sl.mu m) := fun j m e => by
    rcases get_set e with ⟨_, q⟩ | q
    · cases q
    · exact q
  have ss : ∀ (j : Nat) (u : Option V), j ≠ i → (σ.set i (some v))[j]? = some u → σ[j]? = some u := fun j u hj e => by
    rcases get_set e with ⟨q, _⟩ | ⟨_, q⟩
    · exact absurd q hj
    · exact q
  refine ⟨⟨R.wf, by rw [List.length_set, List.length_set]; exact R.len, fun j s u e1 e2 => ?_, fun j k m m' p e1 e2 e3 e4 => ?_⟩, .refl R.wf, fun a ⟨j, m, e1, e2⟩ => ?_, fun j m' hj e => ?_⟩
  · rcases get_set e1 with ⟨q1, q2⟩ | ⟨q1, q2⟩
    · subst q1 q2
      rcases get_set e2 with ⟨_, q⟩ | ⟨q, _⟩
      · exact ⟨v, q, h⟩
      · exact absurd rfl q
    · exact R.sl j s u q2 (ss j u q1 e2)
  · obtain ⟨a1, a2⟩ := mm _ _ e1
    obtain ⟨b1, b2⟩ := mm _ _ e2
    exact R.ne j k m m' p a2 b2 (ss _ _ a1 e3) (ss _ _ b1 e4)
  · obtain ⟨a1, a2⟩ := mm _ _ e1
    exact .inl ⟨j, m, a2, ss _ _ a1 e2⟩
  · obtain ⟨a1, a2⟩ := mm _ _ e
    exact ⟨⟨m', a2⟩, by rw [List.getElem?_set_ne (Ne.symm a1)]⟩
/-- a slot forgotten -/
theorem Rel.forget {i : Nat} (R : Rel K T G ρ σ H) : Rel K T G (ρ.set i .un) σ H := by
  refine ⟨R.wf, by rw [List.length_set]; exact R.len, fun j s u e1 e2 => ?_, fun j k m m' p e1 e2 e3 e4 => ?_⟩
  · rcases get_set e1 with ⟨_, q⟩ | ⟨_, q⟩
    · subst q; trivial
    · exact R.sl j s u q e2
  · rcases get_set e1 with ⟨_, q⟩ | ⟨_, q⟩
    · cases q
    · rcases get_set e2 with ⟨_, q'⟩ | ⟨_, q'⟩
      · cases q'
      · exact R.ne j k m m' p q q' e3 e4
theorem mu_forget {i : Nat} {a : Addr} (h : Mu (ρ.set i .un) σ a) : Mu ρ σ a := by
  obtain ⟨j, m, e1, e2⟩ := h
  rcases get_set e1 with ⟨_, q⟩ | ⟨_, q⟩
  · cases q
  · exact ⟨j, m, q, e2⟩
theorem Stp.forget {i : Nat} (R : Rel K T G ρ σ H) : Stp K T n ρ σ G H (ρ.set i .un) σ G H :=
  ⟨R.forget, .refl R.wf, fun _ h => .inl (mu_forget h), fun j m' _ e => by
    rcases get_set e with ⟨_, q⟩ | ⟨_, q⟩
    · cases q
    · exact ⟨⟨m', q⟩, rfl⟩⟩
end

/-! ### ways out -/
inductive Xc where
  | doc | rules | size | part | facts | text | none | undo | typ
  deriving DecidableEq
inductive Rs (α : Type) where
  | ok (a : α) | er (x : Xc) | no
def Rs.bind {α β : Type} (r : Rs α) (f : α → Rs β) : Rs β := match r with
  | .ok a => f a
  | .er x => .er x
  | .no => .no
@[simp] theorem Rs.ok_bind {α β : Type} (a : α) (f : α → Rs β) : (Rs.ok a).bind f = f a := rfl
@[simp] theorem Rs.er_bind {α β : Type} (x : Xc) (f : α → Rs β) : (Rs.er x : Rs α).bind f = .er x := rfl
@[simp] theorem Rs.no_bind {α β : Type} (f : α → Rs β) : (Rs.no : Rs α).bind f = .no := rfl
/-- what all judgements share: the tables, the classes of errors, what is wanted of an error, how many slots are parameters -/
structure Dc where
  T : List (Addr × Str)
  cl : Xc → Addr
  E : XK
  n : Nat

def Sat {α : Type} (c : Dc) (M : Addr → Prop) (G H : Hp) (r : Rs α) (k : α → Prop) : Prop := match r with
  | .ok a => k a
  | .er x => ∀ G' H', Ext c.T M G H G' H' → c.E (.ref (c.cl x)) none H'
  | .no => False
section
variable {α β : Type} {c : Dc} {M M1 : Addr → Prop} {G H G1 H1 : Hp} {K : Frag} {ρ ρ1 : Rho} {σ σ1 : L2.St}
theorem Sat.shift {r : Rs α} {k k' : α → Prop} (h : Sat c M G H r k) (e : Ext c.T M G H G1 H1) (m : ∀ x, M1 x → M x ∨ H x = none) (hk : ∀ a, k a → k' a) : Sat c M1 G1 H1 r k' := by
  cases r with
  | ok a => exact hk a h
  | er x => exact fun G' H' e' => h G' H' (e.trans e' m)
  | no => exact h
theorem Sat.imp {r : Rs α} {k k' : α → Prop} (h : Sat c M G H r k) (hk : ∀ a, k a → k' a) : Sat c M G H r k' := by
  cases r with
  | ok a => exact hk a h
  | er x => exact h
  | no => exact h
/-- of a sequence: its first part, with what follows -/
theorem Sat.first {r : Rs α} {f : α → Rs β} {k : β → Prop} (h : Sat c M G H (r.bind f) k) : Sat c M G H r fun a => Sat c M G H (f a) k := by
  cases r with
  | ok a => exact h
  | er x => exact h
  | no => exact h
end
theorem Sat.on {α : Type} {c : Dc} {K : Frag} {n : Nat} {ρ ρ1 : Rho} {σ σ1 : L2.St} {G H G1 H1 : Hp} {r : Rs α} {k k' : α → Prop} (h : Sat c (Mu ρ σ) G H r k) (S : Stp K c.T n ρ σ G H ρ1 σ1 G1 H1) (hk : ∀ a, k a → k' a) : Sat c (Mu ρ1 σ1) G1 H1 r k' :=
  h.shift S.ext S.mm hk

/-! ### the judgements -/
abbrev FE := Rho → Rs (D × Rho)
abbrev FB := Rho → Rs (Bool × Rho)
/-- the reading that a function on data makes: an expression's, a test's, a new list's, arguments' -/
def tE (c : Dc) (K : Frag) (f : FE) : TE := fun σ H Q => ∃ (ρ : Rho) (G : Hp), Rel K c.T G ρ σ H ∧
  Sat c (Mu ρ σ) G H (f ρ) fun r => ∀ v G' H', Stp K c.T c.n ρ σ G H r.2 σ G' H' → Dq K G' v r.1 → Q v H'
def tT (c : Dc) (K : Frag) (f : FB) : TT := fun σ H Q => ∃ (ρ : Rho) (G : Hp), Rel K c.T G ρ σ H ∧
  Sat c (Mu ρ σ) G H (f ρ) fun r => ∀ G' H', Stp K c.T c.n ρ σ G H r.2 σ G' H' → Q r.1 H'
def tF (c : Dc) (K : Frag) (f : Rho → Rs (List D × Rho)) : TE := fun σ H Q => ∃ (ρ : Rho) (G : Hp), Rel K c.T G ρ σ H ∧
  Sat c (Mu ρ σ) G H (f ρ) fun r => ∀ p vs G' H', Stp K c.T c.n ρ σ G H r.2 σ G' H' → (∀ q, Mu r.2 σ q → q ≠ p) → (H p = none ∨ Mu ρ σ p) → G' p = none → H' p = some (.lst vs) → DqAll K G' vs r.1 → Q (.ref p) H'
def tAs (c : Dc) (K : Frag) (f : Rho → Rs (List D × Rho)) : TA := fun σ H Q => ∃ (ρ : Rho) (G : Hp), Rel K c.T G ρ σ H ∧
  Sat c (Mu ρ σ) G H (f ρ) fun r => ∀ vs G' H', Stp K c.T c.n ρ σ G H r.2 σ G' H' → DqAll K G' vs r.1 → Q vs H'
/-- an expression is the function f on data -/
def DE (c : Dc) (X : Cx) (e : Expr) (f : FE) : Prop := PE X e (tE c X.K f)
/-- a test -/
def DB (c : Dc) (X : Cx) (e : Expr) (f : FB) : Prop := PT X e (tT c X.K f)
/-- a chain of and, or -/
def DW (c : Dc) (X : Cx) (e : Expr) (f : FB) : Prop := PW X e (tT c X.K f)
/-- a new list that none but the asker holds -/
def DF (c : Dc) (X : Cx) (e : Expr) (f : Rho → Rs (List D × Rho)) : Prop := PE X e (tF c X.K f)
/-- arguments that are data -/
def DAs (c : Dc) (X : Cx) (es : List Expr) (f : Rho → Rs (List D × Rho)) : Prop := PA X es (tAs c X.K f)
theorem pe_weak {X : Cx} {e : Expr} {t t' : TE} (h : PE X e t) (k : ∀ σ H Q, t' σ H Q → t σ H Q) : PE X e t' := ⟨fun pins s σ H Q I q => h.run pins s σ H Q I (k σ H Q q)⟩
section
variable {c : Dc} {X : Cx} {e : Expr} {es : List Expr}
theorem DE.mk {f : FE} (h : ∃ t, PE X e t ∧ ∀ (ρ : Rho) (σ : L2.St) (G H : Hp) (Q : VK), Rel X.K c.T G ρ σ H →
    Sat c (Mu ρ σ) G H (f ρ) (fun r => ∀ v G' H', Stp X.K c.T c.n ρ σ G H r.2 σ G' H' → Dq X.K G' v r.1 → Q v H') → t σ H Q) : DE c X e f := by
  obtain ⟨t, p, k⟩ := h
  exact pe_weak p fun σ H Q ⟨ρ, G, R, h⟩ => k ρ σ G H Q R h
theorem DE.un {f : FE} (h : DE c X e f) : ∃ t, PE X e t ∧ ∀ (ρ : Rho) (σ : L2.St) (G H : Hp) (Q : VK), Rel X.K c.T G ρ σ H →
    Sat c (Mu ρ σ) G H (f ρ) (fun r => ∀ v G' H', Stp X.K c.T c.n ρ σ G H r.2 σ G' H' → Dq X.K G' v r.1 → Q v H') → t σ H Q := ⟨_, h, fun ρ σ G H Q R h => ⟨ρ, G, R, h⟩⟩
theorem DF.mk {f : Rho → Rs (List D × Rho)} (h : ∃ t, PE X e t ∧ ∀ (ρ : Rho) (σ : L2.St) (G H : Hp) (Q : VK), Rel X.K c.T G ρ σ H →
    Sat c (Mu ρ σ) G H (f ρ) (fun r => ∀ p vs G' H', Stp X.K c.T c.n ρ σ G H r.2 σ G' H' → (∀ q, Mu r.2 σ q → q ≠ p) → (H p = none ∨ Mu ρ σ p) → G' p = none → H' p = some (.lst vs) → DqAll X.K G' vs r.1 → Q (.ref p) H') → t σ H Q) : DF c X e f := by
  obtain ⟨t, p, k⟩ := h
  exact pe_weak p fun σ H Q ⟨ρ, G, R, h⟩ => k ρ σ G H Q R h
theorem DF.un {f : Rho → Rs (List D × Rho)} (h : DF c X e f) : ∃ t, PE X e t ∧ ∀ (ρ : Rho) (σ : L2.St) (G H : Hp) (Q : VK), Rel X.K c.T G ρ σ H →
    Sat c (Mu ρ σ) G H (f ρ) (fun r => ∀ p vs G' H', Stp X.K c.T c.n ρ σ G H r.2 σ G' H' → (∀ q, Mu r.2 σ q → q ≠ p) → (H p = none ∨ Mu ρ σ p) → G' p = none → H' p = some (.lst vs) → DqAll X.K G' vs r.1 → Q (.ref p) H') → t σ H Q := ⟨_, h, fun ρ σ G H Q R h => ⟨ρ, G, R, h⟩⟩
theorem DB.mk {f : FB} (h : ∃ t, PT X e t ∧ ∀ (ρ : Rho) (σ : L2.St) (G H : Hp) (Q : Bool → Hp → Prop), Rel X.K c.T G ρ σ H →
    Sat c (Mu ρ σ) G H (f ρ) (fun r => ∀ G' H', Stp X.K c.T c.n ρ σ G H r.2 σ G' H' → Q r.1 H') → t σ H Q) : DB c X e f := by
  obtain ⟨t, p, k⟩ := h
  exact ⟨fun pins s σ H Q I ⟨ρ, G, R, h⟩ => p.run pins s σ H Q I (k ρ σ G H Q R h)⟩
theorem DB.un {f : FB} (h : DB c X e f) : ∃ t, PT X e t ∧ ∀ (ρ : Rho) (σ : L2.St) (G H : Hp) (Q : Bool → Hp → Prop), Rel X.K c.T G ρ σ H →
    Sat c (Mu ρ σ) G H (f ρ) (fun r => ∀ G' H', Stp X.K c.T c.n ρ σ G H r.2 σ G' H' → Q r.1 H') → t σ H Q := ⟨_, h, fun ρ σ G H Q R h => ⟨ρ, G, R, h⟩⟩
theorem DW.mk {f : FB} (h : ∃ t, PW X e t ∧ ∀ (ρ : Rho) (σ : L2.St) (G H : Hp) (Q : Bool → Hp → Prop), Rel X.K c.T G ρ σ H →
    Sat c (Mu ρ σ) G H (f ρ) (fun r => ∀ G' H', Stp X.K c.T c.n ρ σ G H r.2 σ G' H' → Q r.1 H') → t σ H Q) : DW c X e f := by
  obtain ⟨t, p, k⟩ := h
  exact ⟨fun w pins s σ H Q I ⟨ρ, G, R, h⟩ => p.run w pins s σ H Q I (k ρ σ G H Q R h)⟩
theorem DW.un {f : FB} (h : DW c X e f) : ∃ t, PW X e t ∧ ∀ (ρ : Rho) (σ : L2.St) (G H : Hp) (Q : Bool → Hp → Prop), Rel X.K c.T G ρ σ H →
    Sat c (Mu ρ σ) G H (f ρ) (fun r => ∀ G' H', Stp X.K c.T c.n ρ σ G H r.2 σ G' H' → Q r.1 H') → t σ H Q := ⟨_, h, fun ρ σ G H Q R h => ⟨ρ, G, R, h⟩⟩
theorem DAs.mk {f : Rho → Rs (List D × Rho)} (h : ∃ t, PA X es t ∧ ∀ (ρ : Rho) (σ : L2.St) (G H : Hp) (Q : List V → Hp → Prop), Rel X.K c.T G ρ σ H →
    Sat c (Mu ρ σ) G H (f ρ) (fun r => ∀ vs G' H', Stp X.K c.T c.n ρ σ G H r.2 σ G' H' → DqAll X.K G' vs r.1 → Q vs H') → t σ H Q) : DAs c X es f := by
  obtain ⟨t, p, k⟩ := h
  exact ⟨fun pos pins s σ H Q I ⟨ρ, G, R, h⟩ => p.run pos pins s σ H Q I (k ρ σ G H Q R h)⟩
theorem DAs.un {f : Rho → Rs (List D × Rho)} (h : DAs c X es f) : ∃ t, PA X es t ∧ ∀ (ρ : Rho) (σ : L2.St) (G H : Hp) (Q : List V → Hp → Prop), Rel X.K c.T G ρ σ H →
    Sat c (Mu ρ σ) G H (f ρ) (fun r => ∀ vs G' H', Stp X.K c.T c.n ρ σ G H r.2 σ G' H' → DqAll X.K G' vs r.1 → Q vs H') → t σ H Q := ⟨_, h, fun ρ σ G H Q R h => ⟨ρ, G, R, h⟩⟩
end

/-! ### the first rules -/
section
variable {c : Dc} {X : Cx} {a b e : Expr} {es : List Expr} {fa fb f : FE} {ta tb : FB} {pos : Pos}
def retE (d : D) : FE := fun ρ => .ok (d, ρ)
theorem de_int {i : Int} {j : Nat} : DE c X (.Constant (.int i) j pos) (retE (.int i)) := DE.mk ⟨_, pe_int, fun ρ σ G H Q R h => h _ G H (.refl R) (.int i)⟩
theorem de_bl {i : Bool} {j : Nat} : DE c X (.Constant (.bool i) j pos) (retE (.bl i)) := DE.mk ⟨_, pe_bl, fun ρ σ G H Q R h => h _ G H (.refl R) (.bl i)⟩
theorem de_non {j : Nat} : DE c X (.Constant .none j pos) (retE .non) := DE.mk ⟨_, pe_non, fun ρ σ G H Q R h => h _ G H (.refl R) .non⟩
theorem de_str {i : Str} {j : Nat} : DE c X (.Constant (.str i) j pos) (retE (.str i)) := DE.mk ⟨_, pe_str, fun ρ σ G H Q R h => h _ G H (.refl R) (.str i)⟩
/-- the name in slot i, data -/
def varE (i : Nat) : FE := fun ρ => match ρ[i]? with
  | some (.da d) => .ok (d, ρ)
  | _ => .no
theorem de_of {e : Expr} {i : Nat} (h : PE X e (tVar i)) : DE c X e (varE i) := by
  refine DE.mk ⟨_, h, fun ρ σ G H Q R h => ?_⟩
  unfold varE at h
  split at h
  · rename_i d e1
    have hl := R.len
    have hi : i < σ.length := by rw [hl]; exact (List.getElem?_eq_some_iff.mp e1).1
    obtain ⟨v, e2, hd⟩ := R.sl i _ _ e1 (List.getElem?_eq_getElem hi)
    exact ⟨v, by rw [List.getElem?_eq_getElem hi, e2], h v G H (.refl R) hd⟩
  · exact h.elim
/-- a list of the frame's own, given up: it is data from now on -/
def moveE (i : Nat) : FE := fun ρ => match ρ[i]? with
  | some (.mu (.lst ds)) => .ok (.lst ds, ρ.set i .un)
  | _ => .no
end

section
variable {K : Frag} {T : List (Addr × Str)} {n : Nat} {ρ ρ' ρ1 : Rho} {σ σ' : L2.St} {G H G' H' G1 H1 : Hp} {p : Addr} {o : HO} {M : Addr → Prop}
/-- the slots stand over a greater part, where the frame's own things are as they were -/
theorem Rel.grow (R : Rel K T G ρ σ H) (w : Wf T G' H') (e : Same G G') (h : ∀ a, Mu ρ σ a → G' a = none ∧ H' a = H a) : Rel K T G' ρ σ H' :=
  ⟨w, R.len, fun i s u e1 e2 => (R.sl i s u e1 e2).mono e fun q eq ⟨m, em⟩ => by
    subst em; subst eq
    exact h q (mu_of e1 e2), R.ne⟩
/-- a thing of the frame's own joins the kept part -/
theorem Stp.freeze {i : Nat} {m : Mo} (R : Rel K T G ρ σ H) (e1 : ρ[i]? = some (.mu m)) (e2 : σ[i]? = some (some (.ref p))) (hp : H p = some o) (ht : ∀ ps, o ≠ .tbl ps) :
    Stp K T n ρ σ G H (ρ.set i .un) σ (upd G p o) H := by
  have mp : Mu ρ σ p := mu_of e1 e2
  have gp := R.muFree mp
  have sG : Same G (upd G p o) := fun a u h => by rw [upd_ne (ne_of_none h gp)]; exact h
  have w : Wf T (upd G p o) H := by
    refine ⟨fun a u h => ?_, R.wf.tabs, fun a ps h => ?_⟩
    · by_cases q : a = p
      · subst q; rw [upd_same] at h; cases h; exact hp
      · rw [upd_ne q] at h; exact R.wf.same _ _ h
    · by_cases q : a = p
      · subst q; rw [upd_same] at h; exact ht ps (Option.some.inj h)
      · rw [upd_ne q] at h; exact R.wf.ntb _ _ h
  have ne : ∀ a, Mu (ρ.set i .un) σ a → a ≠ p := fun a ⟨j, m', e3, e4⟩ z => by
    subst z
    rcases get_set e3 with ⟨_, q⟩ | ⟨q1, q⟩
    · cases q
    · exact q1 (R.ne j i m' m a q e1 e4 e2)
  refine ⟨R.forget.grow w sG fun a ha => ?_, ⟨w, sG, fun a u h _ _ => h, fun a hg hh hm => ?_, fun a h => h⟩, fun a h => .inl (mu_forget h), (Stp.forget (n := n) R).pr⟩
  · rw [upd_ne (ne a ha)]
    exact ⟨R.muFree (mu_forget ha), rfl⟩
  · rw [upd_ne fun z => hm (by rw [z]; exact mp)]; exact hg
theorem tabs_keep (h : LamX.Tabs T H) (k : ∀ b o, H b = some o → (∃ ps, o = .tbl ps) ∨ (∃ φ, o = .ext φ) → H' b = some o) : LamX.Tabs T H' := fun q hq => by
  obtain ⟨ps, h1, h2, h3⟩ := h q hq
  refine ⟨ps, k _ _ h1 (.inl ⟨ps, rfl⟩), h2, fun pos cv hc => ?_⟩
  obtain ⟨c, e1, e2⟩ := h3 pos cv hc
  exact ⟨c, e1, k _ _ e2 (.inr ⟨_, rfl⟩)⟩
/-- .. is changed -/
theorem Stp.write {i : Nat} {m m' : Mo} {u : HO} (R : Rel K T G ρ σ H) (e1 : ρ[i]? = some (.mu m)) (e2 : σ[i]? = some (some (.ref p))) (hp : H p = some u) (h1 : ∀ ps, u ≠ .tbl ps) (h2 : ∀ φ, u ≠ .ext φ)
    (hm : MoR K G (upd H p o) p m') : Stp K T n ρ σ G H (ρ.set i (.mu m')) σ G (upd H p o) := by
  have mp : Mu ρ σ p := mu_of e1 e2
  have gp := R.muFree mp
  have sH : ∀ a v, H a = some v → a ≠ p → upd H p o a = some v := fun a v h q => by rw [upd_ne q]; exact h
  have w : Wf T G (upd H p o) := ⟨fun a v h => sH a v (R.wf.same a v h) (ne_of_none h gp), tabs_keep R.wf.tabs fun b v h hv => sH b v h fun z => by
    subst z
    rw [hp] at h
    rcases hv with ⟨ps, e⟩ | ⟨φ, e⟩
    · exact h1 ps ((Option.some.inj h).trans e)
    · exact h2 φ ((Option.some.inj h).trans e), R.wf.ntb⟩
  have mu : ∀ (j : Nat) (m1 : Mo), (ρ.set i (.mu m'))[j]? = some (Sl.mu m1) → ∃ m2, ρ[j]? = some (Sl.mu m2) := fun j m1 e => by
    rcases get_set e with ⟨q, _⟩ | ⟨_, q⟩
    · subst q; exact ⟨m, e1⟩
    · exact ⟨m1, q⟩
  refine ⟨⟨w, by rw [List.length_set]; exact R.len, fun j s v e3 e4 => ?_, fun j k m1 m2 q e3 e4 e5 e6 => ?_⟩, ⟨w, Same.refl _, fun a v h nm _ => sH a v h fun z => nm (by rw [z]; exact mp), fun a hg _ _ => hg, fun a h z => ?_⟩, fun a ⟨j, m1, e3, e4⟩ => ?_, fun j m1 _ e => ⟨mu j m1 e, rfl⟩⟩
  · rcases get_set e3 with ⟨q1, q2⟩ | ⟨q1, q2⟩
    · subst q1 q2
      rw [e2] at e4
      cases e4
      exact ⟨p, rfl, hm⟩
    · refine (R.sl j s v q2 e4).mono (Same.refl _) fun q eq ⟨m1, em⟩ => ?_
      subst em; subst eq
      have n1 : q ≠ p := fun z => q1 (R.ne j i m1 m p q2 e1 (by rw [← z]; exact e4) e2)
      rw [upd_ne n1]
      exact ⟨R.muFree (mu_of q2 e4), rfl⟩
  · obtain ⟨m3, e3'⟩ := mu j m1 e3
    obtain ⟨m4, e4'⟩ := mu k m2 e4
    exact R.ne j k m3 m4 q e3' e4' e5 e6
  · by_cases q : a = p
    · subst q; rw [upd_same] at z; cases z
    · rw [upd_ne q] at z; exact h z
  · obtain ⟨m2, e5⟩ := mu j m1 e3
    exact .inl ⟨j, m2, e5, e4⟩
/-- a thing of one's own put into a slot -/
theorem Stp.setM {i : Nat} {m : Mo} (S : Stp K T n ρ σ G H ρ1 σ G1 H1) (hp : H p = none ∨ Mu ρ σ p) (hq : ∀ q, Mu ρ1 σ q → q ≠ p) (hi : n ≤ i) (hm : MoR K G1 H1 p m) :
    Stp K T n ρ σ G H (ρ1.set i (.mu m)) (σ.set i (some (.ref p))) G1 H1 := by
  have R := S.rel
  have mm : ∀ (j : Nat) (m' : Mo), (ρ1.set i (Sl.mu m))[j]? = some (Sl.mu m') → (j = i ∧ m' = m) ∨ (j ≠ i ∧ ρ1[j]? = some (Sl.mu m')) := fun j m' e => by
    rcases get_set e with ⟨q1, q⟩ | q
    · cases q; exact .inl ⟨q1, rfl⟩
    · exact .inr q
  have ss : ∀ (j : Nat) (u : Option V), j ≠ i → (σ.set i (some (.ref p)))[j]? = some u → σ[j]? = some u := fun j u hj e => by
    rcases get_set e with ⟨q, _⟩ | ⟨_, q⟩
    · exact absurd q hj
    · exact q
  have s1 : ∀ u, (σ.set i (some (.ref p)))[i]? = some u → u = some (.ref p) := fun u e => by
    rcases get_set e with ⟨_, q⟩ | ⟨q, _⟩
    · exact q
    · exact absurd rfl q
  have pick : ∀ (a : Addr) (j : Nat) (m' : Mo), (ρ1.set i (Sl.mu m))[j]? = some (Sl.mu m') → (σ.set i (some (.ref p)))[j]? = some (some (V.ref a)) → (j = i ∧ a = p) ∨ (j ≠ i ∧ Mu ρ1 σ a) := fun a j m' e1 e2 => by
    rcases mm j m' e1 with ⟨q, _⟩ | ⟨q, q2⟩
    · subst q
      have z := s1 _ e2
      cases z
      exact .inl ⟨rfl, rfl⟩
    · exact .inr ⟨q, j, m', q2, ss j _ q e2⟩
  refine ⟨⟨R.wf, by rw [List.length_set, List.length_set]; exact R.len, fun j s u e1 e2 => ?_, fun j k m' m'' a e1 e2 e3 e4 => ?_⟩, S.ext, fun a ⟨j, m', e1, e2⟩ => ?_, fun j m' hj e => ?_⟩
  · rcases get_set e1 with ⟨q1, q2⟩ | ⟨q1, q2⟩
    · subst q1 q2
      exact ⟨p, s1 _ e2, hm⟩
    · exact R.sl j s u q2 (ss j u q1 e2)
  · rcases pick a j m' e1 e3 with ⟨a1, a2⟩ | ⟨a1, a2⟩
    · rcases pick a k m'' e2 e4 with ⟨b1, _⟩ | ⟨_, b2⟩
      · rw [a1, b1]
      · exact absurd a2 (hq a b2)
    · rcases pick a k m'' e2 e4 with ⟨_, b2⟩ | ⟨b1, _⟩
      · exact absurd b2 (hq a a2)
      · rcases mm j m' e1 with ⟨q, _⟩ | ⟨_, q1⟩
        · exact absurd q a1
        · rcases mm k m'' e2 with ⟨q, _⟩ | ⟨_, q2⟩
          · exact absurd q b1
          · exact R.ne j k m' m'' a q1 q2 (ss _ _ a1 e3) (ss _ _ b1 e4)
  · rcases pick a j m' e1 e2 with ⟨_, q⟩ | ⟨_, q⟩
    · subst q
      rcases hp with h | h
      · exact .inr h
      · exact .inl h
    · exact S.mm a q
  · have ji : j ≠ i := fun z => by omega
    rcases mm j m' e with ⟨q, _⟩ | ⟨_, q⟩
    · exact absurd q ji
    · obtain ⟨x1, x2⟩ := S.pr j m' hj q
      exact ⟨x1, by rw [List.getElem?_set_ne (Ne.symm ji)]⟩
end

/-! ### operations on data that may not be told -/
def Rs.ofO {α : Type} : Option α → Rs α
  | some a => .ok a
  | none => .no
@[simp] theorem Rs.ofO_some {α : Type} (a : α) : Rs.ofO (some a) = .ok a := rfl
@[simp] theorem Rs.ofO_none {α : Type} : Rs.ofO (none : Option α) = .no := rfl
theorem Sat.opt {α β : Type} {c : Dc} {M : Addr → Prop} {G H : Hp} {o : Option α} {f : α → Rs β} {k : β → Prop} (h : Sat c M G H ((Rs.ofO o).bind f) k) : ∃ a, o = some a ∧ Sat c M G H (f a) k := by
  cases o with
  | none => exact h.elim
  | some a => exact ⟨a, rfl, h⟩
theorem Sat.optk {α : Type} {c : Dc} {M : Addr → Prop} {G H : Hp} {o : Option α} {k : α → Prop} (h : Sat c M G H (Rs.ofO o) k) : ∃ a, o = some a ∧ k a := by
  cases o with
  | none => exact h.elim
  | some a => exact ⟨a, rfl, h⟩
end DL

set_option maxHeartbeats 4000000
/-! DLb: expressions on data. -/
namespace DL
open PySem PySem.Spec PyProof.Rows L2

/-! ### data as the model's own trees, for == and in -/
mutual
def D.py : D → PyData
  | .non => .none
  | .bl b => .bool b
  | .int i => .int i
  | .str x => .str x
  | .tup xs => .tuple (D.pys xs)
  | .lst xs => .list (D.pys xs)
  | .scr ns => .list (ns.map .int)
  | .rng _ _ => .dict []
  | .dct _ _ => .dict []
def D.pys : List D → List PyData
  | [] => []
  | x :: xs => x.py :: D.pys xs
end
section
variable {K : Frag} {G H : Hp}
theorem dp_ints (ns : List Int) : DpAll K H (ns.map V.int) (ns.map PyData.int) := by
  induction ns with
  | nil => exact .nil
  | cons n r ih => exact .cons (.int n) ih
mutual
theorem Dq.dp (e : Same G H) : ∀ {v : V} {d : D}, Dq K G v d → d.py.canLay0 = true → Dp K H v d.py
  | _, _, .non, _ => .non
  | _, _, .bl b, _ => .bl b
  | _, _, .int i, _ => .int i
  | _, _, .str x, _ => .str x
  | _, _, .lst h a, q => .lst (.of (e _ _ h)) (DqAll.dp e a q)
  | _, _, .tup h a, q => .tup (sqT_mono e h) (DqAll.dp e a q)
  | _, _, .scr h, _ => .lst (e.seq h) (dp_ints _)
  | _, _, .rng h, q => by simp [D.py, PyData.canLay0] at q
  | _, _, .dct h k a, q => by simp [D.py, PyData.canLay0] at q
theorem DqAll.dp (e : Same G H) : ∀ {vs : List V} {ds : List D}, DqAll K G vs ds → PyData.canLayAll0 (D.pys ds) = true → DpAll K H vs (D.pys ds)
  | _, _, .nil, _ => .nil
  | _, _, .cons h t, q => by
    simp only [D.pys, PyData.canLayAll0, Bool.and_eq_true] at q
    exact .cons (Dq.dp e h q.1) (DqAll.dp e t q.2)
end
end
/-- == and in ask data of at most so great a depth, without dicts -/
def D.fit (d : D) : Bool := SeqAt.shaped d.py
theorem D.fit_lay {d : D} (h : d.fit = true) : d.py.canLay0 = true := SeqAt.canLay_of_shaped h
def eqD (x y : D) : Option Bool := if x.fit = true ∧ y.fit = true then some (PyData.eqv x.py y.py) else none

/-! ### operators -/
section
variable {c : Dc} {X : Cx} {a b e d : Expr} {es : List Expr} {fa fb fd f : FE} {ta tb tc : FB} {pos : Pos}
abbrev KD (c : Dc) (X : Cx) (ρ : Rho) (σ : L2.St) (G H : Hp) (Q : VK) (z : D) : Prop := ∀ v G' H', Stp X.K c.T c.n ρ σ G H ρ σ G' H' → Dq X.K G' v z → Q v H'
def OpD (c : Dc) (X : Cx) (r : R2) (g : D → D → Option D) : Prop := ∀ (ρ : Rho) (σ : L2.St) (G H : Hp) (x y : V) (dx dy z : D) (Q : VK), Rel X.K c.T G ρ σ H → Dq X.K G x dx → Dq X.K G y dy → g dx dy = some z → KD c X ρ σ G H Q z → r x y H Q
def UnD (c : Dc) (X : Cx) (r : V → Hp → VK → Prop) (g : D → Option D) : Prop := ∀ (ρ : Rho) (σ : L2.St) (G H : Hp) (x : V) (dx z : D) (Q : VK), Rel X.K c.T G ρ σ H → Dq X.K G x dx → g dx = some z → KD c X ρ σ G H Q z → r x H Q
def CallD (c : Dc) (X : Cx) (r : List V → Hp → VK → Prop) (g : List D → Option D) : Prop := ∀ (ρ : Rho) (σ : L2.St) (G H : Hp) (xs : List V) (dxs : List D) (z : D) (Q : VK), Rel X.K c.T G ρ σ H → DqAll X.K G xs dxs → g dxs = some z → KD c X ρ σ G H Q z → r xs H Q
/-- two operands, then an operation -/
def binE (g : D → D → Option D) (fa fb : FE) : FE := fun ρ => (fa ρ).bind fun r => (fb r.2).bind fun s => (Rs.ofO (g r.1 s.1)).bind fun z => .ok (z, s.2)
def unE (g : D → Option D) (fa : FE) : FE := fun ρ => (fa ρ).bind fun r => (Rs.ofO (g r.1)).bind fun z => .ok (z, r.2)
theorem tOp_of {r : R2} {g : D → D → Option D} {t1 t2 : TE} (hg : OpD c X r g)
    (ha : ∀ (ρ : Rho) (σ : L2.St) (G H : Hp) (Q : VK), Rel X.K c.T G ρ σ H → Sat c (Mu ρ σ) G H (fa ρ) (fun r => ∀ v G' H', Stp X.K c.T c.n ρ σ G H r.2 σ G' H' → Dq X.K G' v r.1 → Q v H') → t1 σ H Q)
    (hb : ∀ (ρ : Rho) (σ : L2.St) (G H : Hp) (Q : VK), Rel X.K c.T G ρ σ H → Sat c (Mu ρ σ) G H (fb ρ) (fun r => ∀ v G' H', Stp X.K c.T c.n ρ σ G H r.2 σ G' H' → Dq X.K G' v r.1 → Q v H') → t2 σ H Q) :
    ∀ (ρ : Rho) (σ : L2.St) (G H : Hp) (Q : VK), Rel X.K c.T G ρ σ H → Sat c (Mu ρ σ) G H (binE g fa fb ρ) (fun r => ∀ v G' H', Stp X.K c.T c.n ρ σ G H r.2 σ G' H' → Dq X.K G' v r.1 → Q v H') → tOp r t1 t2 σ H Q := by
  intro ρ σ G H Q R h
  refine ha ρ σ G H _ R (h.first.imp fun r1 h2 x G1 H1 S1 d1 => ?_)
  refine hb r1.2 σ G1 H1 _ S1.rel (h2.first.on S1 fun r2 h4 y G2 H2 S2 d2 => ?_)
  obtain ⟨z, ez, k⟩ := h4.opt
  exact hg r2.2 σ G2 H2 x y r1.1 r2.1 z Q S2.rel (d1.mono S2.ext.sG) d2 ez fun v G3 H3 S3 d3 => k v G3 H3 ((S1.trans S2).trans S3) d3
theorem de_op {op : Operator} {r : R2} {g : D → D → Option D} (ho : OpR X (binaryOp op) r) (hg : OpD c X r g) (ha : DE c X a fa) (hb : DE c X b fb) : DE c X (.BinOp a op b pos) (binE g fa fb) := by
  obtain ⟨t1, p1, k1⟩ := ha.un
  obtain ⟨t2, p2, k2⟩ := hb.un
  exact DE.mk ⟨_, pe_op ho p1 p2, tOp_of hg k1 k2⟩
theorem de_un {op : UnaryOp} {r : V → Hp → VK → Prop} {g : D → Option D} (ho : UnR X (unaryOp op) r) (hg : UnD c X r g) (ha : DE c X a fa) : DE c X (.UnaryOp op a pos) (unE g fa) := by
  obtain ⟨t1, p1, k1⟩ := ha.un
  refine DE.mk ⟨_, pe_un ho p1, fun ρ σ G H Q R h => ?_⟩
  refine k1 ρ σ G H _ R (h.first.imp fun r1 h2 x G1 H1 S1 d1 => ?_)
  obtain ⟨z, ez, k⟩ := h2.opt
  exact hg r1.2 σ G1 H1 x r1.1 z Q S1.rel d1 ez fun v G3 H3 S3 d3 => k v G3 H3 (S1.trans S3) d3
theorem OpD.or {r r' : R2} {g : D → D → Option D} (h : ∀ (ρ : Rho) (σ : L2.St) (G H : Hp) (x y : V) (dx dy z : D) (Q : VK), Rel X.K c.T G ρ σ H → Dq X.K G x dx → Dq X.K G y dy → g dx dy = some z → KD c X ρ σ G H Q z → r x y H Q ∨ r' x y H Q) :
    OpD c X (fun x y H Q => r x y H Q ∨ r' x y H Q) g := h

/-! ### + -/
def addD : D → D → Option D
  | .int i, .int j => some (.int (i + j))
  | .str x, .str y => if x.length + y.length ≤ sizeLine then some (.str (x ++ y)) else none
  | .lst xs, .lst ys => if xs.length + ys.length ≤ sizeLine then some (.lst (xs ++ ys)) else none
  | .tup xs, .tup ys => if xs.length + ys.length ≤ sizeLine then some (.tup (xs ++ ys)) else none
  | _, _ => none
theorem dq_int {K : Frag} {G : Hp} {v : V} {i : Int} (h : Dq K G v (.int i)) : v = .int i := by cases h; rfl
theorem dq_str {K : Frag} {G : Hp} {v : V} {i : Str} (h : Dq K G v (.str i)) : v = .str i := by cases h; rfl
theorem dq_bl {K : Frag} {G : Hp} {v : V} {i : Bool} (h : Dq K G v (.bl i)) : v = .bl i := by cases h; rfl
theorem dq_non {K : Frag} {G : Hp} {v : V} (h : Dq K G v .non) : v = .non := by cases h; rfl
theorem dq_lst {K : Frag} {G : Hp} {v : V} {ds : List D} (h : Dq K G v (.lst ds)) : ∃ a xs, v = .ref a ∧ G a = some (.lst xs) ∧ DqAll K G xs ds := by
  cases h with
  | lst h a => exact ⟨_, _, rfl, h, a⟩
theorem dq_tup {K : Frag} {G : Hp} {v : V} {ds : List D} (h : Dq K G v (.tup ds)) : ∃ a xs, v = .ref a ∧ SqT K G a xs ∧ DqAll K G xs ds := by
  cases h with
  | tup h a => exact ⟨_, _, rfl, h, a⟩
theorem addD_some {x y z : D} (h : addD x y = some z) : (∃ i j, x = .int i ∧ y = .int j ∧ z = .int (i + j)) ∨ (∃ s t, x = .str s ∧ y = .str t ∧ s.length + t.length ≤ sizeLine ∧ z = .str (s ++ t)) ∨
    (∃ s t, x = .lst s ∧ y = .lst t ∧ s.length + t.length ≤ sizeLine ∧ z = .lst (s ++ t)) ∨ (∃ s t, x = .tup s ∧ y = .tup t ∧ s.length + t.length ≤ sizeLine ∧ z = .tup (s ++ t)) := by
  unfold addD at h
  split at h
  · exact .inl ⟨_, _, rfl, rfl, (Option.some.inj h).symm⟩
  · split at h
    · exact .inr (.inl ⟨_, _, rfl, rfl, by assumption, (Option.some.inj h).symm⟩)
    · cases h
  · split at h
    · exact .inr (.inr (.inl ⟨_, _, rfl, rfl, by assumption, (Option.some.inj h).symm⟩))
    · cases h
  · split at h
    · exact .inr (.inr (.inr ⟨_, _, rfl, rfl, by assumption, (Option.some.inj h).symm⟩))
    · cases h
  · cases h
theorem nt_lst {xs : List V} : ∀ ps, HO.lst xs ≠ .tbl ps := fun _ z => nomatch z
theorem nt_tup {xs : List V} : ∀ ps, HO.tup xs ≠ .tbl ps := fun _ z => nomatch z
/-- a new tuple, a new list, of the kept part -/
theorem kd_newT {ρ : Rho} {σ : L2.St} {G H : Hp} {Q : VK} {ds : List D} {xs : List V} {p : Addr} (R : Rel X.K c.T G ρ σ H) (h : DqAll X.K G xs ds) (hp : H p = none) (k : KD c X ρ σ G H Q (.tup ds)) : Q (.ref p) (upd H p (.tup xs)) := by
  have S := Stp.new (n := c.n) R hp (o := .tup xs) nt_tup
  exact k _ _ _ S (.tup (.of upd_same) (h.mono S.ext.sG))
theorem kd_newL {ρ : Rho} {σ : L2.St} {G H : Hp} {Q : VK} {ds : List D} {xs : List V} {p : Addr} (R : Rel X.K c.T G ρ σ H) (h : DqAll X.K G xs ds) (hp : H p = none) (k : KD c X ρ σ G H Q (.lst ds)) : Q (.ref p) (upd H p (.lst xs)) := by
  have S := Stp.new (n := c.n) R hp (o := .lst xs) nt_lst
  exact k _ _ _ S (.lst upd_same (h.mono S.ext.sG))
def rAddS : R2 := fun x y H Q => ∃ i j, x = .str i ∧ y = .str j ∧ i.length + j.length ≤ sizeLine ∧ Q (.str (i ++ j)) H
theorem od_add : OpD c X (fun x y H Q => rI0 (fun i j => .int (i + j)) x y H Q ∨ (rAddS x y H Q ∨ (rCat x y H Q ∨ rCatA X.K x y H Q))) addD := by
  intro ρ σ G H x y dx dy z Q R hx hy e k
  rcases addD_some e with ⟨i, j, rfl, rfl, rfl⟩ | ⟨i, j, rfl, rfl, hz, rfl⟩ | ⟨i, j, rfl, rfl, hz, rfl⟩ | ⟨i, j, rfl, rfl, hz, rfl⟩
  · exact .inl ⟨i, j, dq_int hx, dq_int hy, k _ _ _ (.refl R) (.int _)⟩
  · exact .inr (.inl ⟨i, j, dq_str hx, dq_str hy, hz, k _ _ _ (.refl R) (.str _)⟩)
  · obtain ⟨l, xs, rfl, hl, hxs⟩ := dq_lst hx
    obtain ⟨m, ys, rfl, hm, hys⟩ := dq_lst hy
    exact .inr (.inr (.inl ⟨l, m, xs, ys, rfl, rfl, R.wf.same _ _ hl, R.wf.same _ _ hm, by rw [hxs.length, hys.length]; exact hz, fun p hp => kd_newL R (hxs.append hys) hp k⟩))
  · obtain ⟨l, xs, rfl, hl, hxs⟩ := dq_tup hx
    obtain ⟨m, ys, rfl, hm, hys⟩ := dq_tup hy
    refine .inr (.inr (.inr ⟨l, m, xs, ys, rfl, rfl, sqT_mono R.wf.same hl, sqT_mono R.wf.same hm, by rw [hxs.length, hys.length]; exact hz, fun q => ?_, fun _ q => ?_, fun _ _ p hp => kd_newT R (hxs.append hys) hp k⟩))
    · rw [hxs.nil_iff.mp q] at k
      exact k _ _ _ (.refl R) (.tup hm hys)
    · rw [hys.nil_iff.mp q, List.append_nil] at k
      exact k _ _ _ (.refl R) (.tup hl hxs)
theorem or_add : OpR X (binaryOp .Add) (fun x y H Q => rI0 (fun i j => .int (i + j)) x y H Q ∨ (rAddS x y H Q ∨ (rCat x y H Q ∨ rCatA X.K x y H Q))) := op_add.or (OpR.or (r := rAddS) op_add_str (op_cat.or op_catA))
theorem de_add (ha : DE c X a fa) (hb : DE c X b fb) : DE c X (.BinOp a .Add b pos) (binE addD fa fb) := de_op or_add od_add ha hb

/-! ### -, *, %, //, ** -/
def subD : D → D → Option D
  | .int i, .int j => some (.int (i - j))
  | _, _ => none
theorem od_sub : OpD c X (rI0 fun i j => .int (i - j)) subD := by
  intro ρ σ G H x y dx dy z Q R hx hy e k
  unfold subD at e
  split at e
  · cases e
    exact ⟨_, _, dq_int hx, dq_int hy, k _ _ _ (.refl R) (.int _)⟩
  · cases e
theorem de_sub (ha : DE c X a fa) (hb : DE c X b fb) : DE c X (.BinOp a .Sub b pos) (binE subD fa fb) := de_op op_sub od_sub ha hb
def modD : D → D → Option D
  | .int i, .int j => if 0 < j then some (.int (i % j)) else none
  | _, _ => none
theorem od_mod : OpD c X (rI (fun _ j => 0 < j) fun i j => .int (i % j)) modD := by
  intro ρ σ G H x y dx dy z Q R hx hy e k
  unfold modD at e
  split at e
  · split at e
    · cases e
      exact ⟨_, _, dq_int hx, dq_int hy, by assumption, k _ _ _ (.refl R) (.int _)⟩
    · cases e
  · cases e
theorem de_mod (ha : DE c X a fa) (hb : DE c X b fb) : DE c X (.BinOp a .Mod b pos) (binE modD fa fb) := de_op op_mod od_mod ha hb
def fdivD : D → D → Option D
  | .int i, .int j => if 0 < j ∧ j < 1073741824 then some (.int (i / j)) else none
  | _, _ => none
theorem od_fdiv : OpD c X (rI CDiv fun i j => .int (i / j)) fdivD := by
  intro ρ σ G H x y dx dy z Q R hx hy e k
  unfold fdivD at e
  split at e
  · split at e
    · cases e
      exact ⟨_, _, dq_int hx, dq_int hy, by assumption, k _ _ _ (.refl R) (.int _)⟩
    · cases e
  · cases e
theorem de_fdiv (ha : DE c X a fa) (hb : DE c X b fb) : DE c X (.BinOp a .FloorDiv b pos) (binE fdivD fa fb) := de_op op_fdiv od_fdiv ha hb
def powD : D → D → Option D
  | .int i, .int j => if 0 ≤ j ∧ j ≤ 1000000 ∧ i.natAbs < 2 ^ 64 then some (.int (i ^ j.toNat)) else none
  | _, _ => none
theorem od_pow : OpD c X (rI CPow fun i j => .int (i ^ j.toNat)) powD := by
  intro ρ σ G H x y dx dy z Q R hx hy e k
  unfold powD at e
  split at e
  · split at e
    · cases e
      exact ⟨_, _, dq_int hx, dq_int hy, by assumption, k _ _ _ (.refl R) (.int _)⟩
    · cases e
  · cases e
theorem de_pow (ha : DE c X a fa) (hb : DE c X b fb) : DE c X (.BinOp a .Pow b pos) (binE powD fa fb) := de_op op_pow od_pow ha hb
/-- a text so many times -/
def repS (x : Str) (n : Nat) : Str := ⟨(List.replicate n x.cps.toList).flatten.toArray⟩
theorem fold_rep (xs : Array Nat) : ∀ (n : Nat), (List.replicate n xs).foldl (· ++ ·) #[] = (List.replicate n xs.toList).flatten.toArray := by
  have key : ∀ (n : Nat) (acc : Array Nat), (List.replicate n xs).foldl (· ++ ·) acc = acc ++ (List.replicate n xs.toList).flatten.toArray := by
    intro n
    induction n with
    | zero => intro acc; simp
    | succ n ih =>
      intro acc
      rw [List.replicate_succ, List.foldl_cons, ih, List.replicate_succ, List.flatten_cons]
      apply Array.ext'
      simp
  intro n
  rw [key n #[]]
  simp
theorem repS_length (x : Str) (n : Nat) : (repS x n).length = n * x.length := by
  unfold repS Str.length
  simp
def rRepS : R2 := fun x y H Q => ∃ z n, x = .str z ∧ y = .int n ∧ -(2 ^ 63) ≤ n ∧ n < 2 ^ 63 ∧ z.length * n.toNat ≤ sizeLine ∧ Q (.str (repS z n.toNat)) H
theorem repS_zero (z : Str) : repS z 0 = Str.empty := rfl
theorem op_repS : OpR X (binaryOp .Mult) rRepS := by
  intro pins s σ H x y v u Q I rx ry h
  obtain ⟨z, n, rfl, rfl, h1, h2, h3, q⟩ := h
  obtain ⟨t, rfl⟩ := rx
  obtain ⟨t', rfl⟩ := ry
  have h4 : n.toNat * z.length ≤ sizeLine := by rw [Nat.mul_comm]; exact h3
  have hs : sizeLine = 16777216 := sizeLine_eq
  refine PySem.P.mul_str ?_ (fun c1 c2 => ?_) (fun c1 c2 => ?_) ?_
  · have a1 : ¬ n < -(2 ^ 63 : Int) := by omega
    have a2 : ¬ n ≥ 2 ^ 63 := by omega
    rw [decide_eq_false a1, decide_eq_false a2]; rfl
  · have hn : 1 ≤ n := by omega
    have e1 : ((n.toNat : Nat) : Int) = n := Int.toNat_of_nonneg (by omega)
    have e3 : (z.length : Int) * n ≤ 16777216 := by
      rw [← e1]
      have : ((z.length * n.toNat : Nat) : Int) ≤ 16777216 := by omega
      simpa using this
    have e2 : (z.length : Int) ≤ (2 ^ 63 - 1) / n := (Int.le_ediv_iff_mul_le (by omega)).mpr (by omega)
    omega
  · exact decide_eq_false (by show ¬ z.length * n.toNat > sizeLine; omega)
  · by_cases c1 : n < 1
    · rw [if_pos c1]
      have e : n.toNat = 0 := by omega
      rw [e, repS_zero] at q
      exact ⟨by decide, ⟨.str Str.empty, H, I.tok _, ⟨_, rfl⟩, q⟩⟩
    · rw [if_neg c1]
      by_cases c2 : (n == 1 || z.length == 0) = true
      · rw [if_pos c2]
        have e : repS z n.toNat = z := by
          unfold repS
          rcases Bool.or_eq_true_iff.mp c2 with c | c
          · have : n = 1 := by simpa using c
            subst this
            simp
          · have hz : z.length = 0 := by simpa using c
            have hz' : z.cps = #[] := Array.eq_empty_of_size_eq_zero hz
            obtain ⟨cps⟩ := z
            cases hz'
            simp
        rw [e] at q
        exact ⟨.str z, H, I, ⟨t, rfl⟩, q⟩
      · rw [if_neg c2]
        have e : (⟨(List.replicate n.toNat z.cps).foldl (· ++ ·) #[]⟩ : Str) = repS z n.toNat := by
          unfold repS
          rw [fold_rep]
        rw [e]
        exact ⟨by rw [repS_length]; exact h4, ⟨.str _, H, I.tok _, ⟨_, rfl⟩, q⟩⟩
def mulD : D → D → Option D
  | .int i, .int j => if (-(2 ^ 64) < i ∧ i < 2 ^ 64) ∨ (-(2 ^ 64) < j ∧ j < 2 ^ 64) then some (.int (i * j)) else none
  | .str z, .int n => if -(2 ^ 63) ≤ n ∧ n < 2 ^ 63 ∧ z.length * n.toNat ≤ sizeLine then some (.str (repS z n.toNat)) else none
  | .lst xs, .int k => if -(2 ^ 63) ≤ k ∧ k < 2 ^ 63 ∧ xs.length * k.toNat ≤ sizeLine then some (.lst (List.replicate k.toNat xs).flatten) else none
  | .tup xs, .int k => if xs.isEmpty = false ∧ 2 ≤ k ∧ k ≤ 1000 ∧ xs.length ≤ 1000 then some (.tup (List.replicate k.toNat xs).flatten) else none
  | _, _ => none
theorem DqAll.rep {K : Frag} {G : Hp} {vs : List V} {ds : List D} (h : DqAll K G vs ds) : ∀ n : Nat, DqAll K G (List.replicate n vs).flatten (List.replicate n ds).flatten
  | 0 => .nil
  | n + 1 => by
    rw [List.replicate_succ, List.replicate_succ, List.flatten_cons, List.flatten_cons]
    exact h.append (DqAll.rep h n)
theorem od_mul : OpD c X (fun x y H Q => rI CMul (fun i j => .int (i * j)) x y H Q ∨ (rRepS x y H Q ∨ (rRep x y H Q ∨ rRepT X.K x y H Q))) mulD := by
  intro ρ σ G H x y dx dy z Q R hx hy e k
  unfold mulD at e
  split at e
  · split at e
    · cases e
      exact .inl ⟨_, _, dq_int hx, dq_int hy, by assumption, k _ _ _ (.refl R) (.int _)⟩
    · cases e
  · split at e
    · rename_i h
      cases e
      exact .inr (.inl ⟨_, _, dq_str hx, dq_int hy, h.1, h.2.1, h.2.2, k _ _ _ (.refl R) (.str _)⟩)
    · cases e
  · split at e
    · rename_i h
      cases e
      obtain ⟨l, xs, rfl, hl, hxs⟩ := dq_lst hx
      exact .inr (.inr (.inl ⟨l, _, xs, rfl, dq_int hy, R.wf.same _ _ hl, h.1, h.2.1, by rw [hxs.length]; exact h.2.2, fun p hp => kd_newL R (hxs.rep _) hp k⟩))
    · cases e
  · split at e
    · rename_i h
      cases e
      obtain ⟨l, xs, rfl, hl, hxs⟩ := dq_tup hx
      refine .inr (.inr (.inr ⟨l, _, xs, rfl, dq_int hy, sqT_mono R.wf.same hl, fun z => ?_, h.2.1, h.2.2.1, by rw [hxs.length]; exact h.2.2.2, fun p hp => kd_newT R (hxs.rep _) hp k⟩))
      have := hxs.nil_iff.mp z
      rw [this] at h
      exact Bool.noConfusion h.1
    · cases e
  · cases e
theorem or_mul : OpR X (binaryOp .Mult) (fun x y H Q => rI CMul (fun i j => .int (i * j)) x y H Q ∨ (rRepS x y H Q ∨ (rRep x y H Q ∨ rRepT X.K x y H Q))) := op_mul.or (op_repS.or (op_rep.or op_repT))
theorem de_mul (ha : DE c X a fa) (hb : DE c X b fb) : DE c X (.BinOp a .Mult b pos) (binE mulD fa fb) := de_op or_mul od_mul ha hb
def negD : D → Option D
  | .int i => some (.int (-i))
  | _ => none
theorem de_neg (ha : DE c X a fa) : DE c X (.UnaryOp .USub a pos) (unE negD fa) := by
  refine de_un un_neg (fun ρ σ G H x dx z Q R hx e k => ?_) ha
  unfold negD at e
  split at e
  · cases e
    exact ⟨_, dq_int hx, k _ _ _ (.refl R) (.int _)⟩
  · cases e

/-! ### comparisons -/
abbrev Hu (X : Cx) : Prop := X.A.units + 200 < cLine
theorem de_cmp {op : CmpOp} {r : R2} {g : D → D → Option D} (ho : OpR X (compareOp op) r) (hg : OpD c X r g) (ha : DE c X a fa) (hb : DE c X b fb) (hm : behindInMarks op b = false) : DE c X (.Compare a [op] [b] pos) (binE g fa fb) := by
  obtain ⟨t1, p1, k1⟩ := ha.un
  obtain ⟨t2, p2, k2⟩ := hb.un
  exact DE.mk ⟨_, pe_cmpR ho p1 p2 hm, tOp_of hg k1 k2⟩
/-- a value that is True or False, as a test -/
def tstB (f : FE) : FB := fun ρ => (f ρ).bind fun r => match r.1 with
  | .bl k => .ok (k, r.2)
  | _ => .no
theorem tst_of {f : FE} {t : TE} (h : ∀ (ρ : Rho) (σ : L2.St) (G H : Hp) (Q : VK), Rel X.K c.T G ρ σ H → Sat c (Mu ρ σ) G H (f ρ) (fun r => ∀ v G' H', Stp X.K c.T c.n ρ σ G H r.2 σ G' H' → Dq X.K G' v r.1 → Q v H') → t σ H Q) :
    ∀ (ρ : Rho) (σ : L2.St) (G H : Hp) (Q : Bool → Hp → Prop), Rel X.K c.T G ρ σ H → Sat c (Mu ρ σ) G H (tstB f ρ) (fun r => ∀ G' H', Stp X.K c.T c.n ρ σ G H r.2 σ G' H' → Q r.1 H') → tTest t σ H Q := by
  intro ρ σ G H Q R h'
  refine h ρ σ G H _ R (h'.first.imp fun r h2 v G' H' S d => ?_)
  obtain ⟨dv, ρ'⟩ := r
  cases dv <;> first
    | exact ⟨_, dq_bl d, h2 G' H' S⟩
    | exact h2.elim
theorem db_cmp {op : CmpOp} {r : R2} {g : D → D → Option D} (ho : OpR X (compareOp op) r) (hg : OpD c X r g) (ha : DE c X a fa) (hb : DE c X b fb) (hm : behindInMarks op b = false) : DB c X (.Compare a [op] [b] pos) (tstB (binE g fa fb)) := by
  obtain ⟨t1, p1, k1⟩ := ha.un
  obtain ⟨t2, p2, k2⟩ := hb.un
  exact DB.mk ⟨_, pt_cmpR ho p1 p2 hm, tst_of (tOp_of hg k1 k2)⟩
/-- a call, a name, a subscript .. that is True or False, as a test -/
theorem db_val (ha : DE c X a fa) (he : ∀ whole, isTrue a X.env whole = (do let v ← whole; standAt a.pos; holding [v] (truthy v)) := by intro _; rfl) : DB c X a (tstB fa) := by
  obtain ⟨t1, p1, k1⟩ := ha.un
  exact DB.mk ⟨_, pt_val p1 he, tst_of k1⟩

def ltD : D → D → Option D
  | .int i, .int j => some (.bl (decide (i < j)))
  | .str x, .str y => some (.bl (decide (x.cps.toList < y.cps.toList)))
  | _, _ => none
def leD : D → D → Option D
  | .int i, .int j => some (.bl (decide (i ≤ j)))
  | _, _ => none
def gtD : D → D → Option D
  | .int i, .int j => some (.bl (decide (j < i)))
  | _, _ => none
def geD : D → D → Option D
  | .int i, .int j => some (.bl (decide (j ≤ i)))
  | _, _ => none
def rLtS : R2 := fun x y H Q => ∃ i j, x = .str i ∧ y = .str j ∧ Q (.bl (decide (i.cps.toList < j.cps.toList))) H
theorem od_lt : OpD c X (fun x y H Q => rI0 (fun i j => .bl (decide (i < j))) x y H Q ∨ rLtS x y H Q) ltD := by
  intro ρ σ G H x y dx dy z Q R hx hy e k
  unfold ltD at e
  split at e
  · cases e
    exact .inl ⟨_, _, dq_int hx, dq_int hy, k _ _ _ (.refl R) (.bl _)⟩
  · cases e
    exact .inr ⟨_, _, dq_str hx, dq_str hy, k _ _ _ (.refl R) (.bl _)⟩
  · cases e
theorem or_ltS : OpR X (compareOp .Lt) rLtS := op_lt_str
theorem or_lt : OpR X (compareOp .Lt) (fun x y H Q => rI0 (fun i j => .bl (decide (i < j))) x y H Q ∨ rLtS x y H Q) := op_lt.or or_ltS
theorem od_le : OpD c X (rI0 fun i j => .bl (decide (i ≤ j))) leD := by
  intro ρ σ G H x y dx dy z Q R hx hy e k
  unfold leD at e
  split at e
  · cases e; exact ⟨_, _, dq_int hx, dq_int hy, k _ _ _ (.refl R) (.bl _)⟩
  · cases e
theorem od_gt : OpD c X (rI0 fun i j => .bl (decide (j < i))) gtD := by
  intro ρ σ G H x y dx dy z Q R hx hy e k
  unfold gtD at e
  split at e
  · cases e; exact ⟨_, _, dq_int hx, dq_int hy, k _ _ _ (.refl R) (.bl _)⟩
  · cases e
theorem od_ge : OpD c X (rI0 fun i j => .bl (decide (j ≤ i))) geD := by
  intro ρ σ G H x y dx dy z Q R hx hy e k
  unfold geD at e
  split at e
  · cases e; exact ⟨_, _, dq_int hx, dq_int hy, k _ _ _ (.refl R) (.bl _)⟩
  · cases e
theorem de_lt (ha : DE c X a fa) (hb : DE c X b fb) : DE c X (.Compare a [.Lt] [b] pos) (binE ltD fa fb) := de_cmp or_lt od_lt ha hb (nomark _)
theorem de_le (ha : DE c X a fa) (hb : DE c X b fb) : DE c X (.Compare a [.LtE] [b] pos) (binE leD fa fb) := de_cmp op_le od_le ha hb (nomark _)
theorem de_gt (ha : DE c X a fa) (hb : DE c X b fb) : DE c X (.Compare a [.Gt] [b] pos) (binE gtD fa fb) := de_cmp op_gt od_gt ha hb (nomark _)
theorem de_ge (ha : DE c X a fa) (hb : DE c X b fb) : DE c X (.Compare a [.GtE] [b] pos) (binE geD fa fb) := de_cmp op_ge od_ge ha hb (nomark _)
theorem db_lt (ha : DE c X a fa) (hb : DE c X b fb) : DB c X (.Compare a [.Lt] [b] pos) (tstB (binE ltD fa fb)) := db_cmp or_lt od_lt ha hb (nomark _)
theorem db_le (ha : DE c X a fa) (hb : DE c X b fb) : DB c X (.Compare a [.LtE] [b] pos) (tstB (binE leD fa fb)) := db_cmp op_le od_le ha hb (nomark _)
theorem db_gt (ha : DE c X a fa) (hb : DE c X b fb) : DB c X (.Compare a [.Gt] [b] pos) (tstB (binE gtD fa fb)) := db_cmp op_gt od_gt ha hb (nomark _)
theorem db_ge (ha : DE c X a fa) (hb : DE c X b fb) : DB c X (.Compare a [.GtE] [b] pos) (tstB (binE geD fa fb)) := db_cmp op_ge od_ge ha hb (nomark _)
/-- == and != -/
def eqE (x y : D) : Option D := (eqD x y).map .bl
def neE (x y : D) : Option D := (eqD x y).map fun b => .bl (!b)
theorem eqD_some {x y : D} {b : Bool} (h : eqD x y = some b) : x.fit = true ∧ y.fit = true ∧ b = PyData.eqv x.py y.py := by
  unfold eqD at h
  split at h
  · rename_i q
    exact ⟨q.1, q.2, (Option.some.inj h).symm⟩
  · cases h
theorem od_eq : OpD c X (rEqD X.K) eqE := by
  intro ρ σ G H x y dx dy z Q R hx hy e k
  obtain ⟨b, e1, rfl⟩ := Option.map_eq_some_iff.mp e
  obtain ⟨h1, h2, rfl⟩ := eqD_some e1
  exact ⟨_, _, hx.dp R.wf.same (D.fit_lay h1), hy.dp R.wf.same (D.fit_lay h2), h1, h2, k _ _ _ (.refl R) (.bl _)⟩
theorem od_ne : OpD c X (rNeD X.K) neE := by
  intro ρ σ G H x y dx dy z Q R hx hy e k
  obtain ⟨b, e1, rfl⟩ := Option.map_eq_some_iff.mp e
  obtain ⟨h1, h2, rfl⟩ := eqD_some e1
  exact ⟨_, _, hx.dp R.wf.same (D.fit_lay h1), hy.dp R.wf.same (D.fit_lay h2), h1, h2, k _ _ _ (.refl R) (.bl _)⟩
theorem hu64 (hu : Hu X) : X.A.units + 64 < cLine := by have : X.A.units + 200 < cLine := hu; omega
theorem hu65 (hu : Hu X) : X.A.units + 65 < cLine := by have : X.A.units + 200 < cLine := hu; omega
theorem de_eq (hu : Hu X) (ha : DE c X a fa) (hb : DE c X b fb) : DE c X (.Compare a [.Eq] [b] pos) (binE eqE fa fb) := de_cmp (op_eqD (hu64 hu)) od_eq ha hb (nomark _)
theorem de_ne (hu : Hu X) (ha : DE c X a fa) (hb : DE c X b fb) : DE c X (.Compare a [.NotEq] [b] pos) (binE neE fa fb) := de_cmp (op_neD (hu64 hu)) od_ne ha hb (nomark _)
theorem db_eq (hu : Hu X) (ha : DE c X a fa) (hb : DE c X b fb) : DB c X (.Compare a [.Eq] [b] pos) (tstB (binE eqE fa fb)) := db_cmp (op_eqD (hu64 hu)) od_eq ha hb (nomark _)
theorem db_ne (hu : Hu X) (ha : DE c X a fa) (hb : DE c X b fb) : DB c X (.Compare a [.NotEq] [b] pos) (tstB (binE neE fa fb)) := db_cmp (op_neD (hu64 hu)) od_ne ha hb (nomark _)
/-- is, is not: of None, True, False -/
def isD : D → D → Option Bool
  | .non, .non => some true
  | .bl _, .non | .int _, .non | .str _, .non | .tup _, .non | .lst _, .non | .scr _, .non | .rng _ _, .non | .dct _ _, .non => some false
  | .bl a, .bl b => some (decide (a = b))
  | .int _, .bl _ | .str _, .bl _ | .non, .bl _ => some false
  | _, _ => none
def isE (x y : D) : Option D := (isD x y).map .bl
def isNotE (x y : D) : Option D := (isD x y).map fun b => .bl (!b)
def plV : V → Bool
  | .int _ => true
  | .str _ => true
  | .non => true
  | _ => false
def rIsP (neg : Bool) : R2 := fun x y H Q => ∃ b, y = .bl b ∧ plV x = true ∧ Q (.bl neg) H
theorem op_isP : OpR X (compareOp .Is) (rIsP false) := by
  intro pins s σ H x y v u Q I rx ry h
  obtain ⟨b, rfl, hp, q⟩ := h
  cases (show u = Value.bool b from ry)
  cases x with
  | int i => obtain ⟨t, rfl⟩ := rx; exact wpAny_is_other rfl (fun z => nomatch z) ⟨.bl false, H, I, rfl, q⟩
  | str i => obtain ⟨t, rfl⟩ := rx; exact wpAny_is_other rfl (fun z => nomatch z) ⟨.bl false, H, I, rfl, q⟩
  | non => cases (show v = Value.none from rx); exact wpAny_is_other rfl (fun z => nomatch z) ⟨.bl false, H, I, rfl, q⟩
  | _ => cases hp
theorem op_isNotP : OpR X (compareOp .IsNot) (rIsP true) := by
  intro pins s σ H x y v u Q I rx ry h
  obtain ⟨b, rfl, hp, q⟩ := h
  cases (show u = Value.bool b from ry)
  cases x with
  | int i => obtain ⟨t, rfl⟩ := rx; exact wpAny_isNot_other rfl (fun z => nomatch z) ⟨.bl true, H, I, rfl, q⟩
  | str i => obtain ⟨t, rfl⟩ := rx; exact wpAny_isNot_other rfl (fun z => nomatch z) ⟨.bl true, H, I, rfl, q⟩
  | non => cases (show v = Value.none from rx); exact wpAny_isNot_other rfl (fun z => nomatch z) ⟨.bl true, H, I, rfl, q⟩
  | _ => cases hp
def rIs0 : R2 := fun x y H Q => y = .non ∧ Q (.bl (decide (x = .non))) H
def rIsN0 : R2 := fun x y H Q => y = .non ∧ Q (.bl (!decide (x = .non))) H
def rIsA : R2 := fun x y H Q => rIs0 x y H Q ∨ (rIsB x y H Q ∨ rIsP false x y H Q)
def rIsNA : R2 := fun x y H Q => rIsN0 x y H Q ∨ (rNotB x y H Q ∨ rIsP true x y H Q)
theorem or_is : OpR X (compareOp .Is) rIsA := OpR.or (r := rIs0) op_isN (op_isBl.or op_isP)
theorem or_isNot : OpR X (compareOp .IsNot) rIsNA := OpR.or (r := rIsN0) op_notN (op_notBl.or op_isNotP)
theorem od_is : OpD c X rIsA isE := by
  intro ρ σ G H x y dx dy z Q R hx hy e k
  obtain ⟨b, e1, rfl⟩ := Option.map_eq_some_iff.mp e
  have k' := k _ _ _ (.refl R) (.bl _)
  cases hy <;> cases hx <;> simp only [isD, Option.some.injEq, reduceCtorEq] at e1 <;> subst e1 <;> first
    | exact .inl ⟨rfl, by simpa using k'⟩
    | exact .inr (.inl ⟨_, _, rfl, rfl, k'⟩)
    | exact .inr (.inr ⟨_, rfl, rfl, k'⟩)
theorem od_isNot : OpD c X rIsNA isNotE := by
  intro ρ σ G H x y dx dy z Q R hx hy e k
  obtain ⟨b, e1, rfl⟩ := Option.map_eq_some_iff.mp e
  have k' := k _ _ _ (.refl R) (.bl _)
  cases hy <;> cases hx <;> simp only [isD, Option.some.injEq, reduceCtorEq] at e1 <;> subst e1 <;> first
    | exact .inl ⟨rfl, by simpa using k'⟩
    | exact .inr (.inl ⟨_, _, rfl, rfl, k'⟩)
    | exact .inr (.inr ⟨_, rfl, rfl, k'⟩)
theorem de_is (ha : DE c X a fa) (hb : DE c X b fb) : DE c X (.Compare a [.Is] [b] pos) (binE isE fa fb) := de_cmp or_is od_is ha hb (nomark _)
theorem de_isNot (ha : DE c X a fa) (hb : DE c X b fb) : DE c X (.Compare a [.IsNot] [b] pos) (binE isNotE fa fb) := de_cmp or_isNot od_isNot ha hb (nomark _)
theorem db_is (ha : DE c X a fa) (hb : DE c X b fb) : DB c X (.Compare a [.Is] [b] pos) (tstB (binE isE fa fb)) := db_cmp or_is od_is ha hb (nomark _)
theorem db_isNot (ha : DE c X a fa) (hb : DE c X b fb) : DB c X (.Compare a [.IsNot] [b] pos) (tstB (binE isNotE fa fb)) := db_cmp or_isNot od_isNot ha hb (nomark _)
end
end DL

set_option maxHeartbeats 4000000
/-! DLc: and, or, displays, calls of built-ins, items and slices on data. -/
namespace DL
open PySem PySem.Spec PyProof.Rows L2
section
variable {c : Dc} {X : Cx} {a b e d : Expr} {es rest : List Expr} {fa fb fd f : FE} {ta tb tc : FB} {fas : Rho → Rs (List D × Rho)} {pos : Pos}

/-! ### and, or, not, x if t else y, chains -/
def andE (fa fb : FE) : FE := fun ρ => (fa ρ).bind fun r => match r.1 with
  | .bl true => fb r.2
  | .bl false => .ok (.bl false, r.2)
  | _ => .no
def orE (fa fb : FE) : FE := fun ρ => (fa ρ).bind fun r => match r.1 with
  | .bl true => .ok (.bl true, r.2)
  | .bl false => fb r.2
  | _ => .no
def notE (fa : FE) : FE := fun ρ => (fa ρ).bind fun r => match r.1 with
  | .bl k => .ok (.bl (!k), r.2)
  | _ => .no
theorem de_one {op : BoolOp} (ha : DE c X a fa) : DE c X (.BoolOp op [a] pos) fa := by
  obtain ⟨t, p, k⟩ := ha.un
  exact DE.mk ⟨t, pe_one p, k⟩
theorem de_and (ha : DE c X a fa) (hb : DE c X (.BoolOp .And (b :: rest) pos) fb) : DE c X (.BoolOp .And (a :: b :: rest) pos) (andE fa fb) := by
  obtain ⟨t1, p1, k1⟩ := ha.un
  obtain ⟨t2, p2, k2⟩ := hb.un
  refine DE.mk ⟨_, pe_and p1 p2, fun ρ σ G H Q R h => ?_⟩
  refine k1 ρ σ G H _ R (h.first.imp fun r h2 v G1 H1 S d => ?_)
  obtain ⟨dv, ρ1⟩ := r
  cases dv with
  | bl k =>
    cases k with
    | true => exact ⟨true, dq_bl d, iteT (k2 ρ1 σ G1 H1 Q S.rel (h2.on S fun r h3 v G2 H2 S2 d2 => h3 v G2 H2 (S.trans S2) d2))⟩
    | false => exact ⟨false, dq_bl d, iteF (h2 _ G1 H1 S (.bl false))⟩
  | _ => exact h2.elim
theorem de_or (ha : DE c X a fa) (hb : DE c X (.BoolOp .Or (b :: rest) pos) fb) : DE c X (.BoolOp .Or (a :: b :: rest) pos) (orE fa fb) := by
  obtain ⟨t1, p1, k1⟩ := ha.un
  obtain ⟨t2, p2, k2⟩ := hb.un
  refine DE.mk ⟨_, pe_or p1 p2, fun ρ σ G H Q R h => ?_⟩
  refine k1 ρ σ G H _ R (h.first.imp fun r h2 v G1 H1 S d => ?_)
  obtain ⟨dv, ρ1⟩ := r
  cases dv with
  | bl k =>
    cases k with
    | false => exact ⟨false, dq_bl d, iteF (k2 ρ1 σ G1 H1 Q S.rel (h2.on S fun r h3 v G2 H2 S2 d2 => h3 v G2 H2 (S.trans S2) d2))⟩
    | true => exact ⟨true, dq_bl d, iteT (h2 _ G1 H1 S (.bl true))⟩
  | _ => exact h2.elim
theorem de_not (ha : DE c X a fa) : DE c X (.UnaryOp .Not a pos) (notE fa) := by
  obtain ⟨t1, p1, k1⟩ := ha.un
  refine DE.mk ⟨_, pe_not p1, fun ρ σ G H Q R h => ?_⟩
  refine k1 ρ σ G H _ R (h.first.imp fun r h2 v G1 H1 S d => ?_)
  obtain ⟨dv, ρ1⟩ := r
  cases dv with
  | bl k => exact ⟨k, dq_bl d, h2 _ G1 H1 S (.bl _)⟩
  | _ => exact h2.elim
/-- tests -/
def andB (t u : FB) : FB := fun ρ => (t ρ).bind fun r => if r.1 = true then u r.2 else .ok (false, r.2)
def orB (t u : FB) : FB := fun ρ => (t ρ).bind fun r => if r.1 = true then .ok (true, r.2) else u r.2
def notB (t : FB) : FB := fun ρ => (t ρ).bind fun r => .ok (!r.1, r.2)
theorem dw_and1 (ha : DB c X a ta) : DW c X (.BoolOp .And [a] pos) ta := by
  obtain ⟨t, p, k⟩ := ha.un
  exact DW.mk ⟨t, pw_and1 p, k⟩
theorem dw_or1 (ha : DB c X a ta) : DW c X (.BoolOp .Or [a] pos) ta := by
  obtain ⟨t, p, k⟩ := ha.un
  exact DW.mk ⟨t, pw_or1 p, k⟩
theorem dw_and (ha : DB c X a ta) (hb : DW c X (.BoolOp .And (b :: rest) pos) tb) : DW c X (.BoolOp .And (a :: b :: rest) pos) (andB ta tb) := by
  obtain ⟨t1, p1, k1⟩ := ha.un
  obtain ⟨t2, p2, k2⟩ := hb.un
  refine DW.mk ⟨_, pw_and p1 p2, fun ρ σ G H Q R h => ?_⟩
  refine k1 ρ σ G H _ R (h.first.imp fun r h2 G1 H1 S => ?_)
  obtain ⟨k, ρ1⟩ := r
  cases k with
  | true =>
    rw [if_pos rfl] at h2
    exact iteT (k2 ρ1 σ G1 H1 Q S.rel (h2.on S fun r h3 G2 H2 S2 => h3 G2 H2 (S.trans S2)))
  | false =>
    rw [if_neg Bool.false_ne_true] at h2
    exact iteF (h2 G1 H1 S)
theorem dw_or (ha : DB c X a ta) (hb : DW c X (.BoolOp .Or (b :: rest) pos) tb) : DW c X (.BoolOp .Or (a :: b :: rest) pos) (orB ta tb) := by
  obtain ⟨t1, p1, k1⟩ := ha.un
  obtain ⟨t2, p2, k2⟩ := hb.un
  refine DW.mk ⟨_, pw_or p1 p2, fun ρ σ G H Q R h => ?_⟩
  refine k1 ρ σ G H _ R (h.first.imp fun r h2 G1 H1 S => ?_)
  obtain ⟨k, ρ1⟩ := r
  cases k with
  | false =>
    rw [if_neg Bool.false_ne_true] at h2
    exact iteF (k2 ρ1 σ G1 H1 Q S.rel (h2.on S fun r h3 G2 H2 S2 => h3 G2 H2 (S.trans S2)))
  | true =>
    rw [if_pos rfl] at h2
    exact iteT (h2 G1 H1 S)
theorem db_w (h : DW c X a ta) : DB c X a ta := by
  obtain ⟨t, p, k⟩ := h.un
  exact DB.mk ⟨t, p.pt, k⟩
theorem db_not (ha : DB c X a ta) : DB c X (.UnaryOp .Not a pos) (notB ta) := by
  obtain ⟨t1, p1, k1⟩ := ha.un
  refine DB.mk ⟨_, pt_not p1, fun ρ σ G H Q R h => ?_⟩
  exact k1 ρ σ G H _ R (h.first.imp fun r h2 G1 H1 S => h2 G1 H1 S)
def ifE (t : FB) (fa fb : FE) : FE := fun ρ => (t ρ).bind fun r => if r.1 = true then fa r.2 else fb r.2
theorem de_if (ht : DB c X d ta) (ha : DE c X a fa) (hb : DE c X b fb) : DE c X (.IfExp d a b pos) (ifE ta fa fb) := by
  obtain ⟨t0, p0, k0⟩ := ht.un
  obtain ⟨t1, p1, k1⟩ := ha.un
  obtain ⟨t2, p2, k2⟩ := hb.un
  refine DE.mk ⟨_, pe_ifExp p0 p1 p2, fun ρ σ G H Q R h => ?_⟩
  refine k0 ρ σ G H _ R (h.first.imp fun r h2 G1 H1 S => ?_)
  obtain ⟨k, ρ1⟩ := r
  cases k with
  | true =>
    rw [if_pos rfl] at h2
    exact iteT (k1 ρ1 σ G1 H1 Q S.rel (h2.on S fun r h3 v G2 H2 S2 d2 => h3 v G2 H2 (S.trans S2) d2))
  | false =>
    rw [if_neg Bool.false_ne_true] at h2
    exact iteF (k2 ρ1 σ G1 H1 Q S.rel (h2.on S fun r h3 v G2 H2 S2 d2 => h3 v G2 H2 (S.trans S2) d2))
/-- a op b op' d: b once -/
def chainE (g g' : D → D → Option D) (fa fb fd : FE) : FE := fun ρ => (fa ρ).bind fun r => (fb r.2).bind fun s => (Rs.ofO (g r.1 s.1)).bind fun z => match z with
  | .bl true => (fd s.2).bind fun u => (Rs.ofO (g' s.1 u.1)).bind fun z => .ok (z, u.2)
  | .bl false => .ok (.bl false, s.2)
  | _ => .no
theorem chain_of {r r' : R2} {g g' : D → D → Option D} {t1 t2 t3 : TE} (hg : OpD c X r g) (hg' : OpD c X r' g')
    (k1 : ∀ (ρ : Rho) (σ : L2.St) (G H : Hp) (Q : VK), Rel X.K c.T G ρ σ H → Sat c (Mu ρ σ) G H (fa ρ) (fun r => ∀ v G' H', Stp X.K c.T c.n ρ σ G H r.2 σ G' H' → Dq X.K G' v r.1 → Q v H') → t1 σ H Q)
    (k2 : ∀ (ρ : Rho) (σ : L2.St) (G H : Hp) (Q : VK), Rel X.K c.T G ρ σ H → Sat c (Mu ρ σ) G H (fb ρ) (fun r => ∀ v G' H', Stp X.K c.T c.n ρ σ G H r.2 σ G' H' → Dq X.K G' v r.1 → Q v H') → t2 σ H Q)
    (k3 : ∀ (ρ : Rho) (σ : L2.St) (G H : Hp) (Q : VK), Rel X.K c.T G ρ σ H → Sat c (Mu ρ σ) G H (fd ρ) (fun r => ∀ v G' H', Stp X.K c.T c.n ρ σ G H r.2 σ G' H' → Dq X.K G' v r.1 → Q v H') → t3 σ H Q) :
    ∀ (ρ : Rho) (σ : L2.St) (G H : Hp) (Q : VK), Rel X.K c.T G ρ σ H → Sat c (Mu ρ σ) G H (chainE g g' fa fb fd ρ) (fun r => ∀ v G' H', Stp X.K c.T c.n ρ σ G H r.2 σ G' H' → Dq X.K G' v r.1 → Q v H') → tChain r r' t1 t2 t3 σ H Q := by
  intro ρ σ G H Q R h
  refine k1 ρ σ G H _ R (h.first.imp fun r1 h2 x G1 H1 S1 d1 => ?_)
  refine k2 r1.2 σ G1 H1 _ S1.rel (h2.first.on S1 fun r2 h4 y G2 H2 S2 d2 => ?_)
  obtain ⟨z, ez, k⟩ := h4.opt
  refine hg r2.2 σ G2 H2 x y r1.1 r2.1 z _ S2.rel (d1.mono S2.ext.sG) d2 ez fun v G3 H3 S3 d3 => ?_
  have S := (S1.trans S2).trans S3
  cases z with
  | bl kk =>
    refine ⟨kk, dq_bl d3, ?_⟩
    cases kk with
    | true =>
      refine iteT (k3 r2.2 σ G3 H3 _ S3.rel (k.first.on S fun r3 h5 u G4 H4 S4 d4 => ?_))
      obtain ⟨z', ez', k'⟩ := h5.opt
      exact hg' r3.2 σ G4 H4 y u r2.1 r3.1 z' Q S4.rel (d2.mono (S3.ext.sG.trans S4.ext.sG)) d4 ez' fun v G5 H5 S5 d5 => k' v G5 H5 ((S.trans S4).trans S5) d5
    | false => exact iteF (k _ G3 H3 S (.bl false))
  | _ => exact k.elim
theorem de_chain {op op' : CmpOp} {r r' : R2} {g g' : D → D → Option D} (ho : OpR X (compareOp op) r) (ho' : OpR X (compareOp op') r') (hg : OpD c X r g) (hg' : OpD c X r' g') (ha : DE c X a fa) (hb : DE c X b fb) (hd : DE c X d fd)
    (hm : lastMarks [op, op'] [b, d] = false := by with_unfolding_all rfl) : DE c X (.Compare a [op, op'] [b, d] pos) (chainE g g' fa fb fd) := by
  obtain ⟨t1, p1, k1⟩ := ha.un
  obtain ⟨t2, p2, k2⟩ := hb.un
  obtain ⟨t3, p3, k3⟩ := hd.un
  exact DE.mk ⟨_, pe_chain ho ho' p1 p2 p3 hm, chain_of hg hg' k1 k2 k3⟩
theorem db_chain {op op' : CmpOp} {r r' : R2} {g g' : D → D → Option D} (ho : OpR X (compareOp op) r) (ho' : OpR X (compareOp op') r') (hg : OpD c X r g) (hg' : OpD c X r' g') (ha : DE c X a fa) (hb : DE c X b fb) (hd : DE c X d fd)
    (hm : lastMarks [op, op'] [b, d] = false := by with_unfolding_all rfl) : DB c X (.Compare a [op, op'] [b, d] pos) (tstB (chainE g g' fa fb fd)) := by
  obtain ⟨t1, p1, k1⟩ := ha.un
  obtain ⟨t2, p2, k2⟩ := hb.un
  obtain ⟨t3, p3, k3⟩ := hd.un
  exact DB.mk ⟨_, pt_chain ho ho' p1 p2 p3 hm, tst_of (chain_of hg hg' k1 k2 k3)⟩
theorem lastMarks2 {op op' : CmpOp} {b d : Expr} : lastMarks [op, op'] [b, d] = behindInMarks op' d := rfl
theorem de_leLe (ha : DE c X a fa) (hb : DE c X b fb) (hd : DE c X d fd) : DE c X (.Compare a [.LtE, .LtE] [b, d] pos) (chainE leD leD fa fb fd) := de_chain op_le op_le od_le od_le ha hb hd (by rw [lastMarks2]; exact nomark _)
theorem db_leLe (ha : DE c X a fa) (hb : DE c X b fb) (hd : DE c X d fd) : DB c X (.Compare a [.LtE, .LtE] [b, d] pos) (tstB (chainE leD leD fa fb fd)) := db_chain op_le op_le od_le od_le ha hb hd (by rw [lastMarks2]; exact nomark _)
theorem de_ltLe (ha : DE c X a fa) (hb : DE c X b fb) (hd : DE c X d fd) : DE c X (.Compare a [.Lt, .LtE] [b, d] pos) (chainE ltD leD fa fb fd) := de_chain or_lt op_le od_lt od_le ha hb hd (by rw [lastMarks2]; exact nomark _)
theorem db_ltLe (ha : DE c X a fa) (hb : DE c X b fb) (hd : DE c X d fd) : DB c X (.Compare a [.Lt, .LtE] [b, d] pos) (tstB (chainE ltD leD fa fb fd)) := db_chain or_lt op_le od_lt od_le ha hb hd (by rw [lastMarks2]; exact nomark _)

/-! ### in, not in -/
def inD (x y : D) : Option Bool := match y with
  | .lst ds => if x.fit = true ∧ (D.lst ds).fit = true then some ((D.pys ds).any fun z => PyData.eqv z x.py) else none
  | .tup ds => if x.fit = true ∧ (D.tup ds).fit = true then some ((D.pys ds).any fun z => PyData.eqv z x.py) else none
  | .str t => match x with
    | .str s => some (!(Builtin.Str.occurrences t s 0 t.length 1).isEmpty)
    | _ => none
  | _ => none
def inE (x y : D) : Option D := (inD x y).map .bl
def notInE (x y : D) : Option D := (inD x y).map fun b => .bl (!b)
def rInS (neg : Bool) : R2 := fun x y H Q => ∃ i j, x = .str i ∧ y = .str j ∧ Q (.bl (if neg then !(!(Builtin.Str.occurrences j i 0 j.length 1).isEmpty) else !(Builtin.Str.occurrences j i 0 j.length 1).isEmpty)) H
theorem or_inS : OpR X (compareOp .In) (rInS false) := op_in_str
theorem or_notInS : OpR X (compareOp .NotIn) (rInS true) := op_notin_str
def rInT (K : Frag) (neg : Bool) : R2 := fun x y H Q => ∃ d ds, Dp K H x d ∧ Dp K H y (.tuple ds) ∧ SeqAt.shaped d = true ∧ SeqAt.shaped (.tuple ds) = true ∧ Q (.bl (if neg then !ds.any fun z => PyData.eqv z d else ds.any fun z => PyData.eqv z d)) H
theorem or_inT (hu : Hu X) : OpR X (compareOp .In) (rInT X.K false) := by
  intro pins s σ H x y v u Q I rx ry h
  obtain ⟨d, ds, hd, he, sd, se, q⟩ := h
  obtain ⟨as, r1⟩ := Dp.reads I d x v hd rx
  obtain ⟨bs, r2⟩ := Dp.reads I (.tuple ds) y u he ry
  exact SeqAt.in_tuple_reads r2 r1 (SeqAt.canLay_of_shaped se) (SeqAt.canLay_of_shaped sd) (room_in_shaped sd (hu65 hu)) ⟨.bl _, H, I, rfl, q⟩
theorem or_notInT (hu : Hu X) : OpR X (compareOp .NotIn) (rInT X.K true) := by
  intro pins s σ H x y v u Q I rx ry h
  obtain ⟨d, ds, hd, he, sd, se, q⟩ := h
  obtain ⟨as, r1⟩ := Dp.reads I d x v hd rx
  obtain ⟨bs, r2⟩ := Dp.reads I (.tuple ds) y u he ry
  exact SeqAt.notIn_tuple_reads r2 r1 (SeqAt.canLay_of_shaped se) (SeqAt.canLay_of_shaped sd) (room_in_shaped sd (hu65 hu)) ⟨.bl _, H, I, rfl, q⟩
def rInA (K : Frag) : R2 := fun x y H Q => rInD K x y H Q ∨ (rInT K false x y H Q ∨ rInS false x y H Q)
def rNotInA (K : Frag) : R2 := fun x y H Q => rNotInD K x y H Q ∨ (rInT K true x y H Q ∨ rInS true x y H Q)
theorem or_in (hu : Hu X) : OpR X (compareOp .In) (rInA X.K) := (op_inD (hu65 hu)).or ((or_inT hu).or or_inS)
theorem or_notIn (hu : Hu X) : OpR X (compareOp .NotIn) (rNotInA X.K) := (op_notInD (hu65 hu)).or ((or_notInT hu).or or_notInS)
theorem inD_some {x y : D} {b : Bool} (h : inD x y = some b) : (∃ ds, y = .lst ds ∧ x.fit = true ∧ (D.lst ds).fit = true ∧ b = (D.pys ds).any fun z => PyData.eqv z x.py) ∨
    (∃ ds, y = .tup ds ∧ x.fit = true ∧ (D.tup ds).fit = true ∧ b = (D.pys ds).any fun z => PyData.eqv z x.py) ∨ ∃ s t, x = .str s ∧ y = .str t ∧ b = !(Builtin.Str.occurrences t s 0 t.length 1).isEmpty := by
  unfold inD at h
  split at h
  · split at h
    · rename_i q
      exact .inl ⟨_, rfl, q.1, q.2, (Option.some.inj h).symm⟩
    · cases h
  · split at h
    · rename_i q
      exact .inr (.inl ⟨_, rfl, q.1, q.2, (Option.some.inj h).symm⟩)
    · cases h
  · split at h
    · exact .inr (.inr ⟨_, _, rfl, rfl, (Option.some.inj h).symm⟩)
    · cases h
  · cases h
theorem od_in : OpD c X (rInA X.K) inE := by
  intro ρ σ G H x y dx dy z Q R hx hy e k
  obtain ⟨b, e1, rfl⟩ := Option.map_eq_some_iff.mp e
  have k' := k _ _ _ (.refl R) (.bl _)
  rcases inD_some e1 with ⟨ds, rfl, h1, h2, rfl⟩ | ⟨ds, rfl, h1, h2, rfl⟩ | ⟨s, t, rfl, rfl, rfl⟩
  · exact .inl ⟨_, D.pys ds, hx.dp R.wf.same (D.fit_lay h1), hy.dp R.wf.same (D.fit_lay h2), h1, h2, k'⟩
  · exact .inr (.inl ⟨_, D.pys ds, hx.dp R.wf.same (D.fit_lay h1), hy.dp R.wf.same (D.fit_lay h2), h1, h2, k'⟩)
  · exact .inr (.inr ⟨s, t, dq_str hx, dq_str hy, k'⟩)
theorem od_notIn : OpD c X (rNotInA X.K) notInE := by
  intro ρ σ G H x y dx dy z Q R hx hy e k
  obtain ⟨b, e1, rfl⟩ := Option.map_eq_some_iff.mp e
  have k' := k _ _ _ (.refl R) (.bl _)
  rcases inD_some e1 with ⟨ds, rfl, h1, h2, rfl⟩ | ⟨ds, rfl, h1, h2, rfl⟩ | ⟨s, t, rfl, rfl, rfl⟩
  · exact .inl ⟨_, D.pys ds, hx.dp R.wf.same (D.fit_lay h1), hy.dp R.wf.same (D.fit_lay h2), h1, h2, k'⟩
  · exact .inr (.inl ⟨_, D.pys ds, hx.dp R.wf.same (D.fit_lay h1), hy.dp R.wf.same (D.fit_lay h2), h1, h2, k'⟩)
  · exact .inr (.inr ⟨s, t, dq_str hx, dq_str hy, k'⟩)
theorem de_in (hu : Hu X) (ha : DE c X a fa) (hb : DE c X b fb) (hm : behindInMarks .In b = false := by rfl) : DE c X (.Compare a [.In] [b] pos) (binE inE fa fb) := de_cmp (or_in hu) od_in ha hb hm
theorem de_notIn (hu : Hu X) (ha : DE c X a fa) (hb : DE c X b fb) (hm : behindInMarks .NotIn b = false := by rfl) : DE c X (.Compare a [.NotIn] [b] pos) (binE notInE fa fb) := de_cmp (or_notIn hu) od_notIn ha hb hm
theorem db_in (hu : Hu X) (ha : DE c X a fa) (hb : DE c X b fb) (hm : behindInMarks .In b = false := by rfl) : DB c X (.Compare a [.In] [b] pos) (tstB (binE inE fa fb)) := db_cmp (or_in hu) od_in ha hb hm
theorem db_notIn (hu : Hu X) (ha : DE c X a fa) (hb : DE c X b fb) (hm : behindInMarks .NotIn b = false := by rfl) : DB c X (.Compare a [.NotIn] [b] pos) (tstB (binE notInE fa fb)) := db_cmp (or_notIn hu) od_notIn ha hb hm

/-! ### arguments and displays -/
def nilA : Rho → Rs (List D × Rho) := fun ρ => .ok ([], ρ)
def consA (fa : FE) (fas : Rho → Rs (List D × Rho)) : Rho → Rs (List D × Rho) := fun ρ => (fa ρ).bind fun r => (fas r.2).bind fun s => .ok (r.1 :: s.1, s.2)
theorem da_nil : DAs c X [] nilA := DAs.mk ⟨_, pa_nil, fun ρ σ G H Q R h => h [] G H (.refl R) .nil⟩
theorem da_cons (ha : DE c X a fa) (hr : DAs c X es fas) (hs : starEach (a :: es) X.env = (false, eval a X.env) :: starEach es X.env := by rfl) : DAs c X (a :: es) (consA fa fas) := by
  obtain ⟨t1, p1, k1⟩ := ha.un
  obtain ⟨t2, p2, k2⟩ := hr.un
  refine DAs.mk ⟨_, pa_cons p1 p2 hs, fun ρ σ G H Q R h => ?_⟩
  refine k1 ρ σ G H _ R (h.first.imp fun r1 h2 x G1 H1 S1 d1 => ?_)
  refine k2 r1.2 σ G1 H1 _ S1.rel (h2.first.on S1 fun r2 h4 y G2 H2 S2 d2 => ?_)
  exact h4 (x :: y) G2 H2 (S1.trans S2) (.cons (d1.mono S2.ext.sG) d2)
def tupE (fas : Rho → Rs (List D × Rho)) : FE := fun ρ => (fas ρ).bind fun r => if r.1.length ≤ sizeLine then .ok (.tup r.1, r.2) else .no
def lstE (fas : Rho → Rs (List D × Rho)) : FE := fun ρ => (fas ρ).bind fun r => if r.1.length ≤ sizeLine then .ok (.lst r.1, r.2) else .no
def lstF (fas : Rho → Rs (List D × Rho)) : Rho → Rs (List D × Rho) := fun ρ => (fas ρ).bind fun r => if r.1.length ≤ sizeLine then .ok (r.1, r.2) else .no
theorem de_tup {x1 : Nat} (h : DAs c X es fas) : DE c X (.Tuple es x1 pos) (tupE fas) := by
  obtain ⟨t, p, k⟩ := h.un
  refine DE.mk ⟨_, pe_tup p, fun ρ σ G H Q R h => ?_⟩
  refine k ρ σ G H _ R (h.first.imp fun r h2 vs G1 H1 S d => ?_)
  by_cases hz : r.1.length ≤ sizeLine
  · rw [if_pos hz] at h2
    exact ⟨by rw [d.length]; exact hz, fun q hq => kd_newT S.rel d hq fun v G2 H2 S2 d2 => h2 v G2 H2 (S.trans S2) d2⟩
  · rw [if_neg hz] at h2
    exact h2.elim
theorem de_lst (h : DAs c X es fas) : DE c X (.List es pos) (lstE fas) := by
  obtain ⟨t, p, k⟩ := h.un
  refine DE.mk ⟨_, pe_lst p, fun ρ σ G H Q R h => ?_⟩
  refine k ρ σ G H _ R (h.first.imp fun r h2 vs G1 H1 S d => ?_)
  by_cases hz : r.1.length ≤ sizeLine
  · rw [if_pos hz] at h2
    exact ⟨by rw [d.length]; exact hz, fun q hq => kd_newL S.rel d hq fun v G2 H2 S2 d2 => h2 v G2 H2 (S.trans S2) d2⟩
  · rw [if_neg hz] at h2
    exact h2.elim
/-- a new list of the frame's own -/
theorem newF_of {ρ ρ1 : Rho} {σ : L2.St} {G H G1 H1 : Hp} {p : Addr} {xs : List V} {ds : List D} {Q : VK} (S : Stp X.K c.T c.n ρ σ G H ρ1 σ G1 H1) (d : DqAll X.K G1 xs ds) (hp : H1 p = none)
    (k : ∀ p vs G' H', Stp X.K c.T c.n ρ σ G H ρ1 σ G' H' → (∀ q, Mu ρ1 σ q → q ≠ p) → (H p = none ∨ Mu ρ σ p) → G' p = none → H' p = some (.lst vs) → DqAll X.K G' vs ds → Q (.ref p) H') : Q (.ref p) (upd H1 p (.lst xs)) :=
  k p xs G1 _ (S.trans (.newF S.rel hp)) (fun q hq z => S.rel.muSome hq (by rw [z]; exact hp)) (.inl (S.ext.back hp)) (S.rel.wf.none hp) upd_same d
theorem df_lst (h : DAs c X es fas) : DF c X (.List es pos) (lstF fas) := by
  obtain ⟨t, p, k⟩ := h.un
  refine DF.mk ⟨_, pe_lst p, fun ρ σ G H Q R h => ?_⟩
  refine k ρ σ G H _ R (h.first.imp fun r h2 vs G1 H1 S d => ?_)
  by_cases hz : r.1.length ≤ sizeLine
  · rw [if_pos hz] at h2
    exact ⟨by rw [d.length]; exact hz, fun q hq => newF_of S d hq h2⟩
  · rw [if_neg hz] at h2
    exact h2.elim
/-- xs + ys, a list of the frame's own -/
def catF (fa fb : FE) : Rho → Rs (List D × Rho) := fun ρ => (fa ρ).bind fun r => (fb r.2).bind fun s => match r.1, s.1 with
  | .lst x, .lst y => if x.length + y.length ≤ sizeLine then .ok (x ++ y, s.2) else .no
  | _, _ => .no
theorem df_cat (ha : DE c X a fa) (hb : DE c X b fb) : DF c X (.BinOp a .Add b pos) (catF fa fb) := by
  obtain ⟨t1, p1, k1⟩ := ha.un
  obtain ⟨t2, p2, k2⟩ := hb.un
  refine DF.mk ⟨_, pe_op op_cat p1 p2, fun ρ σ G H Q R h => ?_⟩
  refine k1 ρ σ G H _ R (h.first.imp fun r1 h2 x G1 H1 S1 d1 => ?_)
  refine k2 r1.2 σ G1 H1 _ S1.rel (h2.first.on S1 fun r2 h4 y G2 H2 S2 d2 => ?_)
  have S := S1.trans S2
  obtain ⟨e1, ρ1⟩ := r1
  obtain ⟨e2, ρ2⟩ := r2
  cases e1 with
  | lst xs =>
    cases e2 with
    | lst ys =>
      by_cases hz : xs.length + ys.length ≤ sizeLine
      · simp only [if_pos hz] at h4
        obtain ⟨l, us, rfl, hl, hus⟩ := dq_lst (d1.mono S2.ext.sG)
        obtain ⟨m, ws, rfl, hm, hws⟩ := dq_lst d2
        exact ⟨l, m, us, ws, rfl, rfl, S.rel.wf.same _ _ hl, S.rel.wf.same _ _ hm, by rw [hus.length, hws.length]; exact hz, fun q hq => newF_of S (hus.append hws) hq h4⟩
      · simp only [if_neg hz] at h4
        exact h4.elim
    | _ => exact h4.elim
  | _ => exact h4.elim

/-! ### calls of built-ins -/
def callE (g : List D → Option D) (fas : Rho → Rs (List D × Rho)) : FE := fun ρ => (fas ρ).bind fun r => (Rs.ofO (g r.1)).bind fun z => .ok (z, r.2)
theorem call_of {r : List V → Hp → VK → Prop} {g : List D → Option D} {t : TA} (hg : CallD c X r g)
    (k : ∀ (ρ : Rho) (σ : L2.St) (G H : Hp) (Q : List V → Hp → Prop), Rel X.K c.T G ρ σ H → Sat c (Mu ρ σ) G H (fas ρ) (fun r => ∀ vs G' H', Stp X.K c.T c.n ρ σ G H r.2 σ G' H' → DqAll X.K G' vs r.1 → Q vs H') → t σ H Q) :
    ∀ (ρ : Rho) (σ : L2.St) (G H : Hp) (Q : VK), Rel X.K c.T G ρ σ H → Sat c (Mu ρ σ) G H (callE g fas ρ) (fun r => ∀ v G' H', Stp X.K c.T c.n ρ σ G H r.2 σ G' H' → Dq X.K G' v r.1 → Q v H') → tCB r t σ H Q := by
  intro ρ σ G H Q R h
  refine k ρ σ G H _ R (h.first.imp fun r1 h2 x G1 H1 S1 d1 => ?_)
  obtain ⟨z, ez, kk⟩ := h2.opt
  exact hg r1.2 σ G1 H1 x r1.1 z Q S1.rel d1 ez fun v G2 H2 S2 d2 => kk v G2 H2 (S1.trans S2) d2
theorem de_callB {id : String} {x : Str} {p : Pos} {r : List V → Hp → VK → Prop} {g : List D → Option D} (hc : CallR X (.builtin id) r) (hg : CallD c X r g) (hv : bootBuiltins x = some (.builtin id)) (hm : X.mg x = none) (ha : DAs c X (a :: es) fas)
    (hgl : Gl X x := by rfl) (hn : x ≠ "__name__" := by decide) (hdb : (x == ("__debug__" : Str)) = false := by decide)
    (he : starEach (a :: es) X.env = (false, eval a X.env) :: starEach es X.env := by rfl) (hpl : (backTo pos (starEach es X.env)).any (·.1) = false := by rfl) : DE c X (.Call (.Name x p) (a :: es) [] pos) (callE g fas) := by
  obtain ⟨t, pa, k⟩ := ha.un
  exact DE.mk ⟨_, pe_callB hc hgl hm hv pa hn hdb he hpl, call_of hg k⟩
theorem de_callTy {id : String} {x : Str} {p : Pos} {r : List V → Hp → VK → Prop} {g : List D → Option D} (hc : CallR X (.type id) r) (hg : CallD c X r g) (hv : bootBuiltins x = some (.type id)) (hm : X.mg x = none) (ha : DAs c X (a :: es) fas)
    (hgl : Gl X x := by rfl) (hn : x ≠ "__name__" := by decide) (hdb : (x == ("__debug__" : Str)) = false := by decide)
    (he : starEach (a :: es) X.env = (false, eval a X.env) :: starEach es X.env := by rfl) (hpl : (backTo pos (starEach es X.env)).any (·.1) = false := by rfl) : DE c X (.Call (.Name x p) (a :: es) [] pos) (callE g fas) := by
  obtain ⟨t, pa, k⟩ := ha.un
  exact DE.mk ⟨_, pe_callTy hc hgl hm hv pa hn hdb he hpl, call_of hg k⟩
def lenD : List D → Option D
  | [.lst xs] => some (.int xs.length)
  | [.tup xs] => some (.int xs.length)
  | [.scr xs] => some (.int xs.length)
  | [.str x] => if x.length ≤ sizeLine then some (.int x.length) else none
  | _ => none
theorem dqAll1 {K : Frag} {G : Hp} {vs : List V} {d : D} (h : DqAll K G vs [d]) : ∃ v, vs = [v] ∧ Dq K G v d := by
  cases h with
  | cons h t => cases t; exact ⟨_, rfl, h⟩
theorem dqAll2 {K : Frag} {G : Hp} {vs : List V} {d d' : D} (h : DqAll K G vs [d, d']) : ∃ v v', vs = [v, v'] ∧ Dq K G v d ∧ Dq K G v' d' := by
  cases h with
  | cons h t => obtain ⟨v', rfl, h'⟩ := dqAll1 t; exact ⟨_, _, rfl, h, h'⟩
theorem dqAll3 {K : Frag} {G : Hp} {vs : List V} {d d' d'' : D} (h : DqAll K G vs [d, d', d'']) : ∃ v v' v'', vs = [v, v', v''] ∧ Dq K G v d ∧ Dq K G v' d' ∧ Dq K G v'' d'' := by
  cases h with
  | cons h t => obtain ⟨v', v'', rfl, h', h''⟩ := dqAll2 t; exact ⟨_, _, _, rfl, h, h', h''⟩
def rLen (K : Frag) : List V → Hp → VK → Prop := fun xs H Q => ∃ x n, xs = [x] ∧ LenV K x H n ∧ Q (.int n) H
theorem cd_len : CallD c X (rLen X.K) lenD := by
  intro ρ σ G H xs dxs z Q R hx e k
  unfold lenD at e
  split at e
  · cases e
    obtain ⟨v, rfl, h⟩ := dqAll1 hx
    obtain ⟨l, us, rfl, hl, hus⟩ := dq_lst h
    exact ⟨_, _, rfl, .inl ⟨us, .of (R.wf.same _ _ hl), by rw [hus.length]⟩, k _ _ _ (.refl R) (.int _)⟩
  · cases e
    obtain ⟨v, rfl, h⟩ := dqAll1 hx
    obtain ⟨l, us, rfl, hl, hus⟩ := dq_tup h
    exact ⟨_, _, rfl, .inr ⟨us, sqT_mono R.wf.same hl, by rw [hus.length]⟩, k _ _ _ (.refl R) (.int _)⟩
  · cases e
    obtain ⟨v, rfl, h⟩ := dqAll1 hx
    cases h with
    | scr h => exact ⟨_, _, rfl, .inl ⟨_, R.wf.same.seq h, by rw [List.length_map]⟩, k _ _ _ (.refl R) (.int _)⟩
  · split at e
    · rename_i x hz
      cases e
      obtain ⟨v, rfl, h⟩ := dqAll1 hx
      cases dq_str h
      exact ⟨_, _, rfl, ⟨hz, rfl⟩, k _ _ _ (.refl R) (.int _)⟩
    · cases e
  · cases e
theorem de_len {p : Pos} (hm : X.mg "len" = none) (ha : DAs c X [a] fas) (hgl : Gl X "len" := by rfl) (he : starEach [a] X.env = (false, eval a X.env) :: starEach [] X.env := by rfl) : DE c X (.Call (.Name "len" p) [a] [] pos) (callE lenD fas) :=
  de_callB (r := rLen X.K) call_len cd_len PySem.boot_len hm ha hgl (by decide) (by decide) he (by rfl)
end
end DL

set_option maxHeartbeats 4000000
/-! DLd: statements, loops, comprehensions, defs on data. -/
namespace DL
open PySem PySem.Spec PyProof.Rows L2

/-! ### how a statement ends -/
inductive Rv where
  | da (d : D) | fr (ds : List D)
inductive Out where
  | nx (ρ : Rho) | rt (r : Rv) (ρ : Rho)
/-- a value that is handed back: data, or a new list that none but the asker holds -/
def RvR (K : Frag) (G H H0 : Hp) (M M0 : Addr → Prop) (v : V) : Rv → Prop
  | .da d => Dq K G v d
  | .fr ds => ∃ p vs, v = .ref p ∧ (∀ q, M q → q ≠ p) ∧ (H0 p = none ∨ M0 p) ∧ G p = none ∧ H p = some (.lst vs) ∧ DqAll K G vs ds
def OutK (c : Dc) (K : Frag) (ρ : Rho) (σ : L2.St) (G H : Hp) (D : Ends) : Out → Prop
  | .nx ρ' => ∀ σ' G' H', Stp K c.T c.n ρ σ G H ρ' σ' G' H' → D.nx σ' H'
  | .rt r ρ' => ∀ v σ' G' H', Stp K c.T c.n ρ σ G H ρ' σ' G' H' → RvR K G' H' H (Mu ρ' σ') (Mu ρ σ) v r → D.rt v H'
abbrev FS := Rho → Rs Out
def tS (c : Dc) (K : Frag) (f : FS) : TS := fun D σ H => ∃ (ρ : Rho) (G : Hp), Rel K c.T G ρ σ H ∧ Sat c (Mu ρ σ) G H (f ρ) (OutK c K ρ σ G H D)
def DS (c : Dc) (X : Cx) (st : Stmt) (f : FS) : Prop := PS X st (tS c X.K f)
def DSs (c : Dc) (X : Cx) (sts : List Stmt) (f : FS) : Prop := PSs X sts (tS c X.K f)
section
variable {c : Dc} {X : Cx} {K : Frag} {ρ ρ1 ρ' : Rho} {σ σ1 σ' : L2.St} {G H G1 H1 G' H' : Hp} {D D' : Ends} {st : Stmt} {sts : List Stmt}
theorem OutK.rts {r : Rv} {ρ2 : Rho} (S : Stp K c.T c.n ρ σ G H ρ1 σ1 G1 H1) (h : OutK c K ρ σ G H D (.rt r ρ2)) (hr : ∀ v H, D.rt v H → D'.rt v H) : OutK c K ρ1 σ1 G1 H1 D' (.rt r ρ2) := by
  intro v σ2 G2 H2 S2 q
  refine hr _ _ (h v σ2 G2 H2 (S.trans S2) ?_)
  cases r with
  | da d => exact q
  | fr ds =>
    obtain ⟨p, vs, e1, e2, e3, e4, e5, e6⟩ := q
    exact ⟨p, vs, e1, e2, e3.elim (fun z => .inl (S.ext.back z)) fun z => (S.mm p z).elim .inr .inl, e4, e5, e6⟩
theorem OutK.shift {o : Out} (S : Stp K c.T c.n ρ σ G H ρ1 σ1 G1 H1) (h : OutK c K ρ σ G H D o) (hn : ∀ σ H, D.nx σ H → D'.nx σ H) (hr : ∀ v H, D.rt v H → D'.rt v H) : OutK c K ρ1 σ1 G1 H1 D' o := by
  cases o with
  | nx ρ2 => exact fun σ2 G2 H2 S2 => hn _ _ (h σ2 G2 H2 (S.trans S2))
  | rt r ρ2 => exact h.rts S hr
theorem DS.mk {f : FS} (h : ∃ t, PS X st t ∧ ∀ (ρ : Rho) (σ : L2.St) (G H : Hp) (D : Ends), Rel X.K c.T G ρ σ H → Sat c (Mu ρ σ) G H (f ρ) (OutK c X.K ρ σ G H D) → t D σ H) : DS c X st f := by
  obtain ⟨t, p, k⟩ := h
  exact ⟨fun pins s σ H D I ⟨ρ, G, R, h⟩ => p.run pins s σ H D I (k ρ σ G H D R h)⟩
theorem DSs.mk {f : FS} (h : ∃ t, PSs X sts t ∧ ∀ (ρ : Rho) (σ : L2.St) (G H : Hp) (D : Ends), Rel X.K c.T G ρ σ H → Sat c (Mu ρ σ) G H (f ρ) (OutK c X.K ρ σ G H D) → t D σ H) : DSs c X sts f := by
  obtain ⟨t, p, k⟩ := h
  exact ⟨fun pins s σ H D I ⟨ρ, G, R, h⟩ => p.run pins s σ H D I (k ρ σ G H D R h)⟩
end
section
variable {c : Dc} {X : Cx} {a b e tg : Expr} {es : List Expr} {st : Stmt} {sts : List Stmt} {fa fb : FE} {t u : FB} {f g : FS} {pos : Pos}
def nxS : FS := fun ρ => .ok (.nx ρ)
def seqS (f g : FS) : FS := fun ρ => (f ρ).bind fun o => match o with
  | .nx ρ' => g ρ'
  | .rt r ρ' => .ok (.rt r ρ')
theorem dss_nil : DSs c X [] nxS := DSs.mk ⟨_, pss_nil, fun ρ σ G H D R h => h σ G H (.refl R)⟩
theorem dss_one (h : DS c X st f) : DSs c X [st] f := DSs.mk ⟨_, pss_one h, fun ρ σ G H D R h => ⟨ρ, G, R, h⟩⟩
theorem dss_cons (h : DS c X st f) (hs : DSs c X sts g) : DSs c X (st :: sts) (seqS f g) := by
  refine DSs.mk ⟨_, pss_cons h hs, fun ρ σ G H D R q => ⟨ρ, G, R, q.first.imp fun o h2 => ?_⟩⟩
  cases o with
  | nx ρ1 =>
    intro σ1 G1 H1 S
    exact ⟨ρ1, G1, S.rel, h2.on S fun o h3 => h3.shift S (fun _ _ z => z) fun _ _ z => z⟩
  | rt r ρ1 => exact h2
def retS (fa : FE) : FS := fun ρ => (fa ρ).bind fun r => .ok (.rt (.da r.1) r.2)
theorem ds_ret (ha : DE c X a fa) : DS c X (.Return (some a) pos) (retS fa) := by
  obtain ⟨t1, p1, k1⟩ := ha.un
  exact DS.mk ⟨_, ps_ret p1, fun ρ σ G H D R h => k1 ρ σ G H _ R (h.first.imp fun r h2 v G1 H1 S d => h2 v σ G1 H1 S d)⟩
def retF (fa : Rho → Rs (List DL.D × Rho)) : FS := fun ρ => (fa ρ).bind fun r => .ok (.rt (.fr r.1) r.2)
theorem ds_retF {fa : Rho → Rs (List DL.D × Rho)} (ha : DF c X a fa) : DS c X (.Return (some a) pos) (retF fa) := by
  obtain ⟨t1, p1, k1⟩ := ha.un
  exact DS.mk ⟨_, ps_ret p1, fun ρ σ G H D R h => k1 ρ σ G H _ R (h.first.imp fun r h2 p vs G1 H1 S m n e1 e2 d => h2 (.ref p) σ G1 H1 S ⟨p, vs, rfl, m, n, e1, e2, d⟩)⟩
def dropS (fa : FE) : FS := fun ρ => (fa ρ).bind fun r => .ok (.nx r.2)
theorem ds_expr (ha : DE c X a fa) (hs : swapsWith a none pos.line X.env = pure false := by rfl) : DS c X (.Expr a pos) (dropS fa) := by
  obtain ⟨t1, p1, k1⟩ := ha.un
  exact DS.mk ⟨_, ps_expr p1 hs, fun ρ σ G H D R h => k1 ρ σ G H _ R (h.first.imp fun r h2 v G1 H1 S d => h2 σ G1 H1 S)⟩
def ifS (t : FB) (f g : FS) : FS := fun ρ => (t ρ).bind fun r => if r.1 = true then f r.2 else g r.2
theorem ds_if {sa sb : List Stmt} (ht : DB c X a t) (ha : DSs c X sa f) (hb : DSs c X sb g) : DS c X (.If a sa sb pos) (ifS t f g) := by
  obtain ⟨t0, p0, k0⟩ := ht.un
  refine DS.mk ⟨_, ps_if p0 ha hb, fun ρ σ G H D R h => ?_⟩
  refine k0 ρ σ G H _ R (h.first.imp fun r h2 G1 H1 S => ?_)
  obtain ⟨k, ρ1⟩ := r
  cases k with
  | true =>
    rw [if_pos rfl] at h2
    exact iteT ⟨ρ1, G1, S.rel, h2.on S fun o h3 => h3.shift S (fun _ _ z => z) fun _ _ z => z⟩
  | false =>
    rw [if_neg Bool.false_ne_true] at h2
    exact iteF ⟨ρ1, G1, S.rel, h2.on S fun o h3 => h3.shift S (fun _ _ z => z) fun _ _ z => z⟩

/-! ### targets -/
abbrev FG := DL.D → Rho → Rs Rho
/-- only these slots are stored to -/
structure Only (ts : List Nat) (σ σ' : L2.St) : Prop where
  len : σ'.length = σ.length
  eq : ∀ j, j ∉ ts → σ'[j]? = σ[j]?
theorem Only.refl {ts : List Nat} {σ : L2.St} : Only ts σ σ := ⟨rfl, fun _ _ => rfl⟩
theorem Only.trans {ts us : List Nat} {σ σ1 σ2 : L2.St} (a : Only ts σ σ1) (b : Only us σ1 σ2) : Only (ts ++ us) σ σ2 :=
  ⟨b.len.trans a.len, fun j h => (b.eq j fun z => h (List.mem_append_right _ z)).trans (a.eq j fun z => h (List.mem_append_left _ z))⟩
theorem Only.one {i : Nat} {σ : L2.St} {o : Option V} : Only [i] σ (σ.set i o) := ⟨List.length_set, fun j h => List.getElem?_set_ne fun z => h (by rw [z]; exact List.mem_cons_self)⟩
def tG (c : Dc) (K : Frag) (ts : List Nat) (g : FG) : TG := fun v σ H Q => ∃ (ρ : Rho) (G : Hp) (d : DL.D), Rel K c.T G ρ σ H ∧ Dq K G v d ∧
  Sat c (Mu ρ σ) G H (g d ρ) fun ρ' => ∀ σ' G' H', Stp K c.T c.n ρ σ G H ρ' σ' G' H' → Only ts σ σ' → Q σ' H'
def tGs (c : Dc) (K : Frag) (ts : List Nat) (g : List DL.D → Rho → Rs Rho) : TGs := fun vs σ H Q => ∃ (ρ : Rho) (G : Hp) (ds : List DL.D), Rel K c.T G ρ σ H ∧ DqAll K G vs ds ∧
  Sat c (Mu ρ σ) G H (g ds ρ) fun ρ' => ∀ σ' G' H', Stp K c.T c.n ρ σ G H ρ' σ' G' H' → Only ts σ σ' → Q σ' H'
def DG (c : Dc) (X : Cx) (tg : Expr) (ts : List Nat) (g : FG) : Prop := PG X tg (tG c X.K ts g)
def DGs (c : Dc) (X : Cx) (tgs : List Expr) (ts : List Nat) (g : List DL.D → Rho → Rs Rho) : Prop := PGs X tgs (tGs c X.K ts g)
def nameG (i : Nat) : FG := fun d ρ => .ok (ρ.set i (.da d))
theorem dg_name {i : Nat} {x : Str} (h : PG X (.Name x pos) (gName i)) : DG c X (.Name x pos) [i] (nameG i) :=
  ⟨fun pins s σ H v u Q I r ⟨ρ, G, d, R, dv, q⟩ => h.run pins s σ H v u Q I r (q _ _ _ (Stp.set R dv) .one)⟩
def nilG : List DL.D → Rho → Rs Rho
  | [], ρ => .ok ρ
  | _ :: _, _ => .no
def consG (g : FG) (gs : List DL.D → Rho → Rs Rho) : List DL.D → Rho → Rs Rho
  | d :: ds, ρ => (g d ρ).bind (gs ds)
  | [], _ => .no
theorem dgs_nil : DGs c X [] [] nilG := by
  refine ⟨fun pins s σ H vs us Q I r ⟨ρ, G, ds, R, dv, q⟩ => pgs_nil.run pins s σ H vs us Q I r ?_⟩
  cases dv with
  | nil => exact ⟨rfl, q σ G H (.refl R) .refl⟩
  | cons _ _ => exact q.elim
theorem dgs_cons {gh : FG} {ts us : List Nat} {gs : List DL.D → Rho → Rs Rho} (h1 : DG c X e ts gh) (h2 : DGs c X es us gs)
    (hs : (assignEach (e :: es) X.env).map (·.2) = assign e X.env :: (assignEach es X.env).map (·.2) := by rfl) : DGs c X (e :: es) (ts ++ us) (consG gh gs) := by
  refine ⟨fun pins s σ H vs us Q I r ⟨ρ, G, ds, R, dv, q⟩ => (pgs_cons h1 h2 hs).run pins s σ H vs us Q I r ?_⟩
  cases dv with
  | nil => exact q.elim
  | @cons v vs d ds hd ht =>
    have q : Sat c (Mu ρ σ) G H ((gh d ρ).bind (gs ds)) _ := q
    refine ⟨v, vs, rfl, ρ, G, d, R, hd, q.first.imp fun ρ1 h3 σ1 G1 H1 S o1 => ?_⟩
    exact ⟨ρ1, G1, ds, S.rel, ht.mono S.ext.sG, h3.on S fun ρ2 h4 σ2 G2 H2 S2 o2 => h4 σ2 G2 H2 (S.trans S2) (o1.trans o2)⟩
def tupG (n : Nat) (gs : List DL.D → Rho → Rs Rho) : FG := fun d ρ => match d with
  | .tup ds => if ds.length = n then gs ds ρ else .no
  | _ => .no
theorem dg_tup {k n : Nat} {ts : List Nat} {gs : List DL.D → Rho → Rs Rho} (hc : X.calm = true) (h : DGs c X es ts gs) (hn : (assignEach es X.env).length = n := by rfl) (hst : (assignEach es X.env).findIdx? (·.1) = none := by rfl) : DG c X (.Tuple es k pos) ts (tupG n gs) := by
  refine ⟨fun pins s σ H v u Q I r ⟨ρ, G, d, R, dv, q⟩ => (pg_tup hc h hn hst).run pins s σ H v u Q I r ?_⟩
  cases d with
  | tup ds =>
    obtain ⟨l, xs, rfl, hl, hxs⟩ := dq_tup dv
    by_cases hz : ds.length = n
    · simp only [tupG, if_pos hz] at q
      exact ⟨l, xs, rfl, sqT_mono R.wf.same hl, by rw [hxs.length]; exact hz, ρ, G, ds, R, hxs, q⟩
    · simp only [tupG, if_neg hz] at q
      exact q.elim
  | _ => exact q.elim
def lstG (n : Nat) (gs : List DL.D → Rho → Rs Rho) : FG := fun d ρ => match d with
  | .lst ds => if ds.length = n then gs ds ρ else .no
  | _ => .no
theorem dg_lst {k n : Nat} {ts : List Nat} {gs : List DL.D → Rho → Rs Rho} (hc : X.calm = true) (h : DGs c X es ts gs) (hn : (assignEach es X.env).length = n := by rfl) (hst : (assignEach es X.env).findIdx? (·.1) = none := by rfl) : DG c X (.Tuple es k pos) ts (lstG n gs) := by
  refine ⟨fun pins s σ H v u Q I r ⟨ρ, G, d, R, dv, q⟩ => (pg_lst hc h hn hst).run pins s σ H v u Q I r ?_⟩
  cases d with
  | lst ds =>
    obtain ⟨l, xs, rfl, hl, hxs⟩ := dq_lst dv
    by_cases hz : ds.length = n
    · simp only [lstG, if_pos hz] at q
      exact ⟨l, xs, rfl, .of (R.wf.same _ _ hl), by rw [hxs.length]; exact hz, ρ, G, ds, R, hxs, q⟩
    · simp only [lstG, if_neg hz] at q
      exact q.elim
  | _ => exact q.elim
def asgS (fa : FE) (g : FG) : FS := fun ρ => (fa ρ).bind fun r => (g r.1 r.2).bind fun ρ' => .ok (.nx ρ')
theorem asg_of {te : TE} {tg : TG} {g : FG} {K : Frag}
    (k1 : ∀ (ρ : Rho) (σ : L2.St) (G H : Hp) (Q : VK), Rel K c.T G ρ σ H → Sat c (Mu ρ σ) G H (fa ρ) (fun r => ∀ v G' H', Stp K c.T c.n ρ σ G H r.2 σ G' H' → Dq K G' v r.1 → Q v H') → te σ H Q)
    {ts : List Nat} (k2 : ∀ v σ H Q, tG c K ts g v σ H Q → tg v σ H Q) :
    ∀ (ρ : Rho) (σ : L2.St) (G H : Hp) (D : Ends), Rel K c.T G ρ σ H → Sat c (Mu ρ σ) G H (asgS fa g ρ) (OutK c K ρ σ G H D) → tAsg te tg D σ H := by
  intro ρ σ G H D R h
  refine k1 ρ σ G H _ R (h.first.imp fun r h2 v G1 H1 S d => k2 v σ H1 _ ?_)
  exact ⟨r.2, G1, r.1, S.rel, d, h2.first.on S fun ρ2 h3 σ2 G2 H2 S2 _ => h3 σ2 G2 H2 (S.trans S2)⟩
theorem ds_asg {g : FG} {ts : List Nat} (ha : DE c X a fa) (hg : DG c X tg ts g) (hs : swapsWithSole [tg] a pos.line X.env = pure false := by rfl) (hw : swappedStores [tg] a X.env = pure none := by rfl)
    (h1 : (assignEach [tg] X.env).map (·.2) = [assign tg X.env] := by rfl) : DS c X (.Assign [tg] a pos) (asgS fa g) := by
  obtain ⟨t1, p1, k1⟩ := ha.un
  exact DS.mk ⟨_, ps_asg p1 hg hs hw h1, asg_of k1 fun _ _ _ _ z => z⟩
theorem gName_of {i : Nat} {K : Frag} : ∀ v σ H Q, tG c K [i] (nameG i) v σ H Q → gName i v σ H Q := fun v σ H Q ⟨ρ, G, d, R, dv, q⟩ => q _ _ _ (Stp.set R dv) .one
theorem ds_set {i : Nat} {x : Str} {pos' : Pos} (hN : X.N.Nodup) (hi : X.N[i]? = some x) (hx : Loc X.env.scope x) (ha : DE c X a fa) (hs : swapsWith a (some (.Name x pos')) pos.line X.env = pure false := by rfl)
    (hf : X.fn x = true ∨ X.env.scope.names.lookup x = some .local := by first | exact .inl rfl | exact .inr rfl | assumption) : DS c X (.Assign [.Name x pos'] a pos) (asgS fa (nameG i)) := by
  obtain ⟨t1, p1, k1⟩ := ha.un
  exact DS.mk ⟨_, ps_set hN hi hx p1 hs hf, asg_of k1 gName_of⟩
/-- name = a new list that is to be the frame's own -/
def setF (i : Nat) (fa : Rho → Rs (List DL.D × Rho)) : FS := fun ρ => (fa ρ).bind fun r => .ok (.nx (r.2.set i (.mu (.lst r.1))))
theorem ds_setF {i : Nat} {x : Str} {pos' : Pos} {fa : Rho → Rs (List DL.D × Rho)} (hN : X.N.Nodup) (hi : X.N[i]? = some x) (hx : Loc X.env.scope x) (hn : c.n ≤ i) (ha : DF c X a fa) (hs : swapsWith a (some (.Name x pos')) pos.line X.env = pure false := by rfl)
    (hf : X.fn x = true ∨ X.env.scope.names.lookup x = some .local := by first | exact .inl rfl | exact .inr rfl | assumption) : DS c X (.Assign [.Name x pos'] a pos) (setF i fa) := by
  obtain ⟨t1, p1, k1⟩ := ha.un
  refine DS.mk ⟨_, ps_set hN hi hx p1 hs hf, fun ρ σ G H D R h => ?_⟩
  exact k1 ρ σ G H _ R (h.first.imp fun r h2 p vs G1 H1 S m n e1 e2 d => h2 _ G1 H1 (S.setM n m hn ⟨e1, vs, e2, d⟩))
/-- two plain names at once -/
def parS (i j : Nat) (fas : Rho → Rs (List DL.D × Rho)) : FS := fun ρ => (fas ρ).bind fun r => match r.1 with
  | [d, e] => .ok (.nx ((r.2.set i (.da d)).set j (.da e)))
  | _ => .no
theorem ds_par {i j : Nat} {x y : Str} {px py pt : Pos} {kt k2 : Nat} {pt2 : Pos} {fas : Rho → Rs (List DL.D × Rho)} (hc : X.calm = true) (hN : X.N.Nodup) (hi : X.N[i]? = some x) (hj : X.N[j]? = some y) (hij : i ≠ j)
    (hx : X.env.scope.names.lookup x = some .local) (hy : X.env.scope.names.lookup y = some .local) (ha : DAs c X [a, b] fas)
    (hw : swappedStores [.Tuple [.Name x px, .Name y py] kt pt] (.Tuple [a, b] k2 pt2) X.env = pure (some [x, y]))
    (hs : swapsWithSole [.Tuple [.Name x px, .Name y py] kt pt] (.Tuple [a, b] k2 pt2) pos.line X.env = pure false := by rfl) :
    DS c X (.Assign [.Tuple [.Name x px, .Name y py] kt pt] (.Tuple [a, b] k2 pt2) pos) (parS i j fas) := by
  obtain ⟨t1, p1, k1⟩ := ha.un
  refine DS.mk ⟨_, ps_par hc hN hi hj hij hx hy p1 hw hs, fun ρ σ G H D R h => ?_⟩
  refine k1 ρ σ G H _ R (h.first.imp fun r h2 vs G1 H1 S d => ?_)
  obtain ⟨ds, ρ1⟩ := r
  match ds, h2, d with
  | [d, e], h2, dd =>
    obtain ⟨v, w, rfl, dv, dw⟩ := dqAll2 dd
    have S2 := S.trans ((Stp.set (i := i) S.rel dv))
    exact ⟨v, w, rfl, h2 _ _ _ (S2.trans (Stp.set (i := j) S2.rel dw))⟩
  | [], h2, _ => exact h2.elim
  | [_], h2, _ => exact h2.elim
  | _ :: _ :: _ :: _, h2, _ => exact h2.elim
/-- xs.append(e), xs the frame's own -/
def isL : Option Sl → Bool
  | some (.mu (.lst _)) => true
  | _ => false
def appS (i : Nat) (fa : FE) : FS := fun ρ => if isL ρ[i]? = true then (fa ρ).bind fun r => match r.2[i]? with
    | some (.mu (.lst ds)) => if ds.length < sizeLine then .ok (.nx (r.2.set i (.mu (.lst (ds ++ [r.1]))))) else .no
    | _ => .no
  else .no
theorem isL_some {o : Option Sl} (h : isL o = true) : ∃ ds, o = some (.mu (.lst ds)) := by
  unfold isL at h
  split at h
  · exact ⟨_, rfl⟩
  · cases h
theorem Rel.own {K : Frag} {T : List (Addr × Str)} {ρ : Rho} {σ : L2.St} {G H : Hp} {i : Nat} {ds : List DL.D} (R : Rel K T G ρ σ H) (h : ρ[i]? = some (.mu (.lst ds))) :
    ∃ p vs, σ[i]? = some (some (.ref p)) ∧ G p = none ∧ H p = some (.lst vs) ∧ DqAll K G vs ds := by
  have hi : i < σ.length := by rw [R.len]; exact (List.getElem?_eq_some_iff.mp h).1
  obtain ⟨p, e, g, vs, hp, d⟩ := R.sl i _ _ h (List.getElem?_eq_getElem hi)
  exact ⟨p, vs, by rw [List.getElem?_eq_getElem hi, e], g, hp, d⟩
theorem ds_append {i : Nat} (h : PE X e (tBM X.K "list" rAppend (tVar i) (tCons (tE c X.K fa) tNil))) (hs : swapsWith e none pos.line X.env = pure false := by rfl) : DS c X (.Expr e pos) (appS i fa) := by
  refine DS.mk ⟨_, ps_expr h hs, fun ρ σ G H D R h => ?_⟩
  unfold appS at h
  by_cases hl : isL ρ[i]? = true
  · rw [if_pos hl] at h
    obtain ⟨ds0, e0⟩ := isL_some hl
    obtain ⟨p, vs0, e1, _, hp0, _⟩ := R.own e0
    refine ⟨.ref p, e1, .inl ⟨rfl, _, .of hp0⟩, ρ, G, R, h.first.imp fun r h2 v G1 H1 S d => ?_⟩
    split at h2
    · rename_i ds e2
      by_cases hz : ds.length < sizeLine
      · rw [if_pos hz] at h2
        obtain ⟨p', vs, e3, g, hp, dd⟩ := S.rel.own e2
        rw [e1] at e3
        cases e3
        refine ⟨p, vs, v, rfl, rfl, hp, by rw [dd.length]; exact hz, ?_⟩
        exact h2 _ _ _ (S.trans (Stp.write (n := c.n) S.rel e2 e1 hp (fun _ z => nomatch z) (fun _ z => nomatch z) ⟨g, _, upd_same, dd.append (.one d)⟩))
      · rw [if_neg hz] at h2
        exact h2.elim
    · exact h2.elim
  · rw [if_neg hl] at h
    exact h.elim
/-- xs.pop(0), xs the frame's own -/
def pop0E (i : Nat) : FE := fun ρ => match ρ[i]? with
  | some (.mu (.lst (d :: ds))) => .ok (d, ρ.set i (.mu (.lst ds)))
  | _ => .no
theorem de_pop0 {i : Nat} (h : PE X e (tBM X.K "list" rPopAt (tVar i) (tCons (tC (.int 0)) tNil))) : DE c X e (pop0E i) := by
  refine DE.mk ⟨_, h, fun ρ σ G H Q R h => ?_⟩
  unfold pop0E at h
  split at h
  · rename_i d ds e0
    obtain ⟨p, vs, e1, g, hp, dd⟩ := R.own e0
    cases dd with
    | @cons v vs _ _ hd ht =>
      refine ⟨.ref p, e1, .inl ⟨rfl, _, .of hp⟩, p, _, 0, 0, v, rfl, rfl, hp, by omega, by omega, ?_, rfl, ?_⟩
      · unfold seqIndex?
        simp
      · exact h v G _ (Stp.write (n := c.n) R e0 e1 hp (fun _ z => nomatch z) (fun _ z => nomatch z) ⟨g, _, upd_same, ht⟩) hd
  · exact h.elim
/-- xs.pop(), xs the frame's own -/
def popE (i : Nat) : FE := fun ρ => match ρ[i]? with
  | some (.mu (.lst ds)) => match ds.getLast? with
    | some d => .ok (d, ρ.set i (.mu (.lst ds.dropLast)))
    | none => .no
  | _ => .no
theorem DqAll.dropLast {K : Frag} {G : Hp} {vs : List V} {ds : List DL.D} (h : DqAll K G vs ds) : DqAll K G vs.dropLast ds.dropLast := by
  rw [List.dropLast_eq_take, List.dropLast_eq_take, h.length]
  exact h.take _
theorem de_pop {i : Nat} (h : PE X e (tBM0 X.K "list" rPop (tVar i))) : DE c X e (popE i) := by
  refine DE.mk ⟨_, h, fun ρ σ G H Q R h => ?_⟩
  unfold popE at h
  split at h
  · rename_i ds e0
    split at h
    · rename_i d ed
      obtain ⟨p, vs, e1, g, hp, dd⟩ := R.own e0
      rw [List.getLast?_eq_getElem?] at ed
      obtain ⟨v, ev, hv⟩ := dd.atD ed
      rw [← dd.length] at ev
      refine ⟨.ref p, e1, .inl ⟨rfl, _, .of hp⟩, p, vs, v, rfl, rfl, hp, ev, ?_⟩
      exact h v G _ (Stp.write (n := c.n) R e0 e1 hp (fun _ z => nomatch z) (fun _ z => nomatch z) ⟨g, _, upd_same, dd.dropLast⟩) hv
    · exact h.elim
  · exact h.elim
/-- a list of the frame's own, handed over as it is -/
def moveF (i : Nat) : Rho → Rs (List DL.D × Rho) := fun ρ => match ρ[i]? with
  | some (.mu (.lst ds)) => .ok (ds, ρ.set i .un)
  | _ => .no
theorem df_move {i : Nat} (h : PE X e (tVar i)) : DF c X e (moveF i) := by
  refine DF.mk ⟨_, h, fun ρ σ G H Q R h => ?_⟩
  unfold moveF at h
  split at h
  · rename_i ds e0
    obtain ⟨p, vs, e1, g, hp, dd⟩ := R.own e0
    refine ⟨.ref p, e1, h p vs G H (.forget R) (fun q ⟨j, m, h1, h2⟩ z => ?_) (.inr (mu_of e0 e1)) g hp dd⟩
    subst z
    rcases get_set h1 with ⟨_, q⟩ | ⟨q1, q⟩
    · cases q
    · exact q1 (R.ne j i _ _ _ q e0 h2 e1)
  · exact h.elim
theorem de_move {i : Nat} (h : PE X e (tVar i)) : DE c X e (moveE i) := by
  refine DE.mk ⟨_, h, fun ρ σ G H Q R h => ?_⟩
  unfold moveE at h
  split at h
  · rename_i ds e0
    obtain ⟨p, vs, e1, g, hp, dd⟩ := R.own e0
    have S := Stp.freeze (n := c.n) R e0 e1 hp (fun _ z => nomatch z)
    exact ⟨.ref p, e1, h _ _ _ S (.lst upd_same (dd.mono S.ext.sG))⟩
  · exact h.elim
/-- xs == [], xs != [], of a list of the frame's own that stays its own -/
def ownNeNil (i : Nat) : FB := fun ρ => match ρ[i]? with
  | some (.mu (.lst ds)) => if (DL.D.lst ds).fit = true then .ok (!ds.isEmpty, ρ) else .no
  | _ => .no

/-! ### raise -/
/-- what of the text a class of errors must have -/
structure ErrC (K : Frag) (mg : Str → Option Value) (x : Str) (C : Addr) : Prop where
  g : mg x = some (.ref C)
  ex : PySem.W.excIn K C [.type "ValueError", .type "Exception", .type "BaseException", .type "object"] "ValueError.__new__" = true
  kp : PySem.W.keepIn K (.ref C) = true
  sb : PySem.W.subIn K (.ref C) (.type "BaseException") = some true
  ty : PySem.W.typeIn K (.ref C) = some (.type "type")
def raiseS (x : Xc) : FS := fun _ => .er x
/-- raise X('..') in a def's own body -/
theorem ds_raise {x m : Str} {xc : Xc} {j : Nat} {p p2 p3 : Pos} {W : WX} (hc : X.calm = true) (tk : L2N.Takes X W) (hW : ∀ cls d σ H, c.E cls d H → W cls d σ H) (EC : ErrC X.K X.mg x (c.cl xc)) (hg : Gl X x := by rfl)
    (hdb : (x == ("__debug__" : Str)) = false := by decide) : DS c X (.Raise (some (.Call (.Name x p) [.Constant (.str m) j p2] [] p3)) none pos) (raiseS xc) := by
  refine DS.mk ⟨_, L2N.ps_raise hc tk (L2N.pmk_own PySem.F.excBase_ValueError EC.ex EC.g EC.kp (raises_own EC.sb EC.ty) hg hdb), fun ρ σ G H D R h => ?_⟩
  exact hW _ _ _ _ (h G H (.refl R.wf))

/-! ### what a loop walks -/
structure JOk (c : Dc) (K : Frag) (J : It) (G0 : Hp) (items : List DL.D) : Prop where
  go : ∀ (i : Nat) (ρ : Rho) (σ : L2.St) (G H : Hp), Rel K c.T G ρ σ H → Same G0 G → i < items.length → J.go i H
  stop : ∀ (i : Nat) (ρ : Rho) (σ : L2.St) (G H : Hp), Rel K c.T G ρ σ H → Same G0 G → items.length ≤ i → J.stop i H
  yld : ∀ (i : Nat) (d : DL.D) (ρ : Rho) (σ : L2.St) (G H : Hp) (x : V) (H' : Hp), Rel K c.T G ρ σ H → Same G0 G → items[i]? = some d → J.yld i H x H' → ∃ G', Stp K c.T c.n ρ σ G H ρ σ G' H' ∧ Dq K G' x d
abbrev FI := Rho → Rs (List DL.D × Rho)
def tI (c : Dc) (K : Frag) (f : FI) : TI := fun σ H R => ∃ (ρ : Rho) (G : Hp), Rel K c.T G ρ σ H ∧ Sat c (Mu ρ σ) G H (f ρ) fun r => ∀ J G' H', Stp K c.T c.n ρ σ G H r.2 σ G' H' → JOk c K J G' r.1 → R J H'
def DI (c : Dc) (X : Cx) (tg iter : Expr) (f : FI) : Prop := PI X tg iter (tI c X.K f)
theorem DI.mk {f : FI} (h : ∃ t, PI X tg e t ∧ ∀ (ρ : Rho) (σ : L2.St) (G H : Hp) (R : It → Hp → Prop), Rel X.K c.T G ρ σ H → Sat c (Mu ρ σ) G H (f ρ) (fun r => ∀ J G' H', Stp X.K c.T c.n ρ σ G H r.2 σ G' H' → JOk c X.K J G' r.1 → R J H') → t σ H R) : DI c X tg e f := by
  obtain ⟨t, p, k⟩ := h
  exact ⟨fun pins s σ H R I ⟨ρ, G, r, q⟩ => p.run pins s σ H R I (k ρ σ G H R r q)⟩
theorem jok_list {K : Frag} {G0 : Hp} {a : Addr} {xs : List V} {ds : List DL.D} (h : G0 a = some (.lst xs)) (d : DqAll K G0 xs ds) : JOk c K (Itl K a) G0 ds where
  go := fun i ρ σ G H R e hi => ⟨xs, xs[i]'(by rw [d.length]; exact hi), .of (R.wf.same _ _ (e _ _ h)), List.getElem?_eq_getElem _⟩
  stop := fun i ρ σ G H R e hi => ⟨xs, .of (R.wf.same _ _ (e _ _ h)), by rw [d.length]; exact hi⟩
  yld := fun i dd ρ σ G H x H' R e hi hy => by
    obtain ⟨rfl, hy⟩ := hy
    exact ⟨G, .refl R, (d.mono e).get (hy xs (.of (R.wf.same _ _ (e _ _ h)))) hi⟩
theorem jok_tup {K : Frag} {G0 : Hp} {a : Addr} {xs : List V} {ds : List DL.D} (h : SqT K G0 a xs) (d : DqAll K G0 xs ds) : JOk c K (Itt K a) G0 ds where
  go := fun i ρ σ G H R e hi => ⟨xs, xs[i]'(by rw [d.length]; exact hi), sqT_mono (e.trans R.wf.same) h, List.getElem?_eq_getElem _⟩
  stop := fun i ρ σ G H R e hi => ⟨xs, sqT_mono (e.trans R.wf.same) h, by rw [d.length]; exact hi⟩
  yld := fun i dd ρ σ G H x H' R e hi hy => by
    obtain ⟨rfl, hy⟩ := hy
    exact ⟨G, .refl R, (d.mono e).get (hy xs (sqT_mono (e.trans R.wf.same) h)) hi⟩
/-- over a list, over a tuple -/
def iterL (fa : FE) : FI := fun ρ => (fa ρ).bind fun r => match r.1 with
  | .lst ds => .ok (ds, r.2)
  | _ => .no
def iterT (fa : FE) : FI := fun ρ => (fa ρ).bind fun r => match r.1 with
  | .tup ds => .ok (ds, r.2)
  | _ => .no
theorem di_list (ha : DE c X a fa) : DI c X tg a (iterL fa) := by
  obtain ⟨t1, p1, k1⟩ := ha.un
  refine DI.mk ⟨_, pi_list p1, fun ρ σ G H R r h => ?_⟩
  refine k1 ρ σ G H _ r (h.first.imp fun r1 h2 v G1 H1 S d => ?_)
  obtain ⟨d0, ρ1⟩ := r1
  cases d0 with
  | lst ds =>
    obtain ⟨l, xs, rfl, hl, hxs⟩ := dq_lst d
    exact ⟨l, rfl, ⟨xs, .of (S.rel.wf.same _ _ hl)⟩, h2 _ G1 H1 S (jok_list hl hxs)⟩
  | _ => exact h2.elim
theorem di_tup (ha : DE c X a fa) : DI c X tg a (iterT fa) := by
  obtain ⟨t1, p1, k1⟩ := ha.un
  refine DI.mk ⟨_, pi_tup p1, fun ρ σ G H R r h => ?_⟩
  refine k1 ρ σ G H _ r (h.first.imp fun r1 h2 v G1 H1 S d => ?_)
  obtain ⟨d0, ρ1⟩ := r1
  cases d0 with
  | tup ds =>
    obtain ⟨l, xs, rfl, hl, hxs⟩ := dq_tup d
    exact ⟨l, rfl, ⟨xs, sqT_mono S.rel.wf.same hl⟩, h2 _ G1 H1 S (jok_tup hl hxs)⟩
  | _ => exact h2.elim
/-- range -/
def rgD (lo : Int) (n : Nat) : List DL.D := (List.range n).map fun i => .int (lo + (i : Nat))
theorem rgD_get {lo : Int} {n i : Nat} {d : DL.D} (h : (rgD lo n)[i]? = some d) : d = .int (lo + (i : Nat)) := by
  unfold rgD at h
  rw [List.getElem?_map] at h
  cases e : (List.range n)[i]? with
  | none => rw [e] at h; cases h
  | some j =>
    rw [e] at h
    have hj : j = i := by
      obtain ⟨h1, h2⟩ := List.getElem?_eq_some_iff.mp e
      rw [List.getElem_range] at h2
      exact h2.symm
    subst hj
    exact (Option.some.inj h).symm
theorem jok_rng {K : Frag} {G0 : Hp} {lo : Int} {n : Nat} : JOk c K (Itr lo n) G0 (rgD lo n) where
  go := fun i ρ σ G H R e hi => by
    unfold rgD at hi
    rw [List.length_map, List.length_range] at hi
    exact hi
  stop := fun i ρ σ G H R e hi => by
    unfold rgD at hi
    rw [List.length_map, List.length_range] at hi
    exact hi
  yld := fun i dd ρ σ G H x H' R e hi hy => by
    obtain ⟨rfl, rfl⟩ := hy
    rw [rgD_get hi]
    exact ⟨G, .refl R, .int _⟩
def iterR1 (fas : Rho → Rs (List DL.D × Rho)) : FI := fun ρ => (fas ρ).bind fun r => match r.1 with
  | [.int j] => if -(2 ^ 62) ≤ j ∧ j < 2 ^ 62 then .ok (rgD 0 j.toNat, r.2) else .no
  | _ => .no
def iterR2 (fas : Rho → Rs (List DL.D × Rho)) : FI := fun ρ => (fas ρ).bind fun r => match r.1 with
  | [.int i, .int j] => if -(2 ^ 62) ≤ i ∧ i < 2 ^ 62 ∧ -(2 ^ 62) ≤ j ∧ j < 2 ^ 62 then .ok (rgD i (j - i).toNat, r.2) else .no
  | _ => .no
theorem di_range1 {fas : Rho → Rs (List DL.D × Rho)} {p : Pos} (hm : X.mg "range" = none) (ha : DAs c X [a] fas) (hg : Gl X "range" := by rfl) (hs : starEach [a] X.env = [(false, eval a X.env)] := by rfl) : DI c X tg (.Call (.Name "range" p) [a] [] pos) (iterR1 fas) := by
  obtain ⟨t1, p1, k1⟩ := ha.un
  refine DI.mk ⟨_, pi_range1 hg hm p1 hs, fun ρ σ G H R r h => ?_⟩
  refine k1 ρ σ G H _ r (h.first.imp fun r1 h2 v G1 H1 S d => ?_)
  obtain ⟨ds, ρ1⟩ := r1
  dsimp only at h2
  split at h2
  · rename_i j
    split at h2
    · rename_i hz
      obtain ⟨v1, rfl, d1⟩ := dqAll1 d
      cases dq_int d1
      exact ⟨j, rfl, hz.1, hz.2, h2 _ G1 H1 S jok_rng⟩
    · exact h2.elim
  · exact h2.elim
theorem di_range2 {fas : Rho → Rs (List DL.D × Rho)} {p : Pos} (hm : X.mg "range" = none) (ha : DAs c X [a, b] fas) (hg : Gl X "range" := by rfl) (hs : starEach [a, b] X.env = [(false, eval a X.env), (false, eval b X.env)] := by rfl) (hs2 : starEach [b] X.env = [(false, eval b X.env)] := by rfl) :
    DI c X tg (.Call (.Name "range" p) [a, b] [] pos) (iterR2 fas) := by
  obtain ⟨t1, p1, k1⟩ := ha.un
  refine DI.mk ⟨_, pi_range2 hg hm p1 hs hs2, fun ρ σ G H R r h => ?_⟩
  refine k1 ρ σ G H _ r (h.first.imp fun r1 h2 v G1 H1 S d => ?_)
  obtain ⟨ds, ρ1⟩ := r1
  dsimp only at h2
  split at h2
  · rename_i i j
    split at h2
    · rename_i hz
      obtain ⟨v1, v2, rfl, d1, d2⟩ := dqAll2 d
      cases dq_int d1
      cases dq_int d2
      exact ⟨i, j, rfl, hz, h2 _ G1 H1 S jok_rng⟩
    · exact h2.elim
  · exact h2.elim
/-- a loop is a run through the items -/
def forD (g : FG) (b : FS) : List DL.D → Rho → Rs Out
  | [], ρ => .ok (.nx ρ)
  | d :: ds, ρ => (g d ρ).bind fun ρ1 => (b ρ1).bind fun o => match o with
    | .nx ρ2 => forD g b ds ρ2
    | .rt r ρ2 => .ok (.rt r ρ2)
def forS (f : FI) (g : FG) (b : FS) : FS := fun ρ => (f ρ).bind fun r => forD g b r.1 r.2
theorem ds_for {body : List Stmt} {fi : FI} {gg : FG} {ts : List Nat} {fb : FS} (hp : PassesOwn (model X.prog X.w) X.A X.env X.xe) (hc : X.calm = true) (hi : DI c X tg e fi) (hg : DG c X tg ts gg) (hb : DSs c X body fb)
    (hs : ∀ x, foldedSetIterable e X.env x = pure x := by intro _; rfl) : DS c X (.For tg e body [] pos) (forS fi gg fb) := by
  refine DS.mk ⟨_, ps_for hp hc hi hg hb hs, fun ρ σ G H D R h => ?_⟩
  refine ⟨ρ, G, R, h.first.imp fun r h2 J G1 H1 S jok => ?_⟩
  refine ⟨fun i m σ' H' => ∃ ρ' G', Stp X.K c.T c.n ρ σ G H ρ' σ' G' H' ∧ Same G1 G' ∧ m = r.1.length - i ∧ i ≤ r.1.length ∧ Sat c (Mu ρ σ) G H (forD gg fb (r.1.drop i) ρ') (OutK c X.K ρ σ G H D),
    ⟨r.1.length, r.2, G1, S, Same.refl _, by simp, Nat.zero_le _, by rw [List.drop_zero]; exact h2⟩, ?_⟩
  rintro i m σ' H' ⟨ρ', G', S', sm, rfl, hi, hq⟩
  by_cases hlt : i < r.1.length
  · refine .inr ⟨jok.go i ρ' σ' G' H' S'.rel sm hlt, fun σ2 H2 => ∃ ρ2 G2, Stp X.K c.T c.n ρ σ G H ρ2 σ2 G2 H2 ∧ Same G1 G2 ∧ Sat c (Mu ρ σ) G H (forD gg fb (r.1.drop (i + 1)) ρ2) (OutK c X.K ρ σ G H D), fun σ2 H2 ⟨ρ2, G2, a1, a2, a3⟩ => ⟨r.1.length - (i + 1), by omega, ρ2, G2, a1, a2, rfl, hlt, a3⟩, fun x H2 hy => ?_⟩
    obtain ⟨G2, S2, dx⟩ := jok.yld i (r.1[i]) ρ' σ' G' H' x H2 S'.rel sm (List.getElem?_eq_getElem hlt) hy
    rw [List.drop_eq_getElem_cons hlt] at hq
    have hq : Sat c (Mu ρ σ) G H ((gg r.1[i] ρ').bind fun ρ1 => (fb ρ1).bind fun o => match o with
      | .nx ρ2 => forD gg fb (r.1.drop (i + 1)) ρ2
      | .rt r ρ2 => .ok (.rt r ρ2)) (OutK c X.K ρ σ G H D) := hq
    have T2 := S'.trans S2
    refine ⟨ρ', G2, r.1[i], S2.rel, dx, hq.first.on T2 fun ρ3 h3 σ3 G3 H3 S3 _ => ?_⟩
    have T3 := T2.trans S3
    refine ⟨ρ3, G3, S3.rel, h3.first.on T3 fun o h4 => ?_⟩
    cases o with
    | nx ρ4 => exact fun σ4 G4 H4 S4 => ⟨ρ4, G4, T3.trans S4, sm.trans (S2.ext.sG.trans (S3.ext.sG.trans S4.ext.sG)), h4⟩
    | rt rr ρ4 => exact OutK.rts (D := D) T3 h4 fun _ _ z => z
  · have e : i = r.1.length := by omega
    subst e
    rw [List.drop_length] at hq
    exact .inl ⟨jok.stop _ ρ' σ' G' H' S'.rel sm (Nat.le_refl _), hq σ' G' H' S'⟩
end
end DL

set_option maxHeartbeats 4000000
/-! DLe: while, comprehensions, zip, enumerate on data. -/
namespace DL
open PySem PySem.Spec PyProof.Rows L2
theorem Rs.bind_assoc {α β γ : Type} (r : Rs α) (f : α → Rs β) (g : β → Rs γ) : (r.bind f).bind g = r.bind fun x => (f x).bind g := by
  cases r <;> rfl
section
variable {c : Dc} {X : Cx} {a b e tg : Expr} {es : List Expr} {st : Stmt} {sts : List Stmt} {fa fb : FE} {t u : FB} {f g : FS} {pos : Pos}
def whileD (t : FB) (b : FS) : Nat → FS
  | 0, _ => .no
  | k + 1, ρ => (t ρ).bind fun r => if r.1 = true then (b r.2).bind fun o => match o with
      | .nx ρ2 => whileD t b k ρ2
      | .rt r ρ2 => .ok (.rt r ρ2)
    else .ok (.nx r.2)
theorem ds_while {body : List Stmt} (n : Nat) (hp : PassesOwn (model X.prog X.w) X.A X.env X.xe) (ht : DB c X a t) (hb : DSs c X body f) : DS c X (.While a body [] pos) (whileD t f n) := by
  refine DS.mk ⟨_, ps_while hp ht hb, fun ρ σ G H D R h => ?_⟩
  refine ⟨fun m σ' H' => ∃ ρ' G', Stp X.K c.T c.n ρ σ G H ρ' σ' G' H' ∧ Sat c (Mu ρ σ) G H (whileD t f m ρ') (OutK c X.K ρ σ G H D), ⟨n, ρ, G, .refl R, h⟩, ?_⟩
  rintro m σ' H' ⟨ρ', G', S, q⟩
  cases m with
  | zero => exact q.elim
  | succ m =>
    have q : Sat c (Mu ρ σ) G H ((t ρ').bind fun r => if r.1 = true then (f r.2).bind fun o => match o with
      | .nx ρ2 => whileD t f m ρ2
      | .rt r ρ2 => .ok (.rt r ρ2)
      else .ok (.nx r.2)) (OutK c X.K ρ σ G H D) := q
    refine ⟨ρ', G', S.rel, q.first.on S fun r h2 G1 H1 S1 => ?_⟩
    obtain ⟨k, ρ1⟩ := r
    have T1 := S.trans S1
    cases k with
    | true =>
      rw [if_pos rfl] at h2
      refine iteT ⟨fun σ2 H2 => ∃ ρ2 G2, Stp X.K c.T c.n ρ σ G H ρ2 σ2 G2 H2 ∧ Sat c (Mu ρ σ) G H (whileD t f m ρ2) (OutK c X.K ρ σ G H D), fun σ2 H2 ⟨ρ2, G2, a1, a2⟩ => ⟨m, Nat.lt_succ_self _, ρ2, G2, a1, a2⟩, ?_⟩
      refine ⟨ρ1, G1, S1.rel, h2.first.on T1 fun o h4 => ?_⟩
      cases o with
      | nx ρ4 => exact fun σ4 G4 H4 S4 => ⟨ρ4, G4, T1.trans S4, h4⟩
      | rt rr ρ4 => exact OutK.rts (D := D) T1 h4 fun _ _ z => z
    | false =>
      rw [if_neg Bool.false_ne_true] at h2
      exact iteF (h2 σ' G1 H1 T1)

/-! ### comprehensions -/
/-- an error is not told of -/
def noX {α : Type} : Rs α → Rs α
  | .ok a => .ok a
  | .er _ => .no
  | .no => .no
@[simp] theorem noX_ok {α : Type} (a : α) : noX (.ok a) = .ok a := rfl
@[simp] theorem noX_no {α : Type} : noX (.no : Rs α) = .no := rfl
@[simp] theorem noX_er {α : Type} (x : Xc) : noX (.er x : Rs α) = .no := rfl
/-- in a block no error is wished for -/
abbrev Dc.blk (c : Dc) : Dc := { c with E := fun _ _ _ => False }
theorem Sat.blk {α : Type} {M : Addr → Prop} {G H : Hp} {r : Rs α} {k : α → Prop} (h : Sat c M G H (noX r) k) : Sat c.blk M G H r k := by
  cases r with
  | ok a => exact h
  | er x => exact h.elim
  | no => exact h
theorem Sat.noX {α : Type} {M : Addr → Prop} {G H : Hp} {r : Rs α} {k : α → Prop} (h : Sat c M G H (DL.noX r) k) : ∃ a, r = .ok a ∧ k a := by
  cases r with
  | ok a => exact ⟨a, rfl, h⟩
  | er x => exact h.elim
  | no => exact h.elim
def wipeR (ρ : Rho) : List Nat → Rho
  | [] => ρ
  | v :: vs => (wipeR ρ vs).set v .un
def restR (ρ ρ1 : Rho) : List Nat → Rho
  | [] => ρ1
  | v :: vs => (restR ρ ρ1 vs).set v ((ρ[v]?).getD .un)
def noMus (ρ : Rho) (vs : List Nat) : Bool := vs.all fun i => !isMu ρ[i]?
theorem get_wipeR {ρ : Rho} {j : Nat} {s : Sl} : ∀ {vs : List Nat}, (wipeR ρ vs)[j]? = some s → (j ∈ vs ∧ s = .un) ∨ (j ∉ vs ∧ ρ[j]? = some s)
  | [], h => .inr ⟨by simp, h⟩
  | v :: vs, h => by
    rcases get_set (show ((wipeR ρ vs).set v .un)[j]? = some s from h) with ⟨q1, q2⟩ | ⟨q1, q2⟩
    · exact .inl ⟨by rw [q1]; exact List.mem_cons_self, q2⟩
    · rcases get_wipeR q2 with ⟨q3, q4⟩ | ⟨q3, q4⟩
      · exact .inl ⟨List.mem_cons_of_mem _ q3, q4⟩
      · exact .inr ⟨fun z => (List.mem_cons.mp z).elim q1 q3, q4⟩
theorem get_restR {ρ ρ1 : Rho} {j : Nat} {s : Sl} : ∀ {vs : List Nat}, (restR ρ ρ1 vs)[j]? = some s → (j ∈ vs ∧ s = (ρ[j]?).getD .un) ∨ (j ∉ vs ∧ ρ1[j]? = some s)
  | [], h => .inr ⟨by simp, h⟩
  | v :: vs, h => by
    rcases get_set (show ((restR ρ ρ1 vs).set v ((ρ[v]?).getD .un))[j]? = some s from h) with ⟨q1, q2⟩ | ⟨q1, q2⟩
    · subst q1; exact .inl ⟨List.mem_cons_self, q2⟩
    · rcases get_restR q2 with ⟨q3, q4⟩ | ⟨q3, q4⟩
      · exact .inl ⟨List.mem_cons_of_mem _ q3, q4⟩
      · exact .inr ⟨fun z => (List.mem_cons.mp z).elim q1 q3, q4⟩
theorem get_wipe {σ : L2.St} {j : Nat} {o : Option V} : ∀ {vs : List Nat}, (wipe σ vs)[j]? = some o → (j ∈ vs ∧ o = none) ∨ (j ∉ vs ∧ σ[j]? = some o)
  | [], h => .inr ⟨by simp, h⟩
  | v :: vs, h => by
    rcases get_set (show ((wipe σ vs).set v none)[j]? = some o from h) with ⟨q1, q2⟩ | ⟨q1, q2⟩
    · exact .inl ⟨by rw [q1]; exact List.mem_cons_self, q2⟩
    · rcases get_wipe q2 with ⟨q3, q4⟩ | ⟨q3, q4⟩
      · exact .inl ⟨List.mem_cons_of_mem _ q3, q4⟩
      · exact .inr ⟨fun z => (List.mem_cons.mp z).elim q1 q3, q4⟩
theorem wipe_out {σ : L2.St} {j : Nat} : ∀ {vs : List Nat}, j ∉ vs → (wipe σ vs)[j]? = σ[j]?
  | [], _ => rfl
  | v :: vs, h => by
    show ((wipe σ vs).set v none)[j]? = _
    rw [List.getElem?_set_ne (fun z => h (by rw [z]; exact List.mem_cons_self))]
    exact wipe_out fun z => h (List.mem_cons_of_mem _ z)
theorem wipeR_length (ρ : Rho) : ∀ vs : List Nat, (wipeR ρ vs).length = ρ.length
  | [] => rfl
  | v :: vs => by
    show ((wipeR ρ vs).set v .un).length = _
    rw [List.length_set, wipeR_length ρ vs]
theorem restR_length (ρ ρ1 : Rho) : ∀ vs : List Nat, (restR ρ ρ1 vs).length = ρ1.length
  | [] => rfl
  | v :: vs => by
    show ((restR ρ ρ1 vs).set v _).length = _
    rw [List.length_set, restR_length ρ ρ1 vs]
section
variable {K : Frag} {T : List (Addr × Str)} {n : Nat} {ρ ρ1 : Rho} {σ : L2.St} {G H G1 H1 : Hp} {vs : List Nat}
theorem mu_wipe {q : Addr} (h : Mu (wipeR ρ vs) (wipe σ vs) q) : Mu ρ σ q := by
  obtain ⟨i, m, e1, e2⟩ := h
  rcases get_wipeR e1 with ⟨_, z⟩ | ⟨n1, e3⟩
  · cases z
  · rw [wipe_out n1] at e2
    exact ⟨i, m, e3, e2⟩
theorem Stp.wipe (R : Rel K T G ρ σ H) : Stp K T n ρ σ G H (wipeR ρ vs) (L2.wipe σ vs) G H := by
  refine ⟨⟨R.wf, by rw [L2.wipe_length, wipeR_length]; exact R.len, fun i s o e1 e2 => ?_, fun i j m m' p e1 e2 e3 e4 => ?_⟩, .refl R.wf, fun a h => .inl (mu_wipe h), fun i m' hi e => ?_⟩
  · rcases get_wipeR e1 with ⟨_, z⟩ | ⟨n1, e3⟩
    · subst z; trivial
    · rw [wipe_out n1] at e2
      exact R.sl i s o e3 e2
  · rcases get_wipeR e1 with ⟨_, z⟩ | ⟨n1, e1'⟩
    · cases z
    · rcases get_wipeR e2 with ⟨_, z⟩ | ⟨n2, e2'⟩
      · cases z
      · rw [wipe_out n1] at e3
        rw [wipe_out n2] at e4
        exact R.ne i j m m' p e1' e2' e3 e4
  · rcases get_wipeR e with ⟨_, z⟩ | ⟨n1, e1'⟩
    · cases z
    · exact ⟨⟨m', e1'⟩, wipe_out n1⟩
/-- out of the block: its own names' slots as they were ahead of it -/
theorem Stp.unwipe (R : Rel K T G ρ σ H) (S : Stp K T n ρ σ G H ρ1 (L2.wipe σ vs) G1 H1) (hn : noMus ρ vs = true) : Stp K T n ρ σ G H (restR ρ ρ1 vs) σ G1 H1 := by
  have hl : ρ1.length = σ.length := by rw [← S.rel.len, L2.wipe_length]
  have noM : ∀ (i : Nat) (m : Mo), i ∈ vs → ¬ (ρ[i]?).getD Sl.un = .mu m := fun i m hi z => by
    have q := List.all_eq_true.mp hn i hi
    cases e : ρ[i]? with
    | none => rw [e] at z; cases z
    | some s =>
      rw [e] at z q
      have z : s = .mu m := z
      subst z
      simp [isMu] at q
  have mu : ∀ (i : Nat) (m : Mo), (restR ρ ρ1 vs)[i]? = some (Sl.mu m) → i ∉ vs ∧ ρ1[i]? = some (Sl.mu m) := fun i m e => by
    rcases get_restR e with ⟨q1, q2⟩ | q
    · exact absurd q2.symm (noM i m q1)
    · exact q
  refine ⟨⟨S.rel.wf, by rw [restR_length]; exact hl.symm, fun i s o e1 e2 => ?_, fun i j m m' p e1 e2 e3 e4 => ?_⟩, S.ext, fun a ⟨i, m, e1, e2⟩ => ?_, fun i m' hi e => ?_⟩
  · rcases get_restR e1 with ⟨q1, q2⟩ | ⟨q1, q2⟩
    · cases e : ρ[i]? with
      | none => rw [e] at q2; subst q2; trivial
      | some s' =>
        rw [e] at q2
        have q2 : s = s' := q2
        subst q2
        have h := R.sl i s o e e2
        refine h.mono S.ext.sG fun p _ ⟨m, em⟩ => ?_
        exact absurd (by rw [e]; exact em) (noM i m q1)
    · rw [← wipe_out q1 (σ := σ)] at e2
      exact S.rel.sl i s o q2 e2
  · obtain ⟨a1, a2⟩ := mu i m e1
    obtain ⟨b1, b2⟩ := mu j m' e2
    exact S.rel.ne i j m m' p a2 b2 (by rw [wipe_out a1]; exact e3) (by rw [wipe_out b1]; exact e4)
  · obtain ⟨a1, a2⟩ := mu i m e1
    exact S.mm a ⟨i, m, a2, by rw [wipe_out a1]; exact e2⟩
  · obtain ⟨a1, a2⟩ := mu i m' e
    obtain ⟨b1, b2⟩ := S.pr i m' hi a2
    exact ⟨b1, by rw [← b2, wipe_out a1]⟩
end
/-- a new list that is being made, out of the kept part: it stays what it is while other code runs -/
structure Acc (K : Frag) (G H : Hp) (M : Addr → Prop) (L : Addr) (acc : List V) (ds : List DL.D) : Prop where
  h : H L = some (.lst acc)
  g : G L = none
  m : ∀ q, M q → q ≠ L
  d : DqAll K G acc ds
theorem Acc.on {K : Frag} {T : List (Addr × Str)} {n : Nat} {ρ ρ1 : Rho} {σ σ1 : L2.St} {G H G1 H1 : Hp} {L : Addr} {acc : List V} {ds : List DL.D} (A : Acc K G H (Mu ρ σ) L acc ds) (S : Stp K T n ρ σ G H ρ1 σ1 G1 H1) : Acc K G1 H1 (Mu ρ1 σ1) L acc ds := by
  have nm : ¬ Mu ρ σ L := fun z => A.m L z rfl
  refine ⟨S.ext.sH L _ A.h nm fun _ z => (nomatch z), S.ext.fr L A.g (by rw [A.h]; trivial) nm, fun q hq z => ?_, A.d.mono S.ext.sG⟩
  subst z
  rcases S.mm q hq with z | z
  · exact nm z
  · rw [A.h] at z; cases z
section
variable {K : Frag} {T : List (Addr × Str)} {n : Nat} {ρ ρ1 : Rho} {σ σ1 : L2.St} {G H G1 H1 : Hp} {L : Addr} {x y : List V} {ds : List DL.D}
/-- it grows -/
theorem Stp.touch (S : Stp K T n ρ σ G H ρ1 σ1 G1 H1) (hL : H L = none) (A : Acc K G1 H1 (Mu ρ1 σ1) L x ds) : Stp K T n ρ σ G H ρ1 σ1 G1 (upd H1 L (.lst y)) := by
  have w : Wf T G1 (upd H1 L (.lst y)) := by
    refine ⟨fun a u q => ?_, tabs_keep S.rel.wf.tabs fun b u q hv => ?_, S.rel.wf.ntb⟩
    · rw [upd_ne (ne_of_none q A.g)]; exact S.rel.wf.same _ _ q
    · rw [upd_ne fun z => ?_]; exact q
      rw [z, A.h] at q
      rcases hv with ⟨ps, e⟩ | ⟨φ, e⟩
      · rw [e] at q; cases q
      · rw [e] at q; cases q
  refine ⟨S.rel.grow w (Same.refl _) fun a ha => ⟨S.rel.muFree ha, by rw [upd_ne (A.m a ha)]⟩, ⟨w, S.ext.sG, fun a o q nm nt => ?_, S.ext.fr, fun a q z => ?_⟩, S.mm, S.pr⟩
  · rw [upd_ne (ne_of_none q hL)]; exact S.ext.sH a o q nm nt
  · by_cases e : a = L
    · subst e; rw [upd_same] at z; cases z
    · rw [upd_ne e] at z; exact S.ext.al a q z
/-- it joins the kept part -/
theorem Stp.keepL (S : Stp K T n ρ σ G H ρ1 σ1 G1 H1) (hL : H L = none) (A : Acc K G1 H1 (Mu ρ1 σ1) L x ds) : Stp K T n ρ σ G H ρ1 σ1 (upd G1 L (.lst x)) H1 ∧ Dq K (upd G1 L (.lst x)) (.ref L) (.lst ds) := by
  have sG : Same G1 (upd G1 L (.lst x)) := fun a u q => by rw [upd_ne (ne_of_none q A.g)]; exact q
  have w : Wf T (upd G1 L (.lst x)) H1 := by
    refine ⟨fun a u h => ?_, S.rel.wf.tabs, fun a ps h => ?_⟩
    · by_cases q : a = L
      · subst q; rw [upd_same] at h; cases h; exact A.h
      · rw [upd_ne q] at h; exact S.rel.wf.same _ _ h
    · by_cases q : a = L
      · subst q; rw [upd_same] at h; cases h
      · rw [upd_ne q] at h; exact S.rel.wf.ntb _ _ h
  refine ⟨⟨S.rel.grow w sG fun a ha => ⟨by rw [upd_ne (A.m a ha)]; exact S.rel.muFree ha, rfl⟩, ⟨w, S.ext.sG.trans sG, S.ext.sH, fun a hg hh hm => ?_, S.ext.al⟩, S.mm, S.pr⟩, .lst upd_same (A.d.mono sG)⟩
  rw [upd_ne fun z => ow_ne hh (by rw [z]; exact hL)]
  exact S.ext.fr a hg hh hm
end
/-- the turns of a comprehension -/
def lcD (g : FG) (t : FB) (f : FE) (vs : List Nat) : List DL.D → Rho → Rs (List DL.D × Rho)
  | [], ρ => .ok ([], ρ)
  | d :: ds, ρ => (noX (g d ρ)).bind fun ρ1 => (noX (t ρ1)).bind fun r => if r.1 = true then (noX (f r.2)).bind fun s => (lcD g t f vs ds (wipeR s.2 vs)).bind fun u => .ok (s.1 :: u.1, u.2)
    else lcD g t f vs ds (wipeR r.2 vs)
def lcE (fi : FI) (g : FG) (t : FB) (f : FE) (vs : List Nat) : FE := fun ρ => (fi ρ).bind fun r => if noMus r.2 vs = true ∧ r.1.length ≤ sizeLine then (lcD g t f vs r.1 (wipeR r.2 vs)).bind fun u => .ok (.lst u.1, restR r.2 u.2 vs) else .no
theorem Acc.more {K : Frag} {G H : Hp} {M : Addr → Prop} {L : Addr} {acc : List V} {ds : List DL.D} {v : V} {d : DL.D} (A : Acc K G H M L acc ds) (h : Dq K G v d) : Acc K G (upd H L (.lst (acc ++ [v]))) M L (acc ++ [v]) (ds ++ [d]) :=
  ⟨upd_same, A.g, A.m, A.d.append (.one h)⟩
theorem Sat.flat {α β γ : Type} {c : Dc} {M : Addr → Prop} {G H : Hp} {r : Rs α} {f : α → Rs β} {g : β → Rs γ} {k : γ → Prop} (h : Sat c M G H ((r.bind f).bind g) k) : Sat c M G H (r.bind fun x => (f x).bind g) k := by
  rw [← Rs.bind_assoc]
  exact h
theorem wipe_only {σ σ' : L2.St} {ts vs : List Nat} (o : Only ts σ σ') (h : ∀ i ∈ ts, i ∈ vs) : wipe σ' vs = wipe σ vs := by
  apply List.ext_getElem?
  intro j
  by_cases hj : j ∈ vs
  · have key : ∀ (τ : L2.St) (us : List Nat), j ∈ us → (wipe τ us)[j]? = if j < τ.length then some none else none := by
      intro τ us
      induction us with
      | nil => intro q; cases q
      | cons v us ih =>
        intro q
        show ((wipe τ us).set v none)[j]? = _
        by_cases e : v = j
        · subst e
          rw [List.getElem?_set, wipe_length]
          simp
        · rw [List.getElem?_set_ne e]
          exact ih ((List.mem_cons.mp q).resolve_left fun z => e z.symm)
    rw [key _ _ hj, key _ _ hj, o.len]
  · rw [wipe_out hj, wipe_out hj]
    exact o.eq j fun z => hj (h j z)
theorem wipe_wipe {σ : L2.St} {vs : List Nat} : wipe (wipe σ vs) vs = wipe σ vs := by
  apply List.ext_getElem?
  intro j
  cases e : (wipe (wipe σ vs) vs)[j]? with
  | none =>
    have h1 := List.getElem?_eq_none_iff.mp e
    rw [wipe_length] at h1
    exact (List.getElem?_eq_none_iff.mpr h1).symm
  | some o =>
    rcases get_wipe e with ⟨q1, q2⟩ | ⟨q1, q2⟩
    · subst q2
      have h1 := (List.getElem?_eq_some_iff.mp e).1
      rw [wipe_length] at h1
      rw [List.getElem?_eq_getElem h1]
      have z := List.getElem?_eq_getElem h1
      rcases get_wipe z with ⟨_, q⟩ | ⟨q, _⟩
      · rw [q]
      · exact absurd q1 q
    · exact q2.symm
theorem mu_rest {ρ ρ1 : Rho} {σ : L2.St} {vs : List Nat} {q : Addr} (hn : noMus ρ vs = true) (h : Mu (restR ρ ρ1 vs) σ q) : Mu ρ1 (wipe σ vs) q := by
  obtain ⟨i, m, e1, e2⟩ := h
  rcases get_restR e1 with ⟨q1, q2⟩ | ⟨q1, q2⟩
  · have z := List.all_eq_true.mp hn i q1
    cases e : ρ[i]? with
    | none => rw [e] at q2; cases q2
    | some s =>
      rw [e] at q2 z
      have q2 : Sl.mu m = s := q2
      subst q2
      simp [isMu] at z
  · exact ⟨i, m, q2, by rw [wipe_out q1]; exact e2⟩
/-- what is left of a comprehension's turns -/
abbrev LcK (c : Dc) (K : Frag) (Q : VK) (ρ : Rho) (σ : L2.St) (G H : Hp) (r : DL.D × Rho) : Prop := ∀ v G' H', Stp K c.T c.n ρ σ G H r.2 σ G' H' → Dq K G' v r.1 → Q v H'
theorem lc_of {fi : FI} {gg : FG} {tt : FB} {fe : FE} {vs ts : List Nat} {K : Frag} (hts : ∀ i ∈ ts, i ∈ vs) (ρ : Rho) (σ : L2.St) (G H : Hp) (Q : VK) (R : Rel K c.T G ρ σ H)
    (h : Sat c (Mu ρ σ) G H (lcE fi gg tt fe vs ρ) (LcK c K Q ρ σ G H)) :
    tLc (tI c K fi) (tG c.blk K ts gg) (tT c.blk K tt) (tE c.blk K fe) vs σ H Q := by
  refine ⟨ρ, G, R, h.first.imp fun r h2 J G1 H1 S jok L hL => ?_⟩
  by_cases hz : noMus r.2 vs = true ∧ r.1.length ≤ sizeLine
  · rw [if_pos hz] at h2
    have A0 : Acc K G1 (upd H1 L (.lst [])) (Mu r.2 σ) L [] [] := ⟨upd_same, S.rel.wf.none hL, fun q hq z => S.rel.muSome hq (by rw [z]; exact hL), .nil⟩
    have N0 := Stp.newF (n := c.n) S.rel hL (o := .lst [])
    have W1 := Stp.wipe (n := c.n) (vs := vs) N0.rel
    have W0 := N0.trans W1
    refine ⟨fun i m H' => ∃ ρ' G' acc ds, Stp K c.T c.n r.2 σ G1 H1 ρ' (wipe σ vs) G' H' ∧ Same G1 G' ∧ Acc K G' H' (Mu ρ' (wipe σ vs)) L acc ds ∧ m = r.1.length - i ∧ i ≤ r.1.length ∧ acc.length ≤ i ∧
        Sat c (Mu ρ σ) G H ((lcD gg tt fe vs (r.1.drop i) ρ').bind fun u => .ok (DL.D.lst (ds ++ u.1), restR r.2 u.2 vs)) (LcK c K Q ρ σ G H),
      ⟨r.1.length, wipeR r.2 vs, G1, [], [], W0, Same.refl _, A0.on W1, by simp, Nat.zero_le _, Nat.le_refl _, by rw [List.drop_zero]; exact h2⟩, ?_⟩
    rintro i m H' ⟨ρ', G', acc, ds, Si, sm, A, rfl, hi, hacc, hq⟩
    by_cases hlt : i < r.1.length
    · refine .inr ⟨jok.go i ρ' _ G' H' Si.rel sm hlt, fun H2 => ∃ ρ2 G2 acc2 ds2, Stp K c.T c.n r.2 σ G1 H1 ρ2 (wipe σ vs) G2 H2 ∧ Same G1 G2 ∧ Acc K G2 H2 (Mu ρ2 (wipe σ vs)) L acc2 ds2 ∧ acc2.length ≤ i + 1 ∧
          Sat c (Mu ρ σ) G H ((lcD gg tt fe vs (r.1.drop (i + 1)) ρ2).bind fun u => .ok (DL.D.lst (ds2 ++ u.1), restR r.2 u.2 vs)) (LcK c K Q ρ σ G H),
        fun H2 ⟨ρ2, G2, acc2, ds2, a1, a2, a3, a4, a5⟩ => ⟨r.1.length - (i + 1), by omega, ρ2, G2, acc2, ds2, a1, a2, a3, rfl, hlt, a4, a5⟩, fun x H2 hy => ?_⟩
      obtain ⟨G2, S2, dx⟩ := jok.yld i (r.1[i]) ρ' _ G' H' x H2 Si.rel sm (List.getElem?_eq_getElem hlt) hy
      rw [List.drop_eq_getElem_cons hlt, lcD] at hq
      have T2 := Si.trans S2
      have S2m := S2.ext.sG
      refine ⟨ρ', G2, r.1[i], S2.rel, dx, (hq.flat.first.on (S.trans T2) fun ρ3 h3 σ3 G3 H3 S3 o3 => ?_).blk⟩
      have S3' : Stp K c.T c.n ρ' (wipe σ vs) G2 H2 ρ3 σ3 G3 H3 := S3
      have T3 := T2.trans S3'
      have ew : wipe σ3 vs = wipe σ vs := (wipe_only o3 hts).trans wipe_wipe
      refine ⟨ew, ρ3, G3, S3'.rel, (h3.flat.first.on (S.trans T3) fun r4 h4 G4 H4 S4 => ?_).blk⟩
      have S4' : Stp K c.T c.n ρ3 σ3 G3 H3 r4.2 σ3 G4 H4 := S4
      have T4 := T3.trans S4'
      have A4 := ((A.on S2).on S3').on S4'
      have s4 : Same G1 G4 := sm.trans (S2m.trans (S3'.ext.sG.trans S4'.ext.sG))
      obtain ⟨b4, ρ4⟩ := r4
      cases b4 with
      | true =>
        rw [if_pos rfl] at h4
        refine iteT ⟨ρ4, G4, S4'.rel, (h4.flat.first.on (S.trans T4) fun r5 h5 y G5 H5 S5 d5 => ?_).blk⟩
        have S5' : Stp K c.T c.n ρ4 σ3 G4 H4 r5.2 σ3 G5 H5 := S5
        have T5 := T4.trans S5'
        have A5 := A4.on S5'
        have W5 := T5.trans (Stp.wipe (vs := vs) S5'.rel)
        have A5' := A5.on (Stp.wipe (n := c.n) (vs := vs) S5'.rel)
        rw [ew] at W5 A5'
        have hsz : acc.length < sizeLine := by have := hz.2; omega
        refine ⟨acc, A5.h, hsz, wipeR r5.2 vs, G5, acc ++ [y], ds ++ [r5.1], W5.touch hL A5', s4.trans S5'.ext.sG, A5'.more d5, by rw [List.length_append]; exact Nat.succ_le_succ hacc, ?_⟩
        have h5 := h5.flat
        simp only [Rs.ok_bind] at h5
        simp only [List.append_assoc, List.singleton_append]
        exact h5
      | false =>
        rw [if_neg Bool.false_ne_true] at h4
        have W5 := T4.trans (Stp.wipe (vs := vs) S4'.rel)
        have A5' := A4.on (Stp.wipe (n := c.n) (vs := vs) S4'.rel)
        rw [ew] at W5 A5'
        exact iteF ⟨wipeR ρ4 vs, G4, acc, ds, W5, s4, A5', Nat.le_succ_of_le hacc, h4⟩
    · have e : i = r.1.length := by omega
      subst e
      rw [List.drop_length] at hq
      have U := Stp.unwipe S.rel Si hz.1
      have A' : Acc K G' H' (Mu (restR r.2 ρ' vs) σ) L acc ds := ⟨A.h, A.g, fun q hq => A.m q (mu_rest hz.1 hq), A.d⟩
      obtain ⟨F, dF⟩ := U.keepL hL A'
      refine .inl ⟨jok.stop _ ρ' _ G' H' Si.rel sm (Nat.le_refl _), ?_⟩
      have hq : LcK c K Q ρ σ G H (DL.D.lst (ds ++ []), restR r.2 ρ' vs) := hq
      rw [List.append_nil] at hq
      exact hq (.ref L) _ _ (S.trans F) dF
  · rw [if_neg hz] at h2
    exact h2.elim
theorem only_wipe {σ : L2.St} {vs : List Nat} : Only vs σ (wipe σ vs) := ⟨wipe_length σ vs, fun j h => wipe_out h⟩
/-! a test of a comprehension: none, or one -/
def yesB : FB := fun ρ => .ok (true, ρ)
def DTs (c : Dc) (X : Cx) (ifs : List Expr) (t : FB) : Prop := PTs X ifs (tT c X.K t)
theorem dts_nil : DTs c X [] yesB := ⟨fun pins s σ H Q I ⟨ρ, G, R, h⟩ => pts_nil.run pins s σ H Q I (h G H (.refl R))⟩
theorem dts_one (h : DB c X a t) : DTs c X [a] t := pts_one h
section
variable {elt iter tg1 iter1 : Expr} {ifs ifs1 : List Expr} {scope : Scope} {own : List (Str × Nat)} {ts ts1 vs1 : List Nat} {fi fi1 : FI} {gg g1 : FG} {tt t1 : FB} {fe : FE}
abbrev Blk (X : Cx) (scope : Scope) (R : Cx → Prop) : Prop := ∀ (s : Shared) (H : Hp) (C : Addr) (cl : List (Str × Addr)) (fp : List Addr), R (X.blk s H scope (compEnvC scope cl C X.env) fp)
theorem de_lc (hc : X.calm = true) (hN : X.N.Nodup) (hi : DI c X tg iter fi) (ok : BlkOk X.N X.env.scope scope own) (hg : Blk X scope fun Y => DG c.blk Y tg ts gg) (ht : Blk X scope fun Y => DTs c.blk Y ifs tt) (he : Blk X scope fun Y => DE c.blk Y elt fe)
    (hts : ∀ i ∈ ts, i ∈ own.map (·.2)) (hs : ∀ x, foldedSetIterable iter X.env x = pure x := by intro _; rfl) : DE c X (.ListComp elt [⟨tg, iter, ifs, 0⟩] scope pos) (lcE fi gg tt fe (own.map (·.2))) :=
  DE.mk ⟨_, pe_lc (g := tG c.blk X.K ts gg) (tt := tT c.blk X.K tt) (te := tE c.blk X.K fe) hc hN hi ok hg ht he hs, fun ρ σ G H Q R h => lc_of hts ρ σ G H Q R h⟩
theorem ds_setLc {i : Nat} {y : Str} {py spos : Pos} (hc : X.calm = true) (hN : X.N.Nodup) (hy : X.N[i]? = some y) (hyl : X.env.scope.names.lookup y = some .local)
    (hsw : swapsWith (.ListComp elt [⟨tg, iter, ifs, 0⟩] scope pos) (some (.Name y py)) spos.line X.env = pure true) (hi : DI c X tg iter fi) (ok : BlkOk X.N X.env.scope scope own) (hg : Blk X scope fun Y => DG c.blk Y tg ts gg) (ht : Blk X scope fun Y => DTs c.blk Y ifs tt) (he : Blk X scope fun Y => DE c.blk Y elt fe)
    (hts : ∀ i ∈ ts, i ∈ own.map (·.2)) (hs : ∀ x, foldedSetIterable iter X.env x = pure x := by intro _; rfl) : DS c X (.Assign [.Name y py] (.ListComp elt [⟨tg, iter, ifs, 0⟩] scope pos) spos) (asgS (lcE fi gg tt fe (own.map (·.2))) (nameG i)) :=
  DS.mk ⟨_, ps_setLc (g := tG c.blk X.K ts gg) (tt := tT c.blk X.K tt) (te := tE c.blk X.K fe) hc hN hy hyl hsw hi ok hg ht he hs, asg_of (fun ρ σ G H Q R h => lc_of hts ρ σ G H Q R h) gName_of⟩
/-- two fors -/
def lc2D (g : FG) (t : FB) (fi1 : FI) (g1 : FG) (t1 : FB) (f : FE) (vs vs1 : List Nat) : List DL.D → Rho → Rs (List DL.D × Rho)
  | [], ρ => .ok ([], ρ)
  | d :: ds, ρ => (noX (g d ρ)).bind fun ρ1 => (noX (t ρ1)).bind fun r => if r.1 = true then (noX (fi1 r.2)).bind fun q => if q.1.length ≤ 1000 then
        (lcD g1 t1 f vs1 q.1 (wipeR q.2 vs1)).bind fun u => (lc2D g t fi1 g1 t1 f vs vs1 ds (wipeR u.2 vs)).bind fun w => .ok (u.1 ++ w.1, w.2)
      else .no
    else lc2D g t fi1 g1 t1 f vs vs1 ds (wipeR r.2 vs)
def lc2E (fi : FI) (g : FG) (t : FB) (fi1 : FI) (g1 : FG) (t1 : FB) (f : FE) (vs vs1 : List Nat) : FE := fun ρ => (fi ρ).bind fun r => if noMus r.2 vs = true ∧ r.1.length ≤ 1000 then
  (lc2D g t fi1 g1 t1 f vs vs1 r.1 (wipeR r.2 vs)).bind fun u => .ok (.lst u.1, restR r.2 u.2 vs) else .no
theorem lc2_of {vs : List Nat} {K : Frag} (hts : ∀ i ∈ ts, i ∈ vs) (hts1 : ∀ i ∈ ts1, i ∈ vs1) (hv : ∀ i ∈ vs1, i ∈ vs) (ρ : Rho) (σ : L2.St) (G H : Hp) (Q : VK) (R : Rel K c.T G ρ σ H)
    (h : Sat c (Mu ρ σ) G H (lc2E fi gg tt fi1 g1 t1 fe vs vs1 ρ) (LcK c K Q ρ σ G H)) :
    tLc2 (tI c K fi) (tG c.blk K ts gg) (tT c.blk K tt) (tI c.blk K fi1) (tG c.blk K ts1 g1) (tT c.blk K t1) (tE c.blk K fe) vs vs1 σ H Q := by
  refine ⟨ρ, G, R, h.first.imp fun r h2 J G1 H1 S jok L hL => ?_⟩
  by_cases hz : noMus r.2 vs = true ∧ r.1.length ≤ 1000
  · rw [if_pos hz] at h2
    have A0 : Acc K G1 (upd H1 L (.lst [])) (Mu r.2 σ) L [] [] := ⟨upd_same, S.rel.wf.none hL, fun q hq z => S.rel.muSome hq (by rw [z]; exact hL), .nil⟩
    have N0 := Stp.newF (n := c.n) S.rel hL (o := .lst [])
    have W1 := Stp.wipe (n := c.n) (vs := vs) N0.rel
    have W0 := N0.trans W1
    refine ⟨fun i m H' => ∃ ρ' G' acc ds, Stp K c.T c.n r.2 σ G1 H1 ρ' (wipe σ vs) G' H' ∧ Same G1 G' ∧ Acc K G' H' (Mu ρ' (wipe σ vs)) L acc ds ∧ m = r.1.length - i ∧ i ≤ r.1.length ∧ acc.length ≤ i * 1000 ∧
        Sat c (Mu ρ σ) G H ((lc2D gg tt fi1 g1 t1 fe vs vs1 (r.1.drop i) ρ').bind fun u => .ok (DL.D.lst (ds ++ u.1), restR r.2 u.2 vs)) (LcK c K Q ρ σ G H),
      ⟨r.1.length, wipeR r.2 vs, G1, [], [], W0, Same.refl _, A0.on W1, by simp, Nat.zero_le _, Nat.zero_le _, by rw [List.drop_zero]; exact h2⟩, ?_⟩
    rintro i m H' ⟨ρ', G', acc, ds, Si, sm, A, rfl, hi, hacc, hq⟩
    by_cases hlt : i < r.1.length
    · refine .inr ⟨jok.go i ρ' _ G' H' Si.rel sm hlt, fun H2 => ∃ ρ2 G2 acc2 ds2, Stp K c.T c.n r.2 σ G1 H1 ρ2 (wipe σ vs) G2 H2 ∧ Same G1 G2 ∧ Acc K G2 H2 (Mu ρ2 (wipe σ vs)) L acc2 ds2 ∧ acc2.length ≤ (i + 1) * 1000 ∧
          Sat c (Mu ρ σ) G H ((lc2D gg tt fi1 g1 t1 fe vs vs1 (r.1.drop (i + 1)) ρ2).bind fun u => .ok (DL.D.lst (ds2 ++ u.1), restR r.2 u.2 vs)) (LcK c K Q ρ σ G H),
        fun H2 ⟨ρ2, G2, acc2, ds2, a1, a2, a3, a4, a5⟩ => ⟨r.1.length - (i + 1), by omega, ρ2, G2, acc2, ds2, a1, a2, a3, rfl, hlt, a4, a5⟩, fun x H2 hy => ?_⟩
      obtain ⟨G2, S2, dx⟩ := jok.yld i (r.1[i]) ρ' _ G' H' x H2 Si.rel sm (List.getElem?_eq_getElem hlt) hy
      rw [List.drop_eq_getElem_cons hlt, lc2D] at hq
      have T2 := Si.trans S2
      have S2m := S2.ext.sG
      refine ⟨ρ', G2, r.1[i], S2.rel, dx, (hq.flat.first.on (S.trans T2) fun ρ3 h3 σ3 G3 H3 S3 o3 => ?_).blk⟩
      have S3' : Stp K c.T c.n ρ' (wipe σ vs) G2 H2 ρ3 σ3 G3 H3 := S3
      have T3 := T2.trans S3'
      have ew : wipe σ3 vs = wipe σ vs := (wipe_only o3 hts).trans wipe_wipe
      refine ⟨ew, ρ3, G3, S3'.rel, (h3.flat.first.on (S.trans T3) fun r4 h4 G4 H4 S4 => ?_).blk⟩
      have S4' : Stp K c.T c.n ρ3 σ3 G3 H3 r4.2 σ3 G4 H4 := S4
      have T4 := T3.trans S4'
      have A4 := ((A.on S2).on S3').on S4'
      have s4 : Same G1 G4 := sm.trans (S2m.trans (S3'.ext.sG.trans S4'.ext.sG))
      obtain ⟨b4, ρ4⟩ := r4
      cases b4 with
      | true =>
        rw [if_pos rfl] at h4
        refine iteT ⟨ρ4, G4, S4'.rel, (h4.flat.first.on (S.trans T4) fun q h5 J1 G5 H5 S5 jok1 => ?_).blk⟩
        have S5' : Stp K c.T c.n ρ4 σ3 G4 H4 q.2 σ3 G5 H5 := S5
        have T5 := T4.trans S5'
        have A5 := A4.on S5'
        have s5 : Same G1 G5 := s4.trans S5'.ext.sG
        by_cases hz1 : q.1.length ≤ 1000
        · rw [if_pos hz1] at h5
          have V5 := Stp.wipe (n := c.n) (vs := vs1) S5'.rel
          refine ⟨fun j k H' => ∃ ρ' G' acc ds, Stp K c.T c.n r.2 σ G1 H1 ρ' (wipe σ3 vs1) G' H' ∧ Same G5 G' ∧ Acc K G' H' (Mu ρ' (wipe σ3 vs1)) L acc ds ∧ k = q.1.length - j ∧ j ≤ q.1.length ∧ acc.length ≤ i * 1000 + j ∧
              Sat c (Mu ρ σ) G H ((lcD g1 t1 fe vs1 (q.1.drop j) ρ').bind fun u => (lc2D gg tt fi1 g1 t1 fe vs vs1 (r.1.drop (i + 1)) (wipeR u.2 vs)).bind fun w => .ok (DL.D.lst (ds ++ u.1 ++ w.1), restR r.2 w.2 vs)) (LcK c K Q ρ σ G H),
            ⟨q.1.length, wipeR q.2 vs1, G5, acc, ds, T5.trans V5, Same.refl _, A5.on V5, by simp, Nat.zero_le _, hacc, ?_⟩, ?_⟩
          · rw [List.drop_zero]
            have h5 := h5.flat
            simp only [Rs.bind_assoc, Rs.ok_bind, ← List.append_assoc] at h5
            exact h5
          rintro j k H' ⟨ρ', G', acc, ds, Si, sm1, A, rfl, hj, hacc, hq⟩
          by_cases hjt : j < q.1.length
          · refine .inr ⟨jok1.go j ρ' _ G' H' Si.rel sm1 hjt, fun H2 => ∃ ρ2 G2 acc2 ds2, Stp K c.T c.n r.2 σ G1 H1 ρ2 (wipe σ3 vs1) G2 H2 ∧ Same G5 G2 ∧ Acc K G2 H2 (Mu ρ2 (wipe σ3 vs1)) L acc2 ds2 ∧ acc2.length ≤ i * 1000 + (j + 1) ∧
                Sat c (Mu ρ σ) G H ((lcD g1 t1 fe vs1 (q.1.drop (j + 1)) ρ2).bind fun u => (lc2D gg tt fi1 g1 t1 fe vs vs1 (r.1.drop (i + 1)) (wipeR u.2 vs)).bind fun w => .ok (DL.D.lst (ds2 ++ u.1 ++ w.1), restR r.2 w.2 vs)) (LcK c K Q ρ σ G H),
              fun H2 ⟨ρ2, G2, acc2, ds2, a1, a2, a3, a4, a5⟩ => ⟨q.1.length - (j + 1), by omega, ρ2, G2, acc2, ds2, a1, a2, a3, rfl, hjt, a4, a5⟩, fun x H6 hy => ?_⟩
            obtain ⟨G6, S6, dx⟩ := jok1.yld j (q.1[j]) ρ' _ G' H' x H6 Si.rel sm1 (List.getElem?_eq_getElem hjt) hy
            have S6 : Stp K c.T c.n ρ' (wipe σ3 vs1) G' H' ρ' (wipe σ3 vs1) G6 H6 := S6
            rw [List.drop_eq_getElem_cons hjt, lcD] at hq
            have T6 := Si.trans S6
            refine ⟨ρ', G6, q.1[j], S6.rel, dx, (hq.flat.first.on (S.trans T6) fun ρ7 h7 σ7 G7 H7 S7 o7 => ?_).blk⟩
            have S7' : Stp K c.T c.n ρ' (wipe σ3 vs1) G6 H6 ρ7 σ7 G7 H7 := S7
            have T7 := T6.trans S7'
            have ew1 : wipe σ7 vs1 = wipe σ3 vs1 := (wipe_only o7 hts1).trans wipe_wipe
            refine ⟨ew1, ρ7, G7, S7'.rel, (h7.flat.first.on (S.trans T7) fun r8 h8 G8 H8 S8 => ?_).blk⟩
            have S8' : Stp K c.T c.n ρ7 σ7 G7 H7 r8.2 σ7 G8 H8 := S8
            have T8 := T7.trans S8'
            have A8 := ((A.on S6).on S7').on S8'
            have s8 : Same G5 G8 := sm1.trans (S6.ext.sG.trans (S7'.ext.sG.trans S8'.ext.sG))
            obtain ⟨b8, ρ8⟩ := r8
            cases b8 with
            | true =>
              rw [if_pos rfl] at h8
              refine iteT ⟨ρ8, G8, S8'.rel, (h8.flat.first.on (S.trans T8) fun r9 h9 y G9 H9 S9 d9 => ?_).blk⟩
              have S9' : Stp K c.T c.n ρ8 σ7 G8 H8 r9.2 σ7 G9 H9 := S9
              have T9 := T8.trans S9'
              have A9 := A8.on S9'
              have W9 := T9.trans (Stp.wipe (vs := vs1) S9'.rel)
              have A9' := A9.on (Stp.wipe (n := c.n) (vs := vs1) S9'.rel)
              rw [ew1] at W9 A9'
              have hsz : acc.length < sizeLine := by
                have e1 : sizeLine = 16777216 := sizeLine_eq
                have e2 := hz.2
                have e3 : i * 1000 + j < 1001 * 1000 + 1000 := by omega
                omega
              refine ⟨acc, A9'.h, hsz, wipeR r9.2 vs1, G9, acc ++ [y], ds ++ [r9.1], W9.touch hL A9', s8.trans S9'.ext.sG, A9'.more d9, by rw [List.length_append]; exact Nat.succ_le_succ hacc, ?_⟩
              have h9 := h9.flat
              simp only [Rs.ok_bind] at h9
              simp only [List.append_assoc, List.singleton_append, List.cons_append] at h9 ⊢
              exact h9
            | false =>
              rw [if_neg Bool.false_ne_true] at h8
              have W9 := T8.trans (Stp.wipe (vs := vs1) S8'.rel)
              have A9' := A8.on (Stp.wipe (n := c.n) (vs := vs1) S8'.rel)
              rw [ew1] at W9 A9'
              exact iteF ⟨wipeR ρ8 vs1, G8, acc, ds, W9, s8, A9', Nat.le_succ_of_le hacc, h8⟩
          · have e : j = q.1.length := by omega
            subst e
            rw [List.drop_length] at hq
            have ew2 : wipe (wipe σ3 vs1) vs = wipe σ vs := (wipe_only only_wipe hv).trans ew
            have W9 := Si.trans (Stp.wipe (vs := vs) Si.rel)
            have A9' := A.on (Stp.wipe (n := c.n) (vs := vs) Si.rel)
            rw [ew2] at W9 A9'
            refine .inl ⟨jok1.stop _ ρ' _ G' H' Si.rel sm1 (Nat.le_refl _), wipeR ρ' vs, G', acc, ds, W9, s5.trans sm1, A9', by omega, ?_⟩
            have hq : Sat c (Mu ρ σ) G H ((lc2D gg tt fi1 g1 t1 fe vs vs1 (r.1.drop (i + 1)) (wipeR ρ' vs)).bind fun w => .ok (DL.D.lst (ds ++ [] ++ w.1), restR r.2 w.2 vs)) (LcK c K Q ρ σ G H) := hq
            simp only [List.append_nil] at hq
            exact hq
        · rw [if_neg hz1] at h5
          exact h5.elim
      | false =>
        rw [if_neg Bool.false_ne_true] at h4
        have W5 := T4.trans (Stp.wipe (vs := vs) S4'.rel)
        have A5' := A4.on (Stp.wipe (n := c.n) (vs := vs) S4'.rel)
        rw [ew] at W5 A5'
        exact iteF ⟨wipeR ρ4 vs, G4, acc, ds, W5, s4, A5', by omega, h4⟩
    · have e : i = r.1.length := by omega
      subst e
      rw [List.drop_length] at hq
      have U := Stp.unwipe S.rel Si hz.1
      have A' : Acc K G' H' (Mu (restR r.2 ρ' vs) σ) L acc ds := ⟨A.h, A.g, fun q hq => A.m q (mu_rest hz.1 hq), A.d⟩
      obtain ⟨F, dF⟩ := U.keepL hL A'
      refine .inl ⟨jok.stop _ ρ' _ G' H' Si.rel sm (Nat.le_refl _), ?_⟩
      have hq : LcK c K Q ρ σ G H (DL.D.lst (ds ++ []), restR r.2 ρ' vs) := hq
      rw [List.append_nil] at hq
      exact hq (.ref L) _ _ (S.trans F) dF
  · rw [if_neg hz] at h2
    exact h2.elim
theorem de_lc2 (hc : X.calm = true) (hN : X.N.Nodup) (hi : DI c X tg iter fi) (ok : BlkOk X.N X.env.scope scope own) (hv : ∀ i ∈ vs1, i ∈ own.map (·.2)) (hg : Blk X scope fun Y => DG c.blk Y tg ts gg) (ht : Blk X scope fun Y => DTs c.blk Y ifs tt)
    (hi1 : Blk X scope fun Y => DI c.blk Y tg1 iter1 fi1) (hg1 : Blk X scope fun Y => DG c.blk Y tg1 ts1 g1) (ht1 : Blk X scope fun Y => DTs c.blk Y ifs1 t1) (he : Blk X scope fun Y => DE c.blk Y elt fe)
    (hts : ∀ i ∈ ts, i ∈ own.map (·.2)) (hts1 : ∀ i ∈ ts1, i ∈ vs1) (hs : ∀ x, foldedSetIterable iter X.env x = pure x := by intro _; rfl) (hs1 : ∀ env x, foldedSetIterable iter1 env x = pure x := by intro _ _; rfl) :
    DE c X (.ListComp elt [⟨tg, iter, ifs, 0⟩, ⟨tg1, iter1, ifs1, 0⟩] scope pos) (lc2E fi gg tt fi1 g1 t1 fe (own.map (·.2)) vs1) :=
  DE.mk ⟨_, pe_lc2 (g := tG c.blk X.K ts gg) (tt := tT c.blk X.K tt) (wi1 := tI c.blk X.K fi1) (g1 := tG c.blk X.K ts1 g1) (tt1 := tT c.blk X.K t1) (te := tE c.blk X.K fe) hc hN hi ok hv hg ht hi1 hg1 ht1 he hs hs1, fun ρ σ G H Q R h => lc2_of hts hts1 hv ρ σ G H Q R h⟩
theorem ds_setLc2 {i : Nat} {y : Str} {py spos : Pos} (hc : X.calm = true) (hN : X.N.Nodup) (hy : X.N[i]? = some y) (hyl : X.env.scope.names.lookup y = some .local)
    (hsw : swapsWith (.ListComp elt [⟨tg, iter, ifs, 0⟩, ⟨tg1, iter1, ifs1, 0⟩] scope pos) (some (.Name y py)) spos.line X.env = pure true) (hi : DI c X tg iter fi) (ok : BlkOk X.N X.env.scope scope own) (hv : ∀ i ∈ vs1, i ∈ own.map (·.2)) (hg : Blk X scope fun Y => DG c.blk Y tg ts gg) (ht : Blk X scope fun Y => DTs c.blk Y ifs tt)
    (hi1 : Blk X scope fun Y => DI c.blk Y tg1 iter1 fi1) (hg1 : Blk X scope fun Y => DG c.blk Y tg1 ts1 g1) (ht1 : Blk X scope fun Y => DTs c.blk Y ifs1 t1) (he : Blk X scope fun Y => DE c.blk Y elt fe)
    (hts : ∀ i ∈ ts, i ∈ own.map (·.2)) (hts1 : ∀ i ∈ ts1, i ∈ vs1) (hs : ∀ x, foldedSetIterable iter X.env x = pure x := by intro _; rfl) (hs1 : ∀ env x, foldedSetIterable iter1 env x = pure x := by intro _ _; rfl) :
    DS c X (.Assign [.Name y py] (.ListComp elt [⟨tg, iter, ifs, 0⟩, ⟨tg1, iter1, ifs1, 0⟩] scope pos) spos) (asgS (lc2E fi gg tt fi1 g1 t1 fe (own.map (·.2)) vs1) (nameG i)) :=
  DS.mk ⟨_, ps_setLc2 (g := tG c.blk X.K ts gg) (tt := tT c.blk X.K tt) (wi1 := tI c.blk X.K fi1) (g1 := tG c.blk X.K ts1 g1) (tt1 := tT c.blk X.K t1) (te := tE c.blk X.K fe) hc hN hy hyl hsw hi ok hv hg ht hi1 hg1 ht1 he hs hs1, asg_of (fun ρ σ G H Q R h => lc2_of hts hts1 hv ρ σ G H Q R h) gName_of⟩
end
/-! ### zip, enumerate -/
def pairD : List DL.D → List DL.D → List DL.D
  | x :: xs, y :: ys => .tup [x, y] :: pairD xs ys
  | _, _ => []
theorem pairD_get : ∀ {xs ys : List DL.D} {i : Nat} {d : DL.D}, (pairD xs ys)[i]? = some d → ∃ x y, xs[i]? = some x ∧ ys[i]? = some y ∧ d = .tup [x, y]
  | [], _, _, _, h => by simp [pairD] at h
  | _ :: _, [], _, _, h => by simp [pairD] at h
  | x :: xs, y :: ys, 0, d, h => ⟨x, y, rfl, rfl, (Option.some.inj h).symm⟩
  | x :: xs, y :: ys, i + 1, d, h => pairD_get (xs := xs) (ys := ys) (i := i) h
theorem pairD_length : ∀ xs ys : List DL.D, (pairD xs ys).length = min xs.length ys.length
  | [], _ => by simp [pairD]
  | _ :: _, [] => by simp [pairD]
  | x :: xs, y :: ys => by
    show (pairD xs ys).length + 1 = _
    rw [pairD_length xs ys, List.length_cons, List.length_cons]
    omega
theorem jok_zip {K : Frag} {G0 : Hp} {a b : Addr} {xs ys : List V} {ds es : List DL.D} (h : G0 a = some (.lst xs)) (h' : G0 b = some (.lst ys)) (d : DqAll K G0 xs ds) (e : DqAll K G0 ys es) : JOk c K (Itz K a b) G0 (pairD ds es) where
  go := fun i ρ σ G H R s hi => by
    rw [pairD_length] at hi
    have h1 : i < xs.length := by rw [d.length]; omega
    have h2 : i < ys.length := by rw [e.length]; omega
    exact ⟨xs, ys, xs[i], ys[i], .of (R.wf.same _ _ (s _ _ h)), .of (R.wf.same _ _ (s _ _ h')), List.getElem?_eq_getElem _, List.getElem?_eq_getElem _⟩
  stop := fun i ρ σ G H R s hi => by
    rw [pairD_length] at hi
    refine ⟨xs, ys, .of (R.wf.same _ _ (s _ _ h)), .of (R.wf.same _ _ (s _ _ h')), ?_⟩
    rw [d.length, e.length]
    omega
  yld := fun i dd ρ σ G H x H' R s hi hy => by
    obtain ⟨T, u, w, rfl, nT, rfl, f1, f2⟩ := hy
    obtain ⟨p, q, e1, e2, rfl⟩ := pairD_get hi
    have S := Stp.new (n := c.n) R nT (o := .tup [u, w]) nt_tup
    exact ⟨_, S, .tup (.of upd_same) (.cons (((d.mono s).get (f1 xs (.of (R.wf.same _ _ (s _ _ h)))) e1).mono S.ext.sG) (.one (((e.mono s).get (f2 ys (.of (R.wf.same _ _ (s _ _ h')))) e2).mono S.ext.sG)))⟩
theorem jok_zipT {K : Frag} {G0 : Hp} {a b : Addr} {xs ys : List V} {ds es : List DL.D} (h : SqT K G0 a xs) (h' : SqT K G0 b ys) (d : DqAll K G0 xs ds) (e : DqAll K G0 ys es) : JOk c K (RZ.ItzT K a b) G0 (pairD ds es) where
  go := fun i ρ σ G H R s hi => by
    rw [pairD_length] at hi
    have h1 : i < xs.length := by rw [d.length]; omega
    have h2 : i < ys.length := by rw [e.length]; omega
    exact ⟨xs, ys, xs[i], ys[i], sqT_mono (s.trans R.wf.same) h, sqT_mono (s.trans R.wf.same) h', List.getElem?_eq_getElem _, List.getElem?_eq_getElem _⟩
  stop := fun i ρ σ G H R s hi => by
    rw [pairD_length] at hi
    refine ⟨xs, ys, sqT_mono (s.trans R.wf.same) h, sqT_mono (s.trans R.wf.same) h', ?_⟩
    rw [d.length, e.length]
    omega
  yld := fun i dd ρ σ G H x H' R s hi hy => by
    obtain ⟨T, u, w, rfl, nT, rfl, f1, f2⟩ := hy
    obtain ⟨p, q, e1, e2, rfl⟩ := pairD_get hi
    have S := Stp.new (n := c.n) R nT (o := .tup [u, w]) nt_tup
    exact ⟨_, S, .tup (.of upd_same) (.cons (((d.mono s).get (f1 xs (sqT_mono (s.trans R.wf.same) h)) e1).mono S.ext.sG) (.one (((e.mono s).get (f2 ys (sqT_mono (s.trans R.wf.same) h')) e2).mono S.ext.sG)))⟩
/-- zip of two lists, of two tuples -/
def iterZ (fas : Rho → Rs (List DL.D × Rho)) : FI := fun ρ => (fas ρ).bind fun r => match r.1 with
  | [.lst xs, .lst ys] => .ok (pairD xs ys, r.2)
  | [.tup xs, .tup ys] => .ok (pairD xs ys, r.2)
  | _ => .no
theorem di_zip {fas : Rho → Rs (List DL.D × Rho)} {p tpos : Pos} {elts : List Expr} {kk : Nat} (hm : X.mg "zip" = none) (ha : DAs c X [a, b] fas) (hg : Gl X "zip" := by rfl)
    (hs : starEach [a, b] X.env = (false, eval a X.env) :: starEach [b] X.env := by rfl) (hpl : (backTo pos (starEach [b] X.env)).any (·.1) = false := by rfl) : DI c X (.Tuple elts kk tpos) (.Call (.Name "zip" p) [a, b] [] pos) (iterZ fas) := by
  obtain ⟨t1, p1, k1⟩ := ha.un
  refine DI.mk ⟨_, RZ.pi_zipA hg hm p1 hs hpl, fun ρ σ G H R r h => ?_⟩
  refine k1 ρ σ G H _ r (h.first.imp fun r1 h2 v G1 H1 S d => ?_)
  obtain ⟨ds, ρ1⟩ := r1
  dsimp only at h2
  split at h2
  · obtain ⟨v1, v2, rfl, d1, d2⟩ := dqAll2 d
    obtain ⟨l, xs, rfl, hl, hxs⟩ := dq_lst d1
    obtain ⟨m, ys, rfl, hm', hys⟩ := dq_lst d2
    exact ⟨l, m, xs, ys, rfl, .inl ⟨.of (S.rel.wf.same _ _ hl), .of (S.rel.wf.same _ _ hm'), h2 _ G1 H1 S (jok_zip hl hm' hxs hys)⟩⟩
  · obtain ⟨v1, v2, rfl, d1, d2⟩ := dqAll2 d
    obtain ⟨l, xs, rfl, hl, hxs⟩ := dq_tup d1
    obtain ⟨m, ys, rfl, hm', hys⟩ := dq_tup d2
    exact ⟨l, m, xs, ys, rfl, .inr ⟨sqT_mono S.rel.wf.same hl, sqT_mono S.rel.wf.same hm', h2 _ G1 H1 S (jok_zipT hl hm' hxs hys)⟩⟩
  · exact h2.elim
def enumFrom (i : Nat) : List DL.D → List DL.D
  | [] => []
  | x :: xs => .tup [.int (i : Nat), x] :: enumFrom (i + 1) xs
theorem enumFrom_get : ∀ {xs : List DL.D} {k i : Nat} {d : DL.D}, (enumFrom k xs)[i]? = some d → ∃ x, xs[i]? = some x ∧ d = .tup [.int ((k + i : Nat) : Int), x]
  | [], _, _, _, h => by simp [enumFrom] at h
  | x :: xs, k, 0, d, h => ⟨x, rfl, (Option.some.inj h).symm⟩
  | x :: xs, k, i + 1, d, h => by
    obtain ⟨y, e1, e2⟩ := enumFrom_get (xs := xs) (k := k + 1) (i := i) h
    exact ⟨y, e1, by rw [e2, show k + 1 + i = k + (i + 1) by omega]⟩
theorem enumFrom_length : ∀ (k : Nat) (xs : List DL.D), (enumFrom k xs).length = xs.length
  | _, [] => rfl
  | k, x :: xs => congrArg (· + 1) (enumFrom_length (k + 1) xs)
theorem jok_enum {K : Frag} {G0 : Hp} {a : Addr} {xs : List V} {ds : List DL.D} (h : G0 a = some (.lst xs)) (d : DqAll K G0 xs ds) : JOk c K (Ite K a) G0 (enumFrom 0 ds) where
  go := fun i ρ σ G H R s hi => by
    rw [enumFrom_length, ← d.length] at hi
    exact ⟨xs, xs[i], .of (R.wf.same _ _ (s _ _ h)), List.getElem?_eq_getElem _⟩
  stop := fun i ρ σ G H R s hi => by
    rw [enumFrom_length, ← d.length] at hi
    exact ⟨xs, .of (R.wf.same _ _ (s _ _ h)), hi⟩
  yld := fun i dd ρ σ G H x H' R s hi hy => by
    obtain ⟨T, u, rfl, nT, rfl, f1⟩ := hy
    obtain ⟨p, e1, rfl⟩ := enumFrom_get hi
    have S := Stp.new (n := c.n) R nT (o := .tup [.int (i : Nat), u]) nt_tup
    rw [Nat.zero_add]
    exact ⟨_, S, .tup (.of upd_same) (.cons (.int _) (.one (((d.mono s).get (f1 xs (.of (R.wf.same _ _ (s _ _ h)))) e1).mono S.ext.sG)))⟩
def iterE (fas : Rho → Rs (List DL.D × Rho)) : FI := fun ρ => (fas ρ).bind fun r => match r.1 with
  | [.lst xs] => .ok (enumFrom 0 xs, r.2)
  | _ => .no
theorem di_enum {fas : Rho → Rs (List DL.D × Rho)} {p tpos : Pos} {elts : List Expr} {kk : Nat} (hm : X.mg "enumerate" = none) (ha : DAs c X [a] fas) (hg : Gl X "enumerate" := by rfl) (hs : starEach [a] X.env = [(false, eval a X.env)] := by rfl) :
    DI c X (.Tuple elts kk tpos) (.Call (.Name "enumerate" p) [a] [] pos) (iterE fas) := by
  obtain ⟨t1, p1, k1⟩ := ha.un
  refine DI.mk ⟨_, pi_enum hg hm p1 hs, fun ρ σ G H R r h => ?_⟩
  refine k1 ρ σ G H _ r (h.first.imp fun r1 h2 v G1 H1 S d => ?_)
  obtain ⟨ds, ρ1⟩ := r1
  dsimp only at h2
  split at h2
  · obtain ⟨v1, rfl, d1⟩ := dqAll1 d
    obtain ⟨l, xs, rfl, hl, hxs⟩ := dq_lst d1
    exact ⟨l, xs, rfl, .of (S.rel.wf.same _ _ hl), h2 _ G1 H1 S (jok_enum hl hxs)⟩
  · exact h2.elim
end
end DL

set_option maxHeartbeats 4000000
/-! DLf: defs and their calls on data. -/
namespace DL
open PySem PySem.Spec PyProof.Rows L2

/-! ### what a def is worth -/
/-- of the arguments, as slots: what is handed back, and what the arguments are then -/
abbrev FD := Rho → Rs (Rv × Rho)
def spD (K : Frag) (T : List (Addr × Str)) (cl : Xc → Addr) (f : FD) : Sp := fun vs H Q E => ∃ (G : Hp) (ρ : Rho), Rel K T G ρ (vs.map some) H ∧
  Sat ⟨T, cl, E, 0⟩ (Mu ρ (vs.map some)) G H (f ρ) fun r => ∀ v G' H', Ext T (Mu ρ (vs.map some)) G H G' H' → Rel K T G' r.2 (vs.map some) H' → RvR K G' H' H (Mu r.2 (vs.map some)) (Mu ρ (vs.map some)) v r.1 → Q v H'
def backA : Rho → Rho → Option Rho
  | [], _ => some []
  | .mu _ :: ρ, .mu m :: ρ' => (backA ρ ρ').map (.mu m :: ·)
  | .mu _ :: _, _ => none
  | s :: ρ, _ :: ρ' => (backA ρ ρ').map (s :: ·)
  | _ :: _, [] => none
theorem backA_get : ∀ {ρ ρ' ρ2 : Rho}, backA ρ ρ' = some ρ2 → ρ2.length = ρ.length ∧ ∀ (i : Nat) (s : Sl), ρ2[i]? = some s → (∃ m m', ρ[i]? = some (Sl.mu m) ∧ ρ'[i]? = some (Sl.mu m') ∧ s = Sl.mu m') ∨ (ρ[i]? = some s ∧ isMu (some s) = false)
  | [], _, ρ2, h => by
    cases h
    exact ⟨rfl, fun i s e => by simp at e⟩
  | .mu m :: ρ, .mu m' :: ρ', ρ2, h => by
    obtain ⟨ρ3, h3, rfl⟩ := Option.map_eq_some_iff.mp (show (backA ρ ρ').map (Sl.mu m' :: ·) = some ρ2 from h)
    obtain ⟨l, k⟩ := backA_get h3
    refine ⟨congrArg (· + 1) l, fun i s e => ?_⟩
    cases i with
    | zero => exact .inl ⟨m, m', rfl, rfl, (Option.some.inj e).symm⟩
    | succ i => exact k i s e
  | .mu m :: ρ, .un :: ρ', ρ2, h => nomatch h
  | .mu m :: ρ, .px a :: ρ', ρ2, h => nomatch h
  | .mu m :: ρ, .da d :: ρ', ρ2, h => nomatch h
  | .mu m :: ρ, [], ρ2, h => nomatch h
  | .un :: ρ, s' :: ρ', ρ2, h => by
    obtain ⟨ρ3, h3, rfl⟩ := Option.map_eq_some_iff.mp (show (backA ρ ρ').map (Sl.un :: ·) = some ρ2 from h)
    obtain ⟨l, k⟩ := backA_get h3
    refine ⟨congrArg (· + 1) l, fun i s e => ?_⟩
    cases i with
    | zero => cases Option.some.inj e; exact .inr ⟨rfl, rfl⟩
    | succ i => exact k i s e
  | .da d :: ρ, s' :: ρ', ρ2, h => by
    obtain ⟨ρ3, h3, rfl⟩ := Option.map_eq_some_iff.mp (show (backA ρ ρ').map (Sl.da d :: ·) = some ρ2 from h)
    obtain ⟨l, k⟩ := backA_get h3
    refine ⟨congrArg (· + 1) l, fun i s e => ?_⟩
    cases i with
    | zero => cases Option.some.inj e; exact .inr ⟨rfl, rfl⟩
    | succ i => exact k i s e
  | .px a :: ρ, s' :: ρ', ρ2, h => by
    obtain ⟨ρ3, h3, rfl⟩ := Option.map_eq_some_iff.mp (show (backA ρ ρ').map (Sl.px a :: ·) = some ρ2 from h)
    obtain ⟨l, k⟩ := backA_get h3
    refine ⟨congrArg (· + 1) l, fun i s e => ?_⟩
    cases i with
    | zero => cases Option.some.inj e; exact .inr ⟨rfl, rfl⟩
    | succ i => exact k i s e
  | .px a :: ρ, [], ρ2, h => nomatch h
  | .un :: ρ, [], ρ2, h => nomatch h
  | .da d :: ρ, [], ρ2, h => nomatch h
def outV : Out → Rv × Rho
  | .nx ρ => (.da .non, ρ)
  | .rt r ρ => (r, ρ)
/-- a def: n parameters, m names, its body -/
def defF (n m : Nat) (body : FS) : FD := fun ρ => if ρ.length = n then (body (ρ ++ List.replicate (m - n) .un)).bind fun o => (Rs.ofO (backA ρ (outV o).2)).bind fun ρ2 => .ok ((outV o).1, ρ2) else .no
theorem get_pad {ρ : Rho} {k i : Nat} {s : Sl} (h : (ρ ++ List.replicate k Sl.un)[i]? = some s) : ρ[i]? = some s ∨ s = .un := by
  by_cases hi : i < ρ.length
  · rw [List.getElem?_append_left hi] at h; exact .inl h
  · rw [List.getElem?_append_right (Nat.le_of_not_lt hi), List.getElem?_replicate] at h
    split at h
    · exact .inr (Option.some.inj h).symm
    · cases h
section
variable {K : Frag} {T : List (Addr × Str)} {G H : Hp} {ρ : Rho} {vs : List V} {N : List Str} {k : Nat}
theorem mu_pad {a : Addr} (hl : ρ.length = vs.length) (h : Mu (ρ ++ List.replicate k .un) (start N vs) a) : Mu ρ (vs.map some) a := by
  obtain ⟨i, m, e1, e2⟩ := h
  rcases get_pad e1 with e | e
  · have hi : i < vs.length := by rw [← hl]; exact (List.getElem?_eq_some_iff.mp e).1
    unfold L2.start at e2
    rw [List.getElem?_append_left (by simpa using hi)] at e2
    exact ⟨i, m, e, e2⟩
  · cases e
theorem pad_mu {a : Addr} (h : Mu ρ (vs.map some) a) : Mu (ρ ++ List.replicate k .un) (start N vs) a := by
  obtain ⟨i, m, e1, e2⟩ := h
  refine ⟨i, m, by rw [List.getElem?_append_left (List.getElem?_eq_some_iff.mp e1).1]; exact e1, ?_⟩
  unfold L2.start
  rw [List.getElem?_append_left (List.getElem?_eq_some_iff.mp e2).1]
  exact e2
theorem start_at {i : Nat} (hi : i < vs.length) : (start N vs)[i]? = (vs.map some)[i]? := by
  unfold L2.start
  rw [List.getElem?_append_left (by simpa using hi)]
theorem Rel.pad (R : Rel K T G ρ (vs.map some) H) (hk : vs.length + k = N.length) : Rel K T G (ρ ++ List.replicate k .un) (start N vs) H := by
  have hl : ρ.length = vs.length := by have := R.len; rw [List.length_map] at this; exact this.symm
  refine ⟨R.wf, ?_, fun i s o e1 e2 => ?_, fun i j m m' p e1 e2 e3 e4 => ?_⟩
  · unfold L2.start
    rw [List.length_append, List.length_append, List.length_map, List.length_replicate, List.length_replicate]
    omega
  · rcases get_pad e1 with e | e
    · have hi : i < vs.length := by rw [← hl]; exact (List.getElem?_eq_some_iff.mp e).1
      rw [start_at hi] at e2
      exact R.sl i s o e e2
    · subst e; trivial
  · rcases get_pad e1 with f1 | f1
    · rcases get_pad e2 with f2 | f2
      · have hi : i < vs.length := by rw [← hl]; exact (List.getElem?_eq_some_iff.mp f1).1
        have hj : j < vs.length := by rw [← hl]; exact (List.getElem?_eq_some_iff.mp f2).1
        rw [start_at hi] at e3
        rw [start_at hj] at e4
        exact R.ne i j m m' p f1 f2 e3 e4
      · cases f2
    · cases f1
end
section
variable {P : Program} {w : World} {K : Frag} {mg : Str → Option Value} {base : Heap} {T : List (Addr × Str)} {cl : Xc → Addr}
/-- as Fun.okX; what is let out has no context -/
theorem okN {x qual : Str} {st : Stmt} {f : Addr} {fd : FuncData} {N ps : List Str} {k : Nat} {sp : Sp} (F : Fun K x qual st f fd) (S : FnScope N ps (defScope st)) (len : ∀ vs H Q E, sp vs H Q E → vs.length = ps.length)
    (hb : ∀ (cdv : Value) (A : Around) (outer : List Env) (s : Shared) (H : Hp) (vs : List V) (Q : VK) (E : XK), Room k (A.deeper (envOfC qual (defScope st) s.heap.objs.size f cdv)) → sp vs H Q E → ∃ t, PSs (cxOf (L2N.CX P w) P w K mg base N qual (defScope st) f cdv A outer s H E) (defBody st) t ∧ t { nx := fun _ H' => Q .non H', rt := Q } (start N vs) H) :
    FnOk P w K mg base (L2N.CX P w) (k + 1) f fd ps sp := by
  obtain ⟨_, _, _, _, _, _, _, _, _, rfl, lk, hcd⟩ := F.ex
  exact fn_of lk hcd S len fun A outer s H vs Q E hr h => hb _ A outer s H vs Q E hr h
/-- a block lets nothing out -/
theorem passN {X : Cx} : Passes (L2N.CX X.prog X.w) X E0 := fun _ _ _ _ _ _ _ h => by
  obtain ⟨_, _, _, _, _, _, _, _, _, _, _, _, z⟩ := h
  exact z.elim
theorem def_len {vs : List V} {H : Hp} {Q : VK} {E : XK} {n m : Nat} {body : FS} (h : spD K T cl (defF n m body) vs H Q E) : vs.length = n := by
  obtain ⟨G, ρ, R, h⟩ := h
  have hl := R.len
  rw [List.length_map] at hl
  unfold defF at h
  by_cases hz : ρ.length = n
  · rw [hl, hz]
  · rw [if_neg hz] at h
    exact h.elim
/-- what a def's promise gives its body -/
theorem def_read {N ps : List Str} {body : FS} {vs : List V} {H : Hp} {Q : VK} {E : XK} (hpl : ps.length ≤ N.length) (h : spD K T cl (defF ps.length N.length body) vs H Q E) :
    tS ⟨T, cl, E, ps.length⟩ K body { nx := fun _ H' => Q .non H', rt := Q } (start N vs) H := by
  obtain ⟨G, ρ, R, h⟩ := h
  have hl : ρ.length = vs.length := by have := R.len; rw [List.length_map] at this; exact this.symm
  unfold defF at h
  by_cases hz : ρ.length = ps.length
  · rw [if_pos hz] at h
    have hv : vs.length = ps.length := by omega
    have RP := R.pad (N := N) (k := N.length - ps.length) (by omega)
    refine ⟨ρ ++ List.replicate (N.length - ps.length) Sl.un, G, RP, (h.first.shift (.refl R.wf) (fun a ha => .inl (mu_pad hl ha)) fun o h2 => ?_)⟩
    have fin : ∀ (ρ2 : Rho) (v : V) (r : Rv) (σ' : L2.St) (ρ' : Rho) (G' H' : Hp), backA ρ ρ' = some ρ2 → Stp K T ps.length (ρ ++ List.replicate (N.length - ps.length) .un) (start N vs) G H ρ' σ' G' H' →
        RvR K G' H' H (Mu ρ' σ') (Mu (ρ ++ List.replicate (N.length - ps.length) .un) (start N vs)) v r →
        (∀ v G' H', Ext T (Mu ρ (vs.map some)) G H G' H' → Rel K T G' ρ2 (vs.map some) H' → RvR K G' H' H (Mu ρ2 (vs.map some)) (Mu ρ (vs.map some)) v r → Q v H') → Q v H' := by
      intro ρ2 v r σ' ρ' G' H' hb S' q k
      obtain ⟨l2, g2⟩ := backA_get hb
      have same : ∀ (i : Nat) (m m' : Mo), ρ[i]? = some (Sl.mu m) → ρ'[i]? = some (Sl.mu m') → σ'[i]? = (vs.map some)[i]? := fun i m m' e1 e2 => by
        have hi : i < vs.length := by rw [← hl]; exact (List.getElem?_eq_some_iff.mp e1).1
        obtain ⟨_, e3⟩ := S'.pr i m' (by omega) e2
        rw [e3, start_at hi]
      have mu2 : ∀ a, Mu ρ2 (vs.map some) a → Mu ρ' σ' a := fun a ⟨i, m, e1, e2⟩ => by
        rcases g2 i _ e1 with ⟨m1, m2, f1, f2, f3⟩ | ⟨_, f2⟩
        · exact ⟨i, m2, f2, by rw [same i m1 m2 f1 f2]; exact e2⟩
        · exact nomatch f2
      refine k v G' H' (S'.ext.mono fun a ha => .inl (mu_pad hl ha)) ⟨S'.rel.wf, by rw [l2]; exact R.len, fun i s o e1 e2 => ?_, fun i j m m' p e1 e2 e3 e4 => ?_⟩ ?_
      · rcases g2 i s e1 with ⟨m1, m2, f1, f2, rfl⟩ | ⟨f1, f2⟩
        · exact S'.rel.sl i _ o f2 (by rw [same i m1 m2 f1 f2]; exact e2)
        · refine (R.sl i s o f1 e2).mono S'.ext.sG fun p _ ⟨m, em⟩ => ?_
          subst em
          exact nomatch f2
      · rcases g2 i _ e1 with ⟨m1, m2, f1, f2, _⟩ | ⟨_, f2⟩
        · rcases g2 j _ e2 with ⟨n1, n2, h1, h2, _⟩ | ⟨_, h2⟩
          · exact R.ne i j m1 n1 p f1 h1 e3 e4
          · exact nomatch h2
        · exact nomatch f2
      · cases r with
        | da d => exact q
        | fr ds =>
          obtain ⟨p, us, e1, e2, e3, e4⟩ := q
          exact ⟨p, us, e1, fun a ha => e2 a (mu2 a ha), e3.imp (fun z => z) (fun z => mu_pad hl z), e4⟩
    obtain ⟨ρ2, e2, h3⟩ := h2.opt
    cases o with
    | nx ρ' => exact fun σ' G' H' S' => fin ρ2 .non (.da .non) σ' ρ' G' H' e2 S' .non h3
    | rt r ρ' => exact fun v σ' G' H' S' q => fin ρ2 v r σ' ρ' G' H' e2 S' q h3
  · rw [if_neg hz] at h
    exact h.elim
/-- THE RULE for a def -/
theorem fn_data {x qual : Str} {st : Stmt} {f : Addr} {fd : FuncData} {N ps : List Str} {k : Nat} {body : FS} (F : Fun K x qual st f fd) (S : FnScope N ps (defScope st))
    (hb : ∀ (cdv : Value) (A : Around) (outer : List Env) (s : Shared) (H : Hp) (E : XK), Room k (A.deeper (envOfC qual (defScope st) s.heap.objs.size f cdv)) →
      DSs ⟨T, cl, E, ps.length⟩ (cxOf (L2N.CX P w) P w K mg base N qual (defScope st) f cdv A outer s H E) (defBody st) body) :
    FnOk P w K mg base (L2N.CX P w) (k + 1) f fd ps (spD K T cl (defF ps.length N.length body)) := by
  have hpl : ps.length ≤ N.length := by have := congrArg List.length S.pre; rw [List.length_take] at this; omega
  exact okN F S (fun vs H Q E h => def_len h) fun cdv A outer s H vs Q E hr h => ⟨_, hb cdv A outer s H E hr, def_read hpl h⟩
end

/-! ### a call -/
/-- an argument: data, or a thing of the frame's own, by its slot -/
abbrev Arg := Sum DL.D Nat
def ArgR (K : Frag) (G : Hp) (σ : L2.St) (v : V) : Arg → Prop
  | .inl d => Dq K G v d
  | .inr i => σ[i]? = some (some v)
inductive ArgsR (K : Frag) (G : Hp) (σ : L2.St) : List V → List Arg → Prop
  | nil : ArgsR K G σ [] []
  | cons {v : V} {vs : List V} {x : Arg} {xs : List Arg} : ArgR K G σ v x → ArgsR K G σ vs xs → ArgsR K G σ (v :: vs) (x :: xs)
theorem ArgR.mono {K : Frag} {G G' : Hp} {σ : L2.St} {v : V} {x : Arg} (e : Same G G') (h : ArgR K G σ v x) : ArgR K G' σ v x := by
  cases x with
  | inl d => exact Dq.mono e h
  | inr i => exact h
abbrev FA := Rho → Rs (List Arg × Rho)
def tAr (c : Dc) (K : Frag) (f : FA) : TA := fun σ H Q => ∃ (ρ : Rho) (G : Hp), Rel K c.T G ρ σ H ∧
  Sat c (Mu ρ σ) G H (f ρ) fun r => ∀ vs G' H', Stp K c.T c.n ρ σ G H r.2 σ G' H' → ArgsR K G' σ vs r.1 → Q vs H'
def DAr (c : Dc) (X : Cx) (es : List Expr) (f : FA) : Prop := PA X es (tAr c X.K f)
section
variable {c : Dc} {X : Cx} {a b e tg : Expr} {es : List Expr} {fa fb : FE} {fas : FA} {pos : Pos}
def nilAr : FA := fun ρ => .ok ([], ρ)
def consAr (fa : FE) (fas : FA) : FA := fun ρ => (fa ρ).bind fun r => (fas r.2).bind fun s => .ok (.inl r.1 :: s.1, s.2)
def ownAr (i : Nat) (fas : FA) : FA := fun ρ => if isMu ρ[i]? = true then (fas ρ).bind fun s => .ok (.inr i :: s.1, s.2) else .no
theorem dr_nil : DAr c X [] nilAr := ⟨fun pos pins s σ H Q I ⟨ρ, G, R, h⟩ => pa_nil.run pos pins s σ H Q I (h [] G H (.refl R) .nil)⟩
theorem dr_cons (ha : DE c X a fa) (hr : DAr c X es fas) (hs : starEach (a :: es) X.env = (false, eval a X.env) :: starEach es X.env := by rfl) : DAr c X (a :: es) (consAr fa fas) := by
  refine ⟨fun pos pins s σ H Q I ⟨ρ, G, R, h⟩ => (pa_cons ha hr hs).run pos pins s σ H Q I ?_⟩
  refine ⟨ρ, G, R, h.first.imp fun r1 h2 x G1 H1 S1 d1 => ?_⟩
  refine ⟨r1.2, G1, S1.rel, h2.first.on S1 fun r2 h4 ys G2 H2 S2 d2 => ?_⟩
  exact h4 (x :: ys) G2 H2 (S1.trans S2) (.cons (Dq.mono S2.ext.sG d1) d2)
theorem dr_own {i : Nat} (ha : PE X a (tVar i)) (hr : DAr c X es fas) (hs : starEach (a :: es) X.env = (false, eval a X.env) :: starEach es X.env := by rfl) : DAr c X (a :: es) (ownAr i fas) := by
  refine ⟨fun pos pins s σ H Q I ⟨ρ, G, R, h⟩ => (pa_cons ha hr hs).run pos pins s σ H Q I ?_⟩
  unfold ownAr at h
  by_cases hm : isMu ρ[i]? = true
  · rw [if_pos hm] at h
    have : ∃ m, ρ[i]? = some (.mu m) := by
      unfold isMu at hm
      split at hm
      · exact ⟨_, by assumption⟩
      · cases hm
    obtain ⟨m, e⟩ := this
    have hi : i < σ.length := by rw [R.len]; exact (List.getElem?_eq_some_iff.mp e).1
    obtain ⟨p, e1, _⟩ := R.sl i _ _ e (List.getElem?_eq_getElem hi)
    have e2 : σ[i]? = some (some (.ref p)) := by rw [List.getElem?_eq_getElem hi, e1]
    refine ⟨.ref p, e2, ρ, G, R, h.first.imp fun r2 h4 ys G2 H2 S2 d2 => ?_⟩
    exact h4 (.ref p :: ys) G2 H2 S2 (.cons e2 d2)
  · rw [if_neg hm] at h
    exact h.elim
/-- the arguments as slots -/
def argSl (ρ : Rho) : Arg → Option Sl
  | .inl d => some (.da d)
  | .inr i => match ρ[i]? with
    | some (.mu m) => some (.mu m)
    | _ => none
def argSls (ρ : Rho) : List Arg → Option Rho
  | [] => some []
  | x :: xs => match argSl ρ x, argSls ρ xs with
    | some s, some r => some (s :: r)
    | _, _ => none
def ownOf : Arg → Option Nat
  | .inl _ => none
  | .inr i => some i
/-- behind the call the frame's own things are what the def has made of them -/
def putB (ρ : Rho) : List Arg → Rho → Rho
  | .inr i :: xs, s :: ss => (putB ρ xs ss).set i s
  | _ :: xs, _ :: ss => putB ρ xs ss
  | _, _ => ρ
def callF (f : FD) (fas : FA) : Rho → Rs (Rv × Rho) := fun ρ => (fas ρ).bind fun r => if (r.1.filterMap ownOf).Nodup then (Rs.ofO (argSls r.2 r.1)).bind fun ss => (f ss).bind fun u => if u.2.length = r.1.length then .ok (u.1, putB r.2 r.1 u.2) else .no else .no
theorem argSls_get {ρ : Rho} : ∀ {xs : List Arg} {ss : Rho}, argSls ρ xs = some ss → ss.length = xs.length ∧ ∀ (k : Nat) (x : Arg) (s : Sl), xs[k]? = some x → ss[k]? = some s → argSl ρ x = some s
  | [], ss, h => by
    cases h
    exact ⟨rfl, fun k x s e _ => by simp at e⟩
  | x :: xs, ss, h => by
    unfold argSls at h
    split at h
    · rename_i s r e1 e2
      cases h
      obtain ⟨l, g⟩ := argSls_get e2
      refine ⟨congrArg (· + 1) l, fun k y t e3 e4 => ?_⟩
      cases k with
      | zero =>
        cases Option.some.inj e3
        cases Option.some.inj e4
        exact e1
      | succ k => exact g k y t e3 e4
    · cases h
theorem ArgsR.length {K : Frag} {G : Hp} {σ : L2.St} : ∀ {vs : List V} {xs : List Arg}, ArgsR K G σ vs xs → vs.length = xs.length
  | _, _, .nil => rfl
  | _, _, .cons _ t => congrArg (· + 1) (ArgsR.length t)
theorem ArgsR.get {K : Frag} {G : Hp} {σ : L2.St} : ∀ {vs : List V} {xs : List Arg} {k : Nat} {v : V} {x : Arg}, ArgsR K G σ vs xs → vs[k]? = some v → xs[k]? = some x → ArgR K G σ v x
  | _, _, 0, _, _, .cons h _, e1, e2 => by
    cases Option.some.inj e1
    cases Option.some.inj e2
    exact h
  | _, _, k + 1, _, _, .cons _ t, e1, e2 => ArgsR.get (k := k) t e1 e2
theorem own_nodup : ∀ {xs : List Arg} {k l i : Nat}, (xs.filterMap ownOf).Nodup → xs[k]? = some (Sum.inr i) → xs[l]? = some (Sum.inr i) → k = l
  | [], _, _, _, _, e, _ => by simp at e
  | x :: xs, 0, 0, _, _, _, _ => rfl
  | x :: xs, 0, l + 1, i, h, e1, e2 => by
    cases Option.some.inj e1
    have h : (i :: xs.filterMap ownOf).Nodup := h
    exact absurd (List.mem_filterMap.mpr ⟨Sum.inr i, List.mem_of_getElem? (show xs[l]? = some (Sum.inr i) from e2), (show ownOf (Sum.inr i) = some i from rfl)⟩) (List.nodup_cons.mp h).1
  | x :: xs, k + 1, 0, i, h, e1, e2 => by
    cases Option.some.inj e2
    have h : (i :: xs.filterMap ownOf).Nodup := h
    exact absurd (List.mem_filterMap.mpr ⟨Sum.inr i, List.mem_of_getElem? (show xs[k]? = some (Sum.inr i) from e1), (show ownOf (Sum.inr i) = some i from rfl)⟩) (List.nodup_cons.mp h).1
  | x :: xs, k + 1, l + 1, i, h, e1, e2 => by
    have h' : (xs.filterMap ownOf).Nodup := by
      cases x with
      | inl d => exact h
      | inr j => exact (List.nodup_cons.mp (show (j :: xs.filterMap ownOf).Nodup from h)).2
    exact congrArg (· + 1) (own_nodup h' e1 e2)
theorem putB_length (ρ : Rho) : ∀ (xs : List Arg) (ss : Rho), (putB ρ xs ss).length = ρ.length
  | [], _ => rfl
  | .inl _ :: xs, [] => rfl
  | .inr _ :: xs, [] => rfl
  | .inl _ :: xs, _ :: ss => putB_length ρ xs ss
  | .inr i :: xs, s :: ss => by
    show ((putB ρ xs ss).set i s).length = _
    rw [List.length_set]
    exact putB_length ρ xs ss
theorem putB_get (ρ : Rho) : ∀ (xs : List Arg) (ss : Rho) (j : Nat) (s : Sl), ss.length = xs.length → (putB ρ xs ss)[j]? = some s → (∃ k : Nat, xs[k]? = some (Sum.inr j) ∧ ss[k]? = some s) ∨ ((∀ k : Nat, xs[k]? ≠ some (Sum.inr j)) ∧ ρ[j]? = some s)
  | [], [], j, s, _, h => .inr ⟨fun k e => by simp at e, h⟩
  | x :: xs, [], _, _, hl, _ => nomatch hl
  | [], _ :: _, _, _, hl, _ => nomatch hl
  | .inl d :: xs, s0 :: ss, j, s, hl, h => by
    rcases putB_get ρ xs ss j s (Nat.succ.inj hl) h with ⟨k, e1, e2⟩ | ⟨h1, h2⟩
    · exact .inl ⟨k + 1, e1, e2⟩
    · refine .inr ⟨fun k e => ?_, h2⟩
      cases k with
      | zero => cases Option.some.inj e
      | succ k => exact h1 k e
  | .inr i :: xs, s0 :: ss, j, s, hl, h => by
    rcases get_set (show ((putB ρ xs ss).set i s0)[j]? = some s from h) with ⟨q1, q2⟩ | ⟨q1, q2⟩
    · subst q1 q2
      exact .inl ⟨0, rfl, rfl⟩
    · rcases putB_get ρ xs ss j s (Nat.succ.inj hl) q2 with ⟨k, e1, e2⟩ | ⟨h1, h2⟩
      · exact .inl ⟨k + 1, e1, e2⟩
      · refine .inr ⟨fun k e => ?_, h2⟩
        cases k with
        | zero =>
          cases Option.some.inj e
          exact q1 rfl
        | succ k => exact h1 k e
/-- the callee's promise, from what is known of the arguments -/
theorem call_data {K : Frag} {f : FD} {ρ ρ1 : Rho} {σ : L2.St} {G H G1 H1 : Hp} {xs : List Arg} {ss : Rho} {vs : List V} {Q : VK} {k : Rv × Rho → Prop} (S : Stp K c.T c.n ρ σ G H ρ1 σ G1 H1) (hx : ArgsR K G1 σ vs xs) (hn : (xs.filterMap ownOf).Nodup) (ha : argSls ρ1 xs = some ss)
    (h : Sat c (Mu ρ σ) G H ((f ss).bind fun u => if u.2.length = xs.length then .ok (u.1, putB ρ1 xs u.2) else .no) k)
    (hk : ∀ (u : Rv) (ρ2 : Rho) (v : V) (G' H' : Hp), k (u, ρ2) → Stp K c.T c.n ρ σ G H ρ2 σ G' H' → RvR K G' H' H (Mu ρ2 σ) (Mu ρ σ) v u → Q v H') : spD K c.T c.cl f vs H1 Q c.E := by
  obtain ⟨lss, gss⟩ := argSls_get ha
  have lvs := hx.length
  have own : ∀ (k : Nat) (m : Mo), ss[k]? = some (Sl.mu m) → ∃ i, xs[k]? = some (.inr i) ∧ ρ1[i]? = some (Sl.mu m) := fun k m e => by
    have hk : k < xs.length := by rw [← lss]; exact (List.getElem?_eq_some_iff.mp e).1
    have e1 := gss k _ _ (List.getElem?_eq_getElem hk) e
    cases ex : xs[k] with
    | inl d => rw [ex] at e1; cases e1
    | inr i =>
      rw [ex] at e1
      unfold argSl at e1
      dsimp only at e1
      split at e1
      · rename_i m' e2
        cases e1
        exact ⟨i, by rw [List.getElem?_eq_getElem hk, ex], e2⟩
      · cases e1
  have at_ : ∀ (k i : Nat) (o : Option V), xs[k]? = some (.inr i) → (vs.map some)[k]? = some o → σ[i]? = some o := fun k i o e1 e2 => by
    rw [List.getElem?_map] at e2
    cases ev : vs[k]? with
    | none => rw [ev] at e2; cases e2
    | some v =>
      rw [ev] at e2
      cases e2
      exact hx.get ev e1
  have R1 := S.rel
  have muA : ∀ a, Mu ss (vs.map some) a → Mu ρ1 σ a := fun a ⟨k, m, e1, e2⟩ => by
    obtain ⟨i, e3, e4⟩ := own k m e1
    exact ⟨i, m, e4, at_ k i _ e3 e2⟩
  have RA : Rel K c.T G1 ss (vs.map some) H1 := by
    refine ⟨R1.wf, by rw [List.length_map, lvs, lss], fun k s o e1 e2 => ?_, fun k l m m' p e1 e2 e3 e4 => ?_⟩
    · have hk : k < xs.length := by rw [← lss]; exact (List.getElem?_eq_some_iff.mp e1).1
      have e3 := gss k _ _ (List.getElem?_eq_getElem hk) e1
      cases ex : xs[k] with
      | inl d =>
        rw [ex] at e3
        cases e3
        have hkv : k < vs.length := by rw [lvs]; exact hk
        rw [List.getElem?_map, List.getElem?_eq_getElem hkv] at e2
        cases e2
        exact ⟨_, rfl, (show ArgR K G1 σ vs[k] (Sum.inl _) from hx.get (List.getElem?_eq_getElem hkv) (by rw [List.getElem?_eq_getElem hk, ex]))⟩
      | inr i =>
        rw [ex] at e3
        unfold argSl at e3
        dsimp only at e3
        split at e3
        · rename_i m' e5
          cases e3
          exact R1.sl i _ o e5 (at_ k i o (by rw [List.getElem?_eq_getElem hk, ex]) e2)
        · cases e3
    · obtain ⟨i, f1, f2⟩ := own k m e1
      obtain ⟨j, g1, g2⟩ := own l m' e2
      have e : i = j := R1.ne i j m m' p f2 g2 (at_ k i _ f1 e3) (at_ l j _ g1 e4)
      subst e
      exact own_nodup hn f1 g1
  refine ⟨G1, ss, RA, ?_⟩
  have h1 := h.first
  cases hf : f ss with
  | no => rw [hf] at h1; exact h1
  | er x =>
    rw [hf] at h1
    exact fun G' H' e' => h1 G' H' (S.ext.trans e' fun a ha => S.mm a (muA a ha))
  | ok u =>
    rw [hf] at h1
    intro v G2 H2 E2 R2 q
    have h2 : Sat c (Mu ρ σ) G H (if u.2.length = xs.length then Rs.ok (u.1, putB ρ1 xs u.2) else .no) k := h1
    by_cases hl : u.2.length = xs.length
    · rw [if_pos hl] at h2
      have pg := fun j s => putB_get ρ1 xs u.2 j s hl
      have passed : ∀ (k j : Nat), xs[k]? = some (.inr j) → ∃ m, ρ1[j]? = some (Sl.mu m) ∧ ss[k]? = some (Sl.mu m) := fun k j e => by
        have hk : k < ss.length := by rw [lss]; exact (List.getElem?_eq_some_iff.mp e).1
        have e1 := gss k _ _ e (List.getElem?_eq_getElem hk)
        unfold argSl at e1
        dsimp only at e1
        split at e1
        · rename_i m' e2
          refine ⟨m', e2, by rw [List.getElem?_eq_getElem hk]; exact e1.symm⟩
        · cases e1
      have vk : ∀ (k j : Nat) (o : Option V), xs[k]? = some (.inr j) → σ[j]? = some o → (vs.map some)[k]? = some o := fun k j o e1 e2 => by
        have hk : k < (vs.map some).length := by rw [List.length_map, lvs]; exact (List.getElem?_eq_some_iff.mp e1).1
        have e3 := at_ k j _ e1 (List.getElem?_eq_getElem hk)
        rw [List.getElem?_eq_getElem hk, ← e3, e2]
      have notM : ∀ (j : Nat) (m : Mo) (p : Addr), (∀ k : Nat, xs[k]? ≠ some (Sum.inr j)) → ρ1[j]? = some (Sl.mu m) → σ[j]? = some (some (V.ref p)) → ¬ Mu ss (vs.map some) p := fun j m p hno e1 e2 ⟨k, m', e3, e4⟩ => by
        obtain ⟨i, f1, f2⟩ := own k m' e3
        have e : i = j := R1.ne i j m' m p f2 e1 (at_ k i _ f1 e4) e2
        subst e
        exact hno k f1
      have stay : ∀ (p : Addr), Mu ρ1 σ p → ¬ Mu ss (vs.map some) p → G2 p = none ∧ H2 p = H1 p := fun p hp hm => by
        have nt : ∀ ps, H1 p ≠ some (.tbl ps) := fun ps z => by
          obtain ⟨i, m, e1, e2⟩ := hp
          obtain ⟨p', e3, hh⟩ := R1.sl i _ _ e1 e2
          cases e3
          cases m with
          | lst ds => obtain ⟨_, us, hh, _⟩ := hh; rw [hh] at z; cases z
          | dct ks ds => obtain ⟨_, us, hh, _⟩ := hh; rw [hh] at z; cases z
          | ins C fs => obtain ⟨_, dx, us, hh, _⟩ := hh; rw [hh] at z; cases z
        refine ⟨E2.fr p (R1.muFree hp) (R1.muOw hp) hm, ?_⟩
        cases e : H1 p with
        | none => exact absurd e (R1.muSome hp)
        | some o => exact E2.sH p o e hm fun ps z => nt ps (by rw [e, z])
      have muB : ∀ a, Mu (putB ρ1 xs u.2) σ a → Mu ρ1 σ a := fun a ⟨j, m, e1, e2⟩ => by
        rcases pg j _ e1 with ⟨k, f1, f2⟩ | ⟨_, f2⟩
        · obtain ⟨m', g1, _⟩ := passed k j f1
          exact ⟨j, m', g1, e2⟩
        · exact ⟨j, m, f2, e2⟩
      have RB : Rel K c.T G2 (putB ρ1 xs u.2) σ H2 := by
        refine ⟨R2.wf, by rw [putB_length]; exact R1.len, fun j s o e1 e2 => ?_, fun i j m m' p e1 e2 e3 e4 => ?_⟩
        · rcases pg j s e1 with ⟨k, f1, f2⟩ | ⟨hno, f2⟩
          · exact R2.sl k s o f2 (vk k j o f1 e2)
          · refine (R1.sl j s o f2 e2).mono E2.sG fun p eo ⟨m, em⟩ => ?_
            subst em; subst eo
            exact stay p ⟨j, m, f2, e2⟩ (notM j m p hno f2 e2)
        · have pre : ∀ (i : Nat) (m : Mo), (putB ρ1 xs u.2)[i]? = some (Sl.mu m) → ∃ m', ρ1[i]? = some (Sl.mu m') := fun i m e => by
            rcases pg i _ e with ⟨k, f1, _⟩ | ⟨_, f2⟩
            · obtain ⟨m', g1, _⟩ := passed k i f1
              exact ⟨m', g1⟩
            · exact ⟨m, f2⟩
          obtain ⟨m1, f1⟩ := pre i m e1
          obtain ⟨m2, f2⟩ := pre j m' e2
          exact R1.ne i j m1 m2 p f1 f2 e3 e4
      have SB : Stp K c.T c.n ρ1 σ G1 H1 (putB ρ1 xs u.2) σ G2 H2 := ⟨RB, E2.mono fun a ha => .inl (muA a ha), fun a ha => .inl (muB a ha), fun i m' hi e => by
        rcases pg i _ e with ⟨k, f1, _⟩ | ⟨_, f2⟩
        · obtain ⟨m, g1, _⟩ := passed k i f1
          exact ⟨⟨m, g1⟩, rfl⟩
        · exact ⟨⟨m', f2⟩, rfl⟩⟩
      refine hk u.1 _ v G2 H2 h2 (S.trans SB) ?_
      cases hu : u.1 with
      | da d => rw [hu] at q; exact q
      | fr ds =>
        rw [hu] at q
        obtain ⟨p, us, e1, e2, e3, e4, e5, e6⟩ := q
        refine ⟨p, us, e1, fun a ha z => ?_, ?_, e4, e5, e6⟩
        · subst z
          obtain ⟨j, m, f1, f2⟩ := ha
          rcases pg j _ f1 with ⟨k, g1, g2⟩ | ⟨hno, g2⟩
          · exact e2 a ⟨k, m, g2, vk k j _ g1 f2⟩ rfl
          · rcases e3 with z | z
            · exact R1.muSome ⟨j, m, g2, f2⟩ z
            · exact notM j m a hno g2 f2 z
        · rcases e3 with z | z
          · exact .inl (S.ext.back z)
          · exact (S.mm p (muA p z)).elim .inr .inl
    · rw [if_neg hl] at h2
      exact h2.elim
/-- x(e, ..), x a def of the text: what it hands back as data, as a new list -/
def callD (f : FD) (fas : FA) : FE := fun ρ => (callF f fas ρ).bind fun r => match r.1 with
  | .da d => .ok (d, r.2)
  | .fr _ => .no
def callN (f : FD) (fas : FA) : Rho → Rs (List DL.D × Rho) := fun ρ => (callF f fas ρ).bind fun r => match r.1 with
  | .fr ds => .ok (ds, r.2)
  | .da _ => .no
variable {k : Nat} {f : Addr} {fd : FuncData} {ps : List Str} {ff : FD} {x : Str} {p : Pos}
theorem de_call (F : FnOk X.prog X.w X.K X.mg X.base (L2N.CX X.prog X.w) k f fd ps (spD X.K c.T c.cl ff)) (hr : Room k X.A) (hm : X.mg x = some (.ref f)) (hk : PySem.W.keepIn X.K (.ref f) = true) (hb : Binds X.K fd ps []) (hx : Passes (L2N.CX X.prog X.w) X c.E)
    (ha : DAr c X (e :: es) fas) (hg : Gl X x := by rfl) (hdb : (x == ("__debug__" : Str)) = false := by decide) (he : starEach (e :: es) X.env = (false, eval e X.env) :: starEach es X.env := by rfl) (hpl : (backTo pos (starEach es X.env)).any (·.1) = false := by rfl) :
    DE c X (.Call (.Name x p) (e :: es) [] pos) (callD ff fas) := by
  refine DE.mk ⟨_, pe_call F hr hg hm hk hb .nil hx ha hdb he hpl, fun ρ σ G H Q R h => ?_⟩
  refine ⟨ρ, G, R, h.first.first.imp fun r h2 vs G1 H1 S hx => ?_⟩
  show spD X.K c.T c.cl ff (vs ++ []) _ _ _
  rw [List.append_nil]
  by_cases hn : (r.1.filterMap ownOf).Nodup
  · rw [if_pos hn] at h2
    obtain ⟨ss, e1, h3⟩ := h2.opt
    refine call_data S hx hn e1 h3 fun u ρ2 v G' H' q S' rv => ?_
    cases u with
    | da d => exact q v G' H' S' rv
    | fr ds => exact q.elim
  · rw [if_neg hn] at h2
    exact h2.elim
theorem df_call (F : FnOk X.prog X.w X.K X.mg X.base (L2N.CX X.prog X.w) k f fd ps (spD X.K c.T c.cl ff)) (hr : Room k X.A) (hm : X.mg x = some (.ref f)) (hk : PySem.W.keepIn X.K (.ref f) = true) (hb : Binds X.K fd ps []) (hx : Passes (L2N.CX X.prog X.w) X c.E)
    (ha : DAr c X (e :: es) fas) (hg : Gl X x := by rfl) (hdb : (x == ("__debug__" : Str)) = false := by decide) (he : starEach (e :: es) X.env = (false, eval e X.env) :: starEach es X.env := by rfl) (hpl : (backTo pos (starEach es X.env)).any (·.1) = false := by rfl) :
    DF c X (.Call (.Name x p) (e :: es) [] pos) (callN ff fas) := by
  refine DF.mk ⟨_, pe_call F hr hg hm hk hb .nil hx ha hdb he hpl, fun ρ σ G H Q R h => ?_⟩
  refine ⟨ρ, G, R, h.first.first.imp fun r h2 vs G1 H1 S hx => ?_⟩
  show spD X.K c.T c.cl ff (vs ++ []) _ _ _
  rw [List.append_nil]
  by_cases hn : (r.1.filterMap ownOf).Nodup
  · rw [if_pos hn] at h2
    obtain ⟨ss, e1, h3⟩ := h2.opt
    refine call_data S hx hn e1 h3 fun u ρ2 v G' H' q S' rv => ?_
    cases u with
    | da d => exact q.elim
    | fr ds =>
      obtain ⟨p, us, rfl, a1, a2, a3, a4, a5⟩ := rv
      exact q p us G' H' S' a1 a2 a3 a4 a5
  · rw [if_neg hn] at h2
    exact h2.elim
/-- a constant of the module -/
theorem de_glob {x : Str} {v : V} {u : Value} {d : DL.D} (hm : X.mg x = some u) (r : RelV v u) (hd : ∀ G, Dq X.K G v d) (hg : Gl X x := by rfl) (hdb : (x == ("__debug__" : Str)) = false := by decide) : DE c X (.Name x pos) (retE d) :=
  DE.mk ⟨_, pe_glob hg hm r hdb, fun ρ σ G H Q R h => h v G H (.refl R) (hd G)⟩
end
end DL

set_option maxHeartbeats 4000000
/-! DLg: built-ins, items, slices on data. -/
namespace DL
open PySem PySem.Spec PyProof.Rows L2
section
variable {c : Dc} {X : Cx} {a b e d : Expr} {es rest : List Expr} {fa fb fd f : FE} {fas : Rho → Rs (List D × Rho)} {pos : Pos}

/-! ### isinstance -/
def tyN : D → Option String
  | .non => some "NoneType"
  | .bl _ => some "bool"
  | .int _ => some "int"
  | .str _ => some "str"
  | .tup _ => some "tuple"
  | .lst _ => some "list"
  | .scr _ => some "list"
  | _ => none
theorem Dq.tyX {K : Frag} {G H : Hp} {v : V} {d : D} {T : String} (e : Same G H) (h : Dq K G v d) (ht : tyN d = some T) : TyX K H v (.type T) := by
  cases h with
  | non => cases ht; exact .base .non
  | bl b => cases ht; exact .base (.bl b)
  | int i => cases ht; exact .base (.int i)
  | str x => cases ht; exact .base (.str x)
  | lst h _ => cases ht; exact .base (.lst (e _ _ h))
  | tup h _ =>
    cases ht
    rcases h with (h | ⟨o, h⟩) | ⟨o, its, n, hk, hc, _⟩
    · exact .base (.tup (e _ _ h))
    · exact .fTuple (e _ _ h)
    · exact .kTuple hk hc
  | scr h =>
    cases ht
    rcases h with (h | ⟨o, h⟩) | ⟨o, its, n, hk, hc, _⟩
    · exact .base (.lst (e _ _ h))
    · exact .base (.frz (e _ _ h))
    · exact .kList hk hc
  | rng h => cases ht
  | dct h => cases ht
def isiD (T : String) (d : D) : Option D := (tyN d).bind fun t => (kitB t T).map .bl
def isiE (T : String) (fa : FE) : FE := unE (isiD T) fa
theorem de_isi {x : Str} {T : String} {p p2 : Pos} (hm : X.mg "isinstance" = none) (hmT : X.mg x = none) (hvT : bootBuiltins x = some (.type T)) (ha : DE c X a fa) (hg : Gl X "isinstance" := by rfl) (hgT : Gl X x := by rfl) (hnT : x ≠ "__name__" := by decide) (hdT : (x == ("__debug__" : Str)) = false := by decide)
    (hs : starEach [a, .Name x p2] X.env = (false, eval a X.env) :: starEach [.Name x p2] X.env := by rfl) (hs2 : starEach [.Name x p2] X.env = (false, eval (.Name x p2) X.env) :: starEach [] X.env := by rfl) (hpl : (backTo pos (starEach [.Name x p2] X.env)).any (·.1) = false := by rfl) :
    DE c X (.Call (.Name "isinstance" p) [a, .Name x p2] [] pos) (isiE T fa) := by
  obtain ⟨t1, p1, k1⟩ := ha.un
  refine DE.mk ⟨_, pe_callB call_isi hg hm (by decide +kernel) (pa_cons p1 (pa_cons (pe_bltn (v := .ty T) hgT hmT hvT rfl hnT hdT) pa_nil hs2) hs) (by decide) (by decide) hs hpl, fun ρ σ G H Q R h => ?_⟩
  refine k1 ρ σ G H _ R (h.first.imp fun r h2 v G1 H1 S d => ?_)
  obtain ⟨z, ez, k⟩ := h2.opt
  unfold isiD at ez
  obtain ⟨t, et, ez⟩ := Option.bind_eq_some_iff.mp ez
  obtain ⟨b, eb, rfl⟩ := Option.map_eq_some_iff.mp ez
  exact ⟨v, .ty T, .type t, .type T, b, rfl, .ty T, d.tyX S.rel.wf.same et, kit_ty eb, k _ _ _ S (.bl b)⟩

/-! ### lists of one kind -/
def blsD : List D → Option (List Bool)
  | [] => some []
  | .bl b :: r => (blsD r).map (b :: ·)
  | _ => none
def intsD : List D → Option (List Int)
  | [] => some []
  | .int i :: r => (intsD r).map (i :: ·)
  | _ => none
def strsD : List D → Option (List Str)
  | [] => some []
  | .str i :: r => (strsD r).map (i :: ·)
  | _ => none
theorem blsD_vals {K : Frag} {G : Hp} : ∀ {vs : List V} {ds : List D} {bs : List Bool}, DqAll K G vs ds → blsD ds = some bs → vs = bs.map V.bl
  | _, _, _, .nil, h => by cases h; rfl
  | _, _, bs, @DqAll.cons _ _ v vs d ds h t, e => by
    cases d with
    | bl b =>
      obtain ⟨r, e1, rfl⟩ := Option.map_eq_some_iff.mp (show (blsD ds).map (b :: ·) = some bs from e)
      rw [blsD_vals t e1, dq_bl h]
      rfl
    | _ => exact nomatch e
theorem intsD_vals {K : Frag} {G : Hp} : ∀ {vs : List V} {ds : List D} {bs : List Int}, DqAll K G vs ds → intsD ds = some bs → vs = bs.map V.int
  | _, _, _, .nil, h => by cases h; rfl
  | _, _, bs, @DqAll.cons _ _ v vs d ds h t, e => by
    cases d with
    | int b =>
      obtain ⟨r, e1, rfl⟩ := Option.map_eq_some_iff.mp (show (intsD ds).map (b :: ·) = some bs from e)
      rw [intsD_vals t e1, dq_int h]
      rfl
    | _ => exact nomatch e
theorem strsD_vals {K : Frag} {G : Hp} : ∀ {vs : List V} {ds : List D} {bs : List Str}, DqAll K G vs ds → strsD ds = some bs → vs = bs.map V.str
  | _, _, _, .nil, h => by cases h; rfl
  | _, _, bs, @DqAll.cons _ _ v vs d ds h t, e => by
    cases d with
    | str b =>
      obtain ⟨r, e1, rfl⟩ := Option.map_eq_some_iff.mp (show (strsD ds).map (b :: ·) = some bs from e)
      rw [strsD_vals t e1, dq_str h]
      rfl
    | _ => exact nomatch e
theorem intsD_ints : ∀ ns : List Int, intsD (ns.map D.int) = some ns
  | [] => rfl
  | n :: r => by
    show (intsD (r.map D.int)).map (n :: ·) = _
    rw [intsD_ints r]
    rfl
theorem blsD_bls : ∀ ns : List Bool, blsD (ns.map D.bl) = some ns
  | [] => rfl
  | n :: r => by
    show (blsD (r.map D.bl)).map (n :: ·) = _
    rw [blsD_bls r]
    rfl
theorem strsD_strs : ∀ ns : List Str, strsD (ns.map D.str) = some ns
  | [] => rfl
  | n :: r => by
    show (strsD (r.map D.str)).map (n :: ·) = _
    rw [strsD_strs r]
    rfl
def allD : List D → Option D
  | [.lst ds] => (blsD ds).map fun bs => .bl (bs.all id)
  | _ => none
theorem cd_all : CallD c X (rAll X.K) allD := by
  intro ρ σ G H xs dxs z Q R hx e k
  unfold allD at e
  split at e
  · obtain ⟨bs, e1, rfl⟩ := Option.map_eq_some_iff.mp e
    obtain ⟨v, rfl, h⟩ := dqAll1 hx
    obtain ⟨l, us, rfl, hl, hus⟩ := dq_lst h
    have ev := blsD_vals hus e1
    subst ev
    exact ⟨l, bs, rfl, .of (R.wf.same _ _ hl), k _ _ _ (.refl R) (.bl _)⟩
  · cases e
theorem de_all {p : Pos} (hc : X.calm = true) (hm : X.mg "all" = none) (ha : DAs c X [a] fas) (hgl : Gl X "all" := by rfl) (he : starEach [a] X.env = (false, eval a X.env) :: starEach [] X.env := by rfl) : DE c X (.Call (.Name "all" p) [a] [] pos) (callE allD fas) :=
  de_callB (r := rAll X.K) (cr_all hc) cd_all PyProof.Rows.boot_all hm ha hgl (by decide) (by decide) he (by rfl)
/-- the greatest and the least of a list that is not empty -/
def maxI : List Int → Int
  | [] => 0
  | [x] => x
  | x :: y :: r => if maxI (y :: r) ≤ x then x else maxI (y :: r)
def minI : List Int → Int
  | [] => 0
  | [x] => x
  | x :: y :: r => if x ≤ minI (y :: r) then x else minI (y :: r)
theorem maxI_ge : ∀ (ns : List Int) (n : Int), n ∈ ns → n ≤ maxI ns
  | [], _, h => by cases h
  | [x], n, h => by
    have : n = x := by simpa using h
    subst this
    exact Int.le_refl _
  | x :: y :: r, n, h => by
    have ih := maxI_ge (y :: r)
    unfold maxI
    rcases List.mem_cons.mp h with e | e
    · subst e
      split
      · exact Int.le_refl _
      · omega
    · have := ih n e
      split <;> omega
theorem maxI_mem : ∀ (ns : List Int), ns ≠ [] → maxI ns ∈ ns
  | [], h => absurd rfl h
  | [x], _ => List.mem_singleton.mpr rfl
  | x :: y :: r, _ => by
    have ih := maxI_mem (y :: r) (fun z => nomatch z)
    unfold maxI
    split
    · exact List.mem_cons_self
    · exact List.mem_cons_of_mem _ ih
theorem minI_le : ∀ (ns : List Int) (n : Int), n ∈ ns → minI ns ≤ n
  | [], _, h => by cases h
  | [x], n, h => by
    have : n = x := by simpa using h
    subst this
    exact Int.le_refl _
  | x :: y :: r, n, h => by
    have ih := minI_le (y :: r)
    unfold minI
    rcases List.mem_cons.mp h with e | e
    · subst e
      split
      · exact Int.le_refl _
      · omega
    · have := ih n e
      split <;> omega
theorem minI_mem : ∀ (ns : List Int), ns ≠ [] → minI ns ∈ ns
  | [], h => absurd rfl h
  | [x], _ => List.mem_singleton.mpr rfl
  | x :: y :: r, _ => by
    have ih := minI_mem (y :: r) (fun z => nomatch z)
    unfold minI
    split
    · exact List.mem_cons_self
    · exact List.mem_cons_of_mem _ ih
def neE0 (ns : List Int) (d : D) : Option D := match ns with
  | [] => none
  | _ :: _ => some d
def maxD : List D → Option D
  | [.lst ds] => (intsD ds).bind fun ns => neE0 ns (.int (maxI ns))
  | [.int i, .int j] => some (.int (if j > i then j else i))
  | _ => none
def minD : List D → Option D
  | [.lst ds] => (intsD ds).bind fun ns => neE0 ns (.int (minI ns))
  | [.int i, .int j] => some (.int (if j < i then j else i))
  | _ => none
def sumD : List D → Option D
  | [.lst ds] => (intsD ds).map fun ns => .int ns.sum
  | [.tup ds] => (intsD ds).map fun ns => .int ns.sum
  | _ => none
def rMax2 : List V → Hp → VK → Prop := fun xs H Q => ∃ i j, xs = [.int i, .int j] ∧ Q (.int (if j > i then j else i)) H
def rMin2 : List V → Hp → VK → Prop := fun xs H Q => ∃ i j, xs = [.int i, .int j] ∧ Q (.int (if j < i then j else i)) H
theorem ne_of_neE0 {ns : List Int} {d z : D} (h : neE0 ns d = some z) : ns ≠ [] ∧ d = z := by
  cases ns with
  | nil => cases h
  | cons n r =>
    constructor
    · intro q; cases q
    · exact Option.some.inj h
theorem cr_maxA (hc : X.calm = true) : CallR X (.builtin "max") (fun xs H Q => rMax X.K xs H Q ∨ rMax2 xs H Q) := (cr_max hc).or (call_max2 hc)
theorem cr_minA (hc : X.calm = true) : CallR X (.builtin "min") (fun xs H Q => rMin X.K xs H Q ∨ rMin2 xs H Q) := (cr_min hc).or (call_min2 hc)
theorem cd_max : CallD c X (fun xs H Q => rMax X.K xs H Q ∨ rMax2 xs H Q) maxD := by
  intro ρ σ G H xs dxs z Q R hx e k
  unfold maxD at e
  split at e
  · obtain ⟨ns, e1, e2⟩ := Option.bind_eq_some_iff.mp e
    obtain ⟨hne, rfl⟩ := ne_of_neE0 e2
    obtain ⟨v, rfl, h⟩ := dqAll1 hx
    obtain ⟨l, us, rfl, hl, hus⟩ := dq_lst h
    have ev := intsD_vals hus e1
    subst ev
    refine .inl ⟨l, ns, rfl, .of (R.wf.same _ _ hl), List.length_pos_iff.mpr hne, fun m hm hle => ?_⟩
    have em : m = maxI ns := Int.le_antisymm (maxI_ge ns m hm) (hle _ (maxI_mem ns hne))
    rw [em]
    exact k _ _ _ (.refl R) (.int _)
  · cases e
    obtain ⟨v, v', rfl, h, h'⟩ := dqAll2 hx
    cases dq_int h
    cases dq_int h'
    exact .inr ⟨_, _, rfl, k _ _ _ (.refl R) (.int _)⟩
  · cases e
theorem cd_min : CallD c X (fun xs H Q => rMin X.K xs H Q ∨ rMin2 xs H Q) minD := by
  intro ρ σ G H xs dxs z Q R hx e k
  unfold minD at e
  split at e
  · obtain ⟨ns, e1, e2⟩ := Option.bind_eq_some_iff.mp e
    obtain ⟨hne, rfl⟩ := ne_of_neE0 e2
    obtain ⟨v, rfl, h⟩ := dqAll1 hx
    obtain ⟨l, us, rfl, hl, hus⟩ := dq_lst h
    have ev := intsD_vals hus e1
    subst ev
    refine .inl ⟨l, ns, rfl, .of (R.wf.same _ _ hl), List.length_pos_iff.mpr hne, fun m hm hle => ?_⟩
    have em : m = minI ns := Int.le_antisymm (hle _ (minI_mem ns hne)) (minI_le ns m hm)
    rw [em]
    exact k _ _ _ (.refl R) (.int _)
  · cases e
    obtain ⟨v, v', rfl, h, h'⟩ := dqAll2 hx
    cases dq_int h
    cases dq_int h'
    exact .inr ⟨_, _, rfl, k _ _ _ (.refl R) (.int _)⟩
  · cases e
theorem de_max {p : Pos} (hc : X.calm = true) (hm : X.mg "max" = none) (ha : DAs c X (a :: es) fas) (hgl : Gl X "max" := by rfl) (he : starEach (a :: es) X.env = (false, eval a X.env) :: starEach es X.env := by rfl) (hpl : (backTo pos (starEach es X.env)).any (·.1) = false := by rfl) : DE c X (.Call (.Name "max" p) (a :: es) [] pos) (callE maxD fas) :=
  de_callB (cr_maxA hc) cd_max (by decide +kernel) hm ha hgl (by decide) (by decide) he hpl
theorem de_min {p : Pos} (hc : X.calm = true) (hm : X.mg "min" = none) (ha : DAs c X (a :: es) fas) (hgl : Gl X "min" := by rfl) (he : starEach (a :: es) X.env = (false, eval a X.env) :: starEach es X.env := by rfl) (hpl : (backTo pos (starEach es X.env)).any (·.1) = false := by rfl) : DE c X (.Call (.Name "min" p) (a :: es) [] pos) (callE minD fas) :=
  de_callB (cr_minA hc) cd_min (by decide +kernel) hm ha hgl (by decide) (by decide) he hpl
/-- sum of a tuple of ints -/
def rSumT (K : Frag) : List V → Hp → VK → Prop := fun vs H Q => ∃ (a : Addr) (ns : List Int), vs = [V.ref a] ∧ SqT K H a (ns.map V.int) ∧ Q (.int ns.sum) H
theorem cr_sumT (hc : X.calm = true) : CallR X (.builtin "sum") (rSumT X.K) := by
  intro pins s σ H vs us Q I r h
  obtain ⟨a, ns, rfl, hs, q⟩ := h
  obtain ⟨its, rv, hl, _⟩ := I.tuple hs
  rw [Vals.ref1 r]
  have hi := rv.ints
  obtain ⟨xs, e⟩ := hi.allInts.items
  have hn : numsOf (intItems xs).toList = ns := by rw [← e]; exact hi.numsOf
  rw [nums_intItems] at hn
  rw [e] at hl
  have ht : s.heap.IsTuple a (intItems xs) := hl
  have hlt : a < s.heap.objs.size := by obtain ⟨_, e, _⟩ := ht; exact Heap.lt_size e
  refine call_sum_walkG (wpAny_pyIter_tuple ht ?_)
  have st : (s.heap.push { cls := .type "tuple_iterator", data := .fields #[.ref a, .int 0 0] }).IsTupleIter s.heap.objs.size a 0 ∧ (s.heap.push { cls := .type "tuple_iterator", data := .fields #[.ref a, .int 0 0] }).IsTuple a (intItems xs) := ⟨⟨_, Heap.get?_push_size _ rfl, rfl, rfl⟩, ht.push _⟩
  refine ⟨_, _, _, _, _, _, numAt xs, rfl, Walks.tuple (A := X.A.in1) (I.ok.hd hc) _ a (Nat.ne_of_lt hlt) (intItems xs), st, fun b hb => ?_, (fun _ _ => intItems_at), fun h' tk t' hk => ?_⟩
  · show b < (s.heap.push _).objs.size
    rw [Heap.size_push]
    rcases List.mem_cons.mp hb with rfl | hb
    · exact Nat.lt_succ_self _
    · have : b = a := by simpa using hb
      subst this
      exact Nat.lt_succ_of_lt hlt
  · refine ⟨.int ns.sum, H, I.kept (t' := tk) fun b o eo => hk b o (fun hm => ?_) (Heap.get?_push_of_some _ eo), ⟨t', ?_⟩, q⟩
    · have : b = s.heap.objs.size := by simpa using hm
      subst this
      exact absurd (Heap.lt_size eo) (Nat.lt_irrefl _)
    · show Value.int _ _ = _
      rw [preSum_eq, List.take_of_length_le (by simp [intItems]), hn]
theorem cr_sumA (hc : X.calm = true) : CallR X (.builtin "sum") (fun xs H Q => rSum X.K xs H Q ∨ rSumT X.K xs H Q) := (cr_sum hc).or (cr_sumT hc)
theorem cd_sum : CallD c X (fun xs H Q => rSum X.K xs H Q ∨ rSumT X.K xs H Q) sumD := by
  intro ρ σ G H xs dxs z Q R hx e k
  unfold sumD at e
  split at e
  · obtain ⟨ns, e1, rfl⟩ := Option.map_eq_some_iff.mp e
    obtain ⟨v, rfl, h⟩ := dqAll1 hx
    obtain ⟨l, us, rfl, hl, hus⟩ := dq_lst h
    have ev := intsD_vals hus e1
    subst ev
    exact .inl ⟨l, ns, rfl, .of (R.wf.same _ _ hl), k _ _ _ (.refl R) (.int _)⟩
  · obtain ⟨ns, e1, rfl⟩ := Option.map_eq_some_iff.mp e
    obtain ⟨v, rfl, h⟩ := dqAll1 hx
    obtain ⟨l, us, rfl, hl, hus⟩ := dq_tup h
    have ev := intsD_vals hus e1
    subst ev
    exact .inr ⟨l, ns, rfl, sqT_mono R.wf.same hl, k _ _ _ (.refl R) (.int _)⟩
  · cases e
theorem de_sum {p : Pos} (hc : X.calm = true) (hm : X.mg "sum" = none) (ha : DAs c X [a] fas) (hgl : Gl X "sum" := by rfl) (he : starEach [a] X.env = (false, eval a X.env) :: starEach [] X.env := by rfl) : DE c X (.Call (.Name "sum" p) [a] [] pos) (callE sumD fas) :=
  de_callB (cr_sumA hc) cd_sum PyProof.Rows.boot_sum hm ha hgl (by decide) (by decide) he (by rfl)
/-- max of three ints -/
def rMax3 : List V → Hp → VK → Prop := fun xs H Q => ∃ i j k, xs = [.int i, .int j, .int k] ∧ Q (.int (if j > i then (if k > j then k else j) else (if k > i then k else i))) H
theorem cr_max3 (hc : X.calm = true) : CallR X (.builtin "max") rMax3 := by
  intro pins s σ H vs us Q I r h
  obtain ⟨i, j, k, rfl, q⟩ := h
  cases r with
  | cons r1 rr =>
    cases rr with
    | cons r2 rr =>
      cases rr with
      | cons r3 rr =>
        cases rr
        obtain ⟨t, rfl⟩ := r1
        obtain ⟨u, rfl⟩ := r2
        obtain ⟨x, rfl⟩ := r3
        refine max_three_ints (I.ok.hd hc) fun h' tk hk => ⟨.int _, H, I.kept (t' := tk) hk, ?_, q⟩
        show ∃ t, _ = Value.int _ t
        split
        · split
          · exact ⟨_, rfl⟩
          · exact ⟨_, rfl⟩
        · split
          · exact ⟨_, rfl⟩
          · exact ⟨_, rfl⟩
def max3D : List D → Option D
  | [.int i, .int j, .int k] => some (.int (if j > i then (if k > j then k else j) else (if k > i then k else i)))
  | _ => none
theorem de_max3 {p : Pos} (hc : X.calm = true) (hm : X.mg "max" = none) (ha : DAs c X (a :: es) fas) (hgl : Gl X "max" := by rfl) (he : starEach (a :: es) X.env = (false, eval a X.env) :: starEach es X.env := by rfl) (hpl : (backTo pos (starEach es X.env)).any (·.1) = false := by rfl) : DE c X (.Call (.Name "max" p) (a :: es) [] pos) (callE max3D fas) := by
  refine de_callB (cr_max3 hc) (fun ρ σ G H xs dxs z Q R hx e k => ?_) (by decide +kernel) hm ha hgl (by decide) (by decide) he hpl
  unfold max3D at e
  split at e
  · cases e
    obtain ⟨v, v', v'', rfl, h, h', h''⟩ := dqAll3 hx
    cases dq_int h
    cases dq_int h'
    cases dq_int h''
    exact ⟨_, _, _, rfl, k _ _ _ (.refl R) (.int _)⟩
  · cases e

/-! ### list(..), tuple(..), int(..), str(..), bool(..) -/
def listD : List D → Option D
  | [.lst ds] => some (.lst ds)
  | [.tup ds] => some (.lst ds)
  | _ => none
def tupleD : List D → Option D
  | [.lst ds] => some (.tup ds)
  | [.tup ds] => some (.tup ds)
  | _ => none
theorem de_list {p : Pos} (hm : X.mg "list" = none) (ha : DAs c X [a] fas) (hgl : Gl X "list" := by rfl) (he : starEach [a] X.env = (false, eval a X.env) :: starEach [] X.env := by rfl) : DE c X (.Call (.Name "list" p) [a] [] pos) (callE listD fas) := by
  refine de_callTy call_list_of (fun ρ σ G H xs dxs z Q R hx e k => ?_) (by decide +kernel) hm ha hgl (by decide) (by decide) he (by rfl)
  unfold listD at e
  split at e
  · cases e
    obtain ⟨v, rfl, h⟩ := dqAll1 hx
    obtain ⟨l, us, rfl, hl, hus⟩ := dq_lst h
    exact ⟨l, us, rfl, .inl (.of (R.wf.same _ _ hl)), fun q hq => kd_newL R hus hq k⟩
  · cases e
    obtain ⟨v, rfl, h⟩ := dqAll1 hx
    obtain ⟨l, us, rfl, hl, hus⟩ := dq_tup h
    exact ⟨l, us, rfl, .inr (sqT_mono R.wf.same hl), fun q hq => kd_newL R hus hq k⟩
  · cases e
theorem de_tuple {p : Pos} (hm : X.mg "tuple" = none) (ha : DAs c X [a] fas) (hgl : Gl X "tuple" := by rfl) (he : starEach [a] X.env = (false, eval a X.env) :: starEach [] X.env := by rfl) : DE c X (.Call (.Name "tuple" p) [a] [] pos) (callE tupleD fas) := by
  refine de_callTy call_tuple_of (fun ρ σ G H xs dxs z Q R hx e k => ?_) (by decide +kernel) hm ha hgl (by decide) (by decide) he (by rfl)
  unfold tupleD at e
  split at e
  · cases e
    obtain ⟨v, rfl, h⟩ := dqAll1 hx
    obtain ⟨l, us, rfl, hl, hus⟩ := dq_lst h
    exact ⟨l, us, rfl, .inl ⟨.of (R.wf.same _ _ hl), fun q hq => kd_newT R hus hq k⟩⟩
  · cases e
    obtain ⟨v, rfl, h⟩ := dqAll1 hx
    obtain ⟨l, us, rfl, hl, hus⟩ := dq_tup h
    exact ⟨l, us, rfl, .inr ⟨sqT_mono R.wf.same hl, k _ _ _ (.refl R) (.tup hl hus)⟩⟩
  · cases e
/-- list(range(a, b)) -/
def listRgE (fa fb : FE) : FE := fun ρ => (fa ρ).bind fun r => (fb r.2).bind fun s => match r.1, s.1 with
  | .int i, .int j => if -(2 ^ 62) ≤ i ∧ i < 2 ^ 62 ∧ -(2 ^ 62) ≤ j ∧ j < 2 ^ 62 ∧ (j - i).toNat ≤ 2 ^ 24 then .ok (.lst (rgD i (j - i).toNat), s.2) else .no
  | _, _ => .no
theorem rgV_rgD {K : Frag} {G : Hp} (i j : Int) : DqAll K G (rgV i j) (rgD i (j - i).toNat) := by
  unfold rgV rgD
  generalize List.range (j - i).toNat = l
  induction l with
  | nil => exact .nil
  | cons x r ih => exact .cons (.int _) ih
theorem de_listRg {p p2 q : Pos} (hc : X.calm = true) (hml : X.mg "list" = none) (hmr : X.mg "range" = none) (ha : DE c X a fa) (hb : DE c X b fb) (hgl : Gl X "list" := by rfl) (hgr : Gl X "range" := by rfl)
    (na : starEach [a, b] X.env = (false, eval a X.env) :: starEach [b] X.env := by rfl) (nb : starEach [b] X.env = (false, eval b X.env) :: starEach [] X.env := by rfl)
    (hp : (backTo q (starEach [b] X.env)).any (·.1) = false := by rfl)
    (nc : starEach [.Call (.Name "range" p2) [a, b] [] q] X.env = (false, eval (.Call (.Name "range" p2) [a, b] [] q) X.env) :: starEach [] X.env := by rfl) :
    DE c X (.Call (.Name "list" p) [.Call (.Name "range" p2) [a, b] [] q] [] pos) (listRgE fa fb) := by
  obtain ⟨t1, p1, k1⟩ := ha.un
  obtain ⟨t2, pb, k2⟩ := hb.un
  refine DE.mk ⟨_, pe_listRg hc hgl hml (prg_2 hgr hmr p1 pb na nb hp) nc, fun ρ σ G H Q R h => ?_⟩
  refine k1 ρ σ G H _ R (h.first.imp fun r1 h2 x G1 H1 S1 d1 => ?_)
  refine k2 r1.2 σ G1 H1 _ S1.rel (h2.first.on S1 fun r2 h4 y G2 H2 S2 d2 => ?_)
  have S := S1.trans S2
  split at h4
  · rename_i i j e1 e2
    rw [e1] at d1
    rw [e2] at d2
    split at h4
    · rename_i hz
      exact ⟨i, j, dq_int d1, dq_int d2, hz, fun q hq => kd_newL S.rel (rgV_rgD i j) hq fun v G3 H3 S3 d3 => h4 v G3 H3 (S.trans S3) d3⟩
    · exact h4.elim
  · exact h4.elim
def rInt1 : List V → Hp → VK → Prop := fun xs H Q => (∃ i, xs = [.int i] ∧ Q (.int i) H) ∨ ∃ k, xs = [.bl k] ∧ Q (.int (if k then 1 else 0)) H
def rIntS : List V → Hp → VK → Prop := fun xs H Q => ∃ a n, xs = [.str a] ∧ PySem.intText? a = some n ∧ a.length ≤ 640 ∧ Q (.int n) H
def intD : List D → Option D
  | [.int i] => some (.int i)
  | [.str x] => if x.length ≤ 640 then (PySem.intText? x).map .int else none
  | _ => none
theorem cr_intA : CallR X (.type "int") (fun xs H Q => rInt1 xs H Q ∨ rIntS xs H Q) := CallR.or (r := rInt1) (r' := rIntS) call_int1 call_int_str
theorem de_intC {p : Pos} (hm : X.mg "int" = none) (ha : DAs c X [a] fas) (hgl : Gl X "int" := by rfl) (he : starEach [a] X.env = (false, eval a X.env) :: starEach [] X.env := by rfl) : DE c X (.Call (.Name "int" p) [a] [] pos) (callE intD fas) := by
  refine de_callTy cr_intA (fun ρ σ G H xs dxs z Q R hx e k => ?_) (by decide +kernel) hm ha hgl (by decide) (by decide) he (by rfl)
  unfold intD at e
  split at e
  · cases e
    obtain ⟨v, rfl, h⟩ := dqAll1 hx
    cases dq_int h
    exact .inl (.inl ⟨_, rfl, k _ _ _ (.refl R) (.int _)⟩)
  · split at e
    · rename_i hz
      obtain ⟨n, e1, rfl⟩ := Option.map_eq_some_iff.mp e
      obtain ⟨v, rfl, h⟩ := dqAll1 hx
      cases dq_str h
      exact .inr ⟨_, n, rfl, e1, hz, k _ _ _ (.refl R) (.int _)⟩
    · cases e
  · cases e
def strD : List D → Option D
  | [.int i] => if i.natAbs.log2 < 1920 then some (.str (toString i)) else none
  | _ => none
theorem de_strC {p : Pos} (hm : X.mg "str" = none) (ha : DAs c X [a] fas) (hgl : Gl X "str" := by rfl) (he : starEach [a] X.env = (false, eval a X.env) :: starEach [] X.env := by rfl) : DE c X (.Call (.Name "str" p) [a] [] pos) (callE strD fas) := by
  refine de_callTy call_str_int (fun ρ σ G H xs dxs z Q R hx e k => ?_) (by decide +kernel) hm ha hgl (by decide) (by decide) he (by rfl)
  unfold strD at e
  split at e
  · split at e
    · rename_i hz
      cases e
      obtain ⟨v, rfl, h⟩ := dqAll1 hx
      cases dq_int h
      exact ⟨_, rfl, hz, k _ _ _ (.refl R) (.str _)⟩
    · cases e
  · cases e

/-! ### items and slices -/
def ixD (x y : D) : Option D := match x, y with
  | .lst ds, .int i => atI ds i
  | .tup ds, .int i => atI ds i
  | .scr ns, .int i => (atI ns i).map .int
  | .str z, .int i => if z.length ≤ sizeLine then (atI z.cps.toList i).map fun c => .str ⟨#[c]⟩ else none
  | _, _ => none
theorem DqAll.atI {K : Frag} {G : Hp} {vs : List V} {ds : List D} {i : Int} {d : D} (h : DqAll K G vs ds) (e : L2.atI ds i = some d) : ∃ v, L2.atI vs i = some v ∧ Dq K G v d := by
  unfold L2.atI at e ⊢
  rw [h.length]
  obtain ⟨j, e1, e2⟩ := Option.bind_eq_some_iff.mp e
  obtain ⟨v, e3, hv⟩ := h.atD e2
  exact ⟨v, by rw [e1]; exact e3, hv⟩
theorem atI_map {α β : Type} (g : α → β) (l : List α) (i : Int) : L2.atI (l.map g) i = (L2.atI l i).map g := by
  unfold L2.atI
  rw [List.length_map]
  cases ixN l.length i with
  | none => rfl
  | some j => simp
theorem od_ix : OpD c X (rIx X.K) ixD := by
  intro ρ σ G H x y dx dy z Q R hx hy e k
  unfold ixD at e
  split at e
  · cases dq_int hy
    obtain ⟨l, us, rfl, hl, hus⟩ := dq_lst hx
    obtain ⟨v, e1, hv⟩ := hus.atI e
    exact .inl ⟨l, us, _, v, rfl, rfl, .of (R.wf.same _ _ hl), e1, k _ _ _ (.refl R) hv⟩
  · cases dq_int hy
    obtain ⟨l, us, rfl, hl, hus⟩ := dq_tup hx
    obtain ⟨v, e1, hv⟩ := hus.atI e
    exact .inr (.inl ⟨l, us, _, v, rfl, rfl, sqT_mono R.wf.same hl, e1, k _ _ _ (.refl R) hv⟩)
  · obtain ⟨n, e1, rfl⟩ := Option.map_eq_some_iff.mp e
    cases dq_int hy
    cases hx with
    | scr h => exact .inl ⟨_, _, _, .int n, rfl, rfl, R.wf.same.seq h, by rw [atI_map, e1]; rfl, k _ _ _ (.refl R) (.int _)⟩
  · split at e
    · rename_i hz
      obtain ⟨n, e1, rfl⟩ := Option.map_eq_some_iff.mp e
      cases dq_int hy
      exact .inr (.inr ⟨_, _, n, dq_str hx, rfl, hz, e1, k _ _ _ (.refl R) (.str _)⟩)
    · cases e
  · cases e
theorem de_ix (ha : DE c X a fa) (hb : DE c X b fb) (hs : PlainIx b := by intro _ _; rfl) : DE c X (.Subscript a b pos) (binE ixD fa fb) := by
  obtain ⟨t1, p1, k1⟩ := ha.un
  obtain ⟨t2, p2, k2⟩ := hb.un
  exact DE.mk ⟨_, pe_ix ix_seq p1 p2 hs, tOp_of od_ix k1 k2⟩
/-- a part of a slice -/
abbrev FO := Rho → Rs (Option Int × Rho)
def tO (c : Dc) (K : Frag) (f : FO) : TO := fun σ H Q => ∃ (ρ : Rho) (G : Hp), Rel K c.T G ρ σ H ∧ Sat c (Mu ρ σ) G H (f ρ) fun r => ∀ G' H', Stp K c.T c.n ρ σ G H r.2 σ G' H' → Q r.1 H'
def DO (c : Dc) (X : Cx) (e : Option Expr) (f : FO) : Prop := PO X e (tO c X.K f)
def noO : FO := fun ρ => .ok (none, ρ)
def someO (fa : FE) : FO := fun ρ => (fa ρ).bind fun r => match r.1 with
  | .int i => .ok (some i, r.2)
  | _ => .no
theorem do_none : DO c X none noO := ⟨fun pins s σ H Q I ⟨ρ, G, R, h⟩ => po_none.run pins s σ H Q I (h G H (.refl R))⟩
theorem do_some (ha : DE c X a fa) : DO c X (some a) (someO fa) := by
  obtain ⟨t1, p1, k1⟩ := ha.un
  refine ⟨fun pins s σ H Q I ⟨ρ, G, R, h⟩ => (po_some p1).run pins s σ H Q I ?_⟩
  refine k1 ρ σ G H _ R (h.first.imp fun r h2 v G1 H1 S d => ?_)
  obtain ⟨dv, ρ1⟩ := r
  cases dv with
  | int i => exact ⟨i, dq_int d, h2 G1 H1 S⟩
  | _ => exact h2.elim
def cutD (ds : List D) (lo hi : Option Int) : List D := (ds.drop (HT.sIx ds.length 0 lo)).take (HT.sIx ds.length ds.length hi - HT.sIx ds.length 0 lo)
def slD (x : D) (lo hi : Option Int) : Option D := match x with
  | .lst ds => some (.lst (cutD ds lo hi))
  | .tup ds => some (.tup (cutD ds lo hi))
  | .str z => if z.length ≤ sizeLine then some (.str (cutS z lo hi)) else none
  | _ => none
theorem DqAll.cut {K : Frag} {G : Hp} {vs : List V} {ds : List D} (h : DqAll K G vs ds) (lo hi : Option Int) : DqAll K G (cutV vs lo hi) (cutD ds lo hi) := by
  unfold cutV cutD
  rw [h.length]
  exact (h.drop _).take _
def slE (fa : FE) (fl fh : FO) : FE := fun ρ => (fa ρ).bind fun r => (fl r.2).bind fun s => (fh s.2).bind fun u => (Rs.ofO (slD r.1 s.1 u.1)).bind fun z => .ok (z, u.2)
def rSl (K : Frag) : V → Option Int → Option Int → Hp → VK → Prop := fun x lo hi H Q => rSlL K x lo hi H Q ∨ (rSlA K x lo hi H Q ∨ rSlS x lo hi H Q)
theorem sl_any : L2.SlR X (rSl X.K) := sl_list.or (sl_tupA.or sl_str)
theorem de_slice {lo hi : Option Expr} {fl fh : FO} {p2 : Pos} (ha : DE c X a fa) (hl : DO c X lo fl) (hh : DO c X hi fh) : DE c X (.Subscript a (.Slice lo hi none p2) pos) (slE fa fl fh) := by
  obtain ⟨t1, p1, k1⟩ := ha.un
  refine DE.mk ⟨_, pe_slice sl_any p1 hl hh, fun ρ σ G H Q R h => ?_⟩
  refine k1 ρ σ G H _ R (h.first.imp fun r1 h2 x G1 H1 S1 d1 => ?_)
  refine ⟨r1.2, G1, S1.rel, h2.first.on S1 fun r2 h3 G2 H2 S2 => ?_⟩
  have T2 := S1.trans S2
  refine ⟨r2.2, G2, S2.rel, h3.first.on T2 fun r3 h4 G3 H3 S3 => ?_⟩
  have T3 := T2.trans S3
  obtain ⟨z, ez, k⟩ := h4.opt
  have d3 := d1.mono (S2.ext.sG.trans S3.ext.sG)
  have R3 := S3.rel
  unfold slD at ez
  split at ez
  · rename_i ds e1
    cases ez
    rw [e1] at d3
    obtain ⟨l, us, rfl, hl, hus⟩ := dq_lst d3
    exact .inl ⟨l, us, rfl, .of (R3.wf.same _ _ hl), fun q hq => kd_newL R3 (hus.cut _ _) hq fun v G4 H4 S4 d4 => k v G4 H4 (T3.trans S4) d4⟩
  · rename_i ds e1
    cases ez
    rw [e1] at d3
    obtain ⟨l, us, rfl, hl, hus⟩ := dq_tup d3
    refine .inr (.inl ⟨l, us, rfl, sqT_mono R3.wf.same hl, fun q => ?_, fun _ q hq => kd_newT R3 (hus.cut _ _) hq fun v G4 H4 S4 d4 => k v G4 H4 (T3.trans S4) d4⟩)
    have ew : cutD ds r2.1 r3.1 = ds := by
      unfold cutD
      rw [hus.length] at q
      rw [q.1, q.2, List.drop_zero, Nat.sub_zero, List.take_length]
    rw [ew] at k
    exact k _ _ _ T3 (.tup hl hus)
  · rename_i z' e1
    rw [e1] at d3
    split at ez
    · rename_i hz
      cases ez
      exact .inr (.inr ⟨z', dq_str d3, hz, k _ _ _ T3 (.str _)⟩)
    · cases ez
  · cases ez

/-! ### texts -/
def mt1E (g : Str → D → Option D) (fa fb : FE) : FE := fun ρ => (fa ρ).bind fun r => match r.1 with
  | .str a => (fb r.2).bind fun s => (Rs.ofO (g a s.1)).bind fun z => .ok (z, s.2)
  | _ => .no
def mt0E (g : Str → Option D) (fa : FE) : FE := fun ρ => (fa ρ).bind fun r => match r.1 with
  | .str a => (Rs.ofO (g a)).bind fun z => .ok (z, r.2)
  | _ => .no
theorem tM1_of {r : V → List V → Hp → VK → Prop} {g : Str → D → Option D} {t1 t2 : TE}
    (hg : ∀ (ρ : Rho) (σ : L2.St) (G H : Hp) (x : Str) (y : V) (dy z : D) (Q : VK), Rel X.K c.T G ρ σ H → Dq X.K G y dy → g x dy = some z → KD c X ρ σ G H Q z → r (.str x) [y] H Q)
    (k1 : ∀ (ρ : Rho) (σ : L2.St) (G H : Hp) (Q : VK), Rel X.K c.T G ρ σ H → Sat c (Mu ρ σ) G H (fa ρ) (fun r => ∀ v G' H', Stp X.K c.T c.n ρ σ G H r.2 σ G' H' → Dq X.K G' v r.1 → Q v H') → t1 σ H Q)
    (k2 : ∀ (ρ : Rho) (σ : L2.St) (G H : Hp) (Q : VK), Rel X.K c.T G ρ σ H → Sat c (Mu ρ σ) G H (fb ρ) (fun r => ∀ v G' H', Stp X.K c.T c.n ρ σ G H r.2 σ G' H' → Dq X.K G' v r.1 → Q v H') → t2 σ H Q) :
    ∀ (ρ : Rho) (σ : L2.St) (G H : Hp) (Q : VK), Rel X.K c.T G ρ σ H → Sat c (Mu ρ σ) G H (mt1E g fa fb ρ) (fun r => ∀ v G' H', Stp X.K c.T c.n ρ σ G H r.2 σ G' H' → Dq X.K G' v r.1 → Q v H') → tM1 r t1 t2 σ H Q := by
  intro ρ σ G H Q R h
  refine k1 ρ σ G H _ R (h.first.imp fun r1 h2 x G1 H1 S1 d1 => ?_)
  split at h2
  · rename_i a e1
    rw [e1] at d1
    cases dq_str d1
    refine ⟨⟨a, rfl⟩, k2 r1.2 σ G1 H1 _ S1.rel (h2.first.on S1 fun r2 h4 y G2 H2 S2 d2 => ?_)⟩
    obtain ⟨z, ez, k⟩ := h4.opt
    exact hg r2.2 σ G2 H2 a y r2.1 z Q S2.rel d2 ez fun v G3 H3 S3 d3 => k v G3 H3 ((S1.trans S2).trans S3) d3
  · exact h2.elim
def joinD (a : Str) (y : D) : Option D := match y with
  | .lst ds => (strsD ds).bind fun ys => if (ys.map (·.length)).sum + ys.length * a.length ≤ 16777216 then some (.str (Txt.join a ys)) else none
  | .tup ds => (strsD ds).bind fun ys => if (ys.map (·.length)).sum + ys.length * a.length ≤ 16777216 then some (.str (Txt.join a ys)) else none
  | _ => none
theorem de_join {apos : Pos} (ha : DE c X a fa) (hb : DE c X b fb) (hs : starEach [b] X.env = [(false, eval b X.env)] := by rfl) (hbase : attributeBase a "join" X.env (eval a X.env) = eval a X.env := by rfl) (hline : (apos.endLine == pos.line) = true := by rfl) :
    DE c X (.Call (.Attribute a "join" apos) [b] [] pos) (mt1E joinD fa fb) := by
  obtain ⟨t1, p1, k1⟩ := ha.un
  obtain ⟨t2, p2, k2⟩ := hb.un
  refine DE.mk ⟨_, pe_join p1 p2 hs hbase hline, tM1_of (fun ρ σ G H x y dy z Q R hy e k => ?_) k1 k2⟩
  unfold joinD at e
  split at e
  · obtain ⟨ys, e1, e2⟩ := Option.bind_eq_some_iff.mp e
    split at e2
    · rename_i hz
      cases e2
      obtain ⟨l, us, rfl, hl, hus⟩ := dq_lst hy
      have ev := strsD_vals hus e1
      subst ev
      exact ⟨_, l, ys, rfl, rfl, .inl (.of (R.wf.same _ _ hl)), hz, k _ _ _ (.refl R) (.str _)⟩
    · cases e2
  · obtain ⟨ys, e1, e2⟩ := Option.bind_eq_some_iff.mp e
    split at e2
    · rename_i hz
      cases e2
      obtain ⟨l, us, rfl, hl, hus⟩ := dq_tup hy
      have ev := strsD_vals hus e1
      subst ev
      exact ⟨_, l, ys, rfl, rfl, .inr (sqT_mono R.wf.same hl), hz, k _ _ _ (.refl R) (.str _)⟩
    · cases e2
  · cases e
theorem DqAll.strs {K : Frag} {G : Hp} : ∀ (ns : List Str), DqAll K G (ns.map V.str) (ns.map D.str)
  | [] => .nil
  | n :: r => .cons (.str n) (DqAll.strs r)
def splitD (a : Str) (y : D) : Option D := match y with
  | .str b => if (b.length == 0) = false ∧ a.length + 2 ≤ sizeLine then some (.lst ((Txt.split a b).map .str)) else none
  | _ => none
theorem de_split {apos : Pos} (ha : DE c X a fa) (hb : DE c X b fb) (hs : starEach [b] X.env = [(false, eval b X.env)] := by rfl) (hbase : attributeBase a "split" X.env (eval a X.env) = eval a X.env := by rfl) (hline : (apos.endLine == pos.line) = true := by rfl) :
    DE c X (.Call (.Attribute a "split" apos) [b] [] pos) (mt1E splitD fa fb) := by
  obtain ⟨t1, p1, k1⟩ := ha.un
  obtain ⟨t2, p2, k2⟩ := hb.un
  refine DE.mk ⟨_, pe_split p1 p2 hs hbase hline, tM1_of (fun ρ σ G H x y dy z Q R hy e k => ?_) k1 k2⟩
  unfold splitD at e
  split at e
  · split at e
    · rename_i hz
      cases e
      cases dq_str hy
      exact ⟨_, _, rfl, rfl, hz.1, hz.2, fun p hp => kd_newL R (DqAll.strs _) hp k⟩
    · cases e
  · cases e
end
end DL

set_option maxHeartbeats 4000000
/-! DLh: what the printed proofs of the defs want beyond. -/
namespace DL
open PySem PySem.Spec PyProof.Rows L2
section
variable {c : Dc} {X : Cx} {a b e d tg : Expr} {es rest : List Expr} {fa fb fd f : FE} {fas : Rho → Rs (List D × Rho)} {pos : Pos}
theorem hu_room {k : Nat} (r : Room k X.A) : Hu X := by
  have := r.un
  show X.A.units + 200 < cLine
  omega
/-- over a list or a tuple -/
def iterS (fa : FE) : FI := fun ρ => (fa ρ).bind fun r => match r.1 with
  | .lst ds => .ok (ds, r.2)
  | .tup ds => .ok (ds, r.2)
  | _ => .no
theorem di_seq (ha : DE c X a fa) : DI c X tg a (iterS fa) := by
  refine ⟨fun pins s σ H R I ⟨ρ, G, r, q⟩ => ?_⟩
  have q0 := q
  unfold iterS at q
  cases e : fa ρ with
  | no => rw [e] at q; exact q.elim
  | er x =>
    refine (di_list (tg := tg) ha).run pins s σ H R I ⟨ρ, G, r, ?_⟩
    unfold iterL
    rw [e] at q ⊢
    exact q
  | ok r1 =>
    obtain ⟨dv, ρ1⟩ := r1
    rw [e] at q
    cases dv with
    | lst ds =>
      refine (di_list (tg := tg) ha).run pins s σ H R I ⟨ρ, G, r, ?_⟩
      unfold iterL
      rw [e]
      exact q
    | tup ds =>
      refine (di_tup (tg := tg) ha).run pins s σ H R I ⟨ρ, G, r, ?_⟩
      unfold iterT
      rw [e]
      exact q
    | _ => exact q.elim
theorem eqv_nil : ∀ ds : List D, PyData.eqv (.list (D.pys ds)) (.list []) = ds.isEmpty
  | [] => by with_unfolding_all rfl
  | d :: ds => by with_unfolding_all rfl
theorem dp_nil {K : Frag} {H : Hp} {p : Addr} (h : H p = some (.lst [])) : Dp K H (.ref p) (.list []) := .lst (.of h) .nil
/-- xs != [], xs the frame's own -/
theorem db_ownNe {i : Nat} {p2 : Pos} (hu : Hu X) (h : PE X a (tVar i)) : DB c X (.Compare a [.NotEq] [.List [] p2] pos) (ownNeNil i) := by
  refine DB.mk ⟨_, pt_cmpR (op_neD (hu64 hu)) h (pe_lst pa_nil) (nomark _), fun ρ σ G H Q R q => ?_⟩
  unfold ownNeNil at q
  split at q
  · rename_i ds e0
    obtain ⟨p, vs, e1, g, hp, dd⟩ := R.own e0
    split at q
    · rename_i hf
      refine ⟨.ref p, e1, Nat.zero_le _, fun l hl => ?_⟩
      have S := Stp.newF (n := c.n) (o := .lst []) R hl
      have npl : p ≠ l := fun z => by rw [z, hl] at hp; cases hp
      have lay := D.fit_lay hf
      refine ⟨_, _, .lst (.of (by rw [upd_ne npl]; exact hp)) (dd.dp S.rel.wf.same (by simpa [D.py, PyData.canLay0] using lay)), dp_nil upd_same, hf, by decide, ?_⟩
      refine ⟨_, rfl, ?_⟩
      rw [eqv_nil]
      exact q _ _ S
    · exact q.elim
  · exact q.elim
/-- three plain names at once -/
def par3S (i j k : Nat) (fas : Rho → Rs (List D × Rho)) : FS := fun ρ => (fas ρ).bind fun r => match r.1 with
  | [d, e, f] => .ok (.nx (((r.2.set i (.da d)).set j (.da e)).set k (.da f)))
  | _ => .no
theorem ds_par3 {i j l : Nat} {x y z : Str} {px py pz pt : Pos} {kt k2 : Nat} {pt2 : Pos} {fas : Rho → Rs (List D × Rho)} (hc : X.calm = true) (hN : X.N.Nodup) (hi : X.N[i]? = some x) (hj : X.N[j]? = some y) (hl : X.N[l]? = some z) (hij : i ≠ j) (hil : i ≠ l) (hjl : j ≠ l)
    (hx : X.env.scope.names.lookup x = some .local) (hy : X.env.scope.names.lookup y = some .local) (hz : X.env.scope.names.lookup z = some .local) (ha : DAs c X [a, b, d] fas)
    (hw : swappedStores [.Tuple [.Name x px, .Name y py, .Name z pz] kt pt] (.Tuple [a, b, d] k2 pt2) X.env = pure (some [x, y, z]))
    (hs : swapsWithSole [.Tuple [.Name x px, .Name y py, .Name z pz] kt pt] (.Tuple [a, b, d] k2 pt2) pos.line X.env = pure false := by rfl) :
    DS c X (.Assign [.Tuple [.Name x px, .Name y py, .Name z pz] kt pt] (.Tuple [a, b, d] k2 pt2) pos) (par3S i j l fas) := by
  obtain ⟨t1, p1, k1⟩ := ha.un
  refine DS.mk ⟨_, ps_par3 hc hN hi hj hl hij hil hjl hx hy hz p1 hw hs, fun ρ σ G H D R h => ?_⟩
  refine k1 ρ σ G H _ R (h.first.imp fun r h2 vs G1 H1 S d => ?_)
  obtain ⟨ds, ρ1⟩ := r
  match ds, h2, d with
  | [d, e, f], h2, dd =>
    obtain ⟨v, w, u, rfl, dv, dw, du⟩ := dqAll3 dd
    have S2 := S.trans ((Stp.set (i := i) S.rel dv))
    have S3 := S2.trans (Stp.set (i := j) S2.rel dw)
    exact ⟨v, w, u, rfl, h2 _ _ _ (S3.trans (Stp.set (i := l) S3.rel du))⟩
  | [], h2, _ => exact h2.elim
  | [_], h2, _ => exact h2.elim
  | [_, _], h2, _ => exact h2.elim
  | _ :: _ :: _ :: _ :: _, h2, _ => exact h2.elim
end
end DL

set_option maxHeartbeats 4000000
/-! HZa: iterators that end while an exception is handled. -/
namespace HZ
open PySem PySem.Spec PyProof.Rows HotX
section
variable {prog : Program} {w : World} {A : Around} {E : Value → Shared → Prop} {s : Shared}
theorem hot_keep {x1 : Addr} {h h' : Heap} (t : HotAt A x1 h) (k : ∀ o, h.get? x1 = some o → h'.get? x1 = some o) : HotAt A x1 h' := by
  obtain ⟨a, o, vs, b, c, d⟩ := t
  exact ⟨a, o, vs, k o b, c, d⟩
/-- a StopIteration, made and raised -/
theorem stop_hot {x1 : Addr} {α : Type} {Q : α → Shared → Prop} (t : HotAt A x1 s.heap)
    (hE : ∀ h' e, (∀ b o, s.heap.get? b = some o → h'.get? b = some o) → (∃ o, h'.get? e = some o ∧ o.cls = .type "StopIteration") → s.heap.objs.size ≤ e → E (.ref e) { s with heap := h' }) :
    wpAny (model prog w) A (newExc (.type "StopIteration") [] >>= fun v => (raiseNew v : Sem α)) Q E s := by
  obtain ⟨hh, o1, vs1, h1, d1, c1⟩ := t
  refine wpAny_bind ?_
  simp only [newExc, newTuple]
  refine wpAny_bind (wpAny_newObj_type ?_ (by size_fits))
  refine wpAny_bind (m := firstArgMember _ _) (wpAny_of_eq (a := Value.none) (by first | rfl | (simp only [firstArgMember]; rfl)) ?_)
  refine wpAny_newObj_type ?_ (by size_fits)
  refine raiseNew_hot ⟨hh, o1, vs1, Heap.get?_push_of_some _ (Heap.get?_push_of_some _ h1), d1, c1⟩ (Nat.ne_of_lt (Heap.lt_size (Heap.get?_push_of_some _ h1))) (Heap.get?_push_size _ rfl) rfl (by first | (simp; done) | (simp; omega) | (simp only [Array.size_append]; simp; omega)) ?_
  have far : ∀ b o, s.heap.get? b = some o → b < (s.heap.push { cls := Value.type "tuple", data := Data.seq #[] }).objs.size := fun b o e => Heap.lt_size (Heap.get?_push_of_some _ e)
  refine hE _ _ (fun b o e => ?_) ⟨_, Heap.get?_update_self _ (Heap.get?_push_size _ rfl) rfl, rfl⟩ (by rw [Heap.size_push]; exact Nat.le_succ _)
  rw [Heap.get?_update_other _ _ (Nat.ne_of_gt (far b o e))]
  exact Heap.get?_push_of_some _ (Heap.get?_push_of_some _ e)
/-- an object of two fields is not the one that is handled -/
theorem hot_ne {x1 it : Addr} {o : Obj} {u v : Value} (t : HotAt A x1 s.heap) (ho : s.heap.get? it = some o) (hd : o.data = .fields #[u, v]) : x1 ≠ it := by
  obtain ⟨hh, o1, vs1, h1, d1, c1⟩ := t
  intro e
  subst e
  rw [ho] at h1
  cases h1
  rw [hd] at d1
  cases d1
  simp at c1
theorem list_end_hot {x1 it l : Addr} {i : Nat} {items : Array Value} {Q : Value → Shared → Prop} (t : HotAt A x1 s.heap) (hit : s.heap.IsListIter it l i) (hl : s.heap.IsList l items) (hx : items[i]? = none)
    (hE : ∀ h' e, Heap.ExtBut it s.heap h' → (∃ o, h'.get? e = some o ∧ o.cls = .type "StopIteration") → E (.ref e) { s with heap := h' }) : wpAny (model prog w) A (Builtin.SmallTypes.nextOf (.ref it)) Q E s := by
  obtain ⟨o, ho, hc, hd⟩ := id hit
  obtain ⟨ol, hol, _, nl, hdl⟩ := hl
  have ne := hot_ne t ho hd
  unfold Builtin.SmallTypes.nextOf
  refine wpAny_bind (wpAny_callSpecial?_slot (name := Str.ofString "__next__") hit.typeIs slot_listiter_next (wpAny_call_entry slot_listiter_next hit.typeIs entry_listiter_next ?_ (args_listiter_next _)))
  show wpAny _ _ (field (.ref it) 0 >>= _) _ _ s
  refine wpAny_bind (wpAny_field ho hd (x := .ref l) rfl ?_)
  show wpAny _ _ (if (Value.ref l == Value.none) = true then _ else _) _ _ s
  have e0 : (Value.ref l == Value.none) = false := rfl
  rw [e0, if_neg Bool.false_ne_true]
  show wpAny _ _ (field (.ref it) 1 >>= _) _ _ s
  refine wpAny_bind (wpAny_field ho hd (x := .int i 0) rfl ?_)
  show wpAny _ _ (seqItems? (.ref l) >>= _) _ _ s
  refine wpAny_bind (wpAny_seqItems hol hdl ?_)
  simp only [Int.toNat_natCast, hx]
  refine wpAny_bind (wpAny_rule (wpAny_bind (wpAny_setField ho hd (by simp) ?_)))
  refine stop_hot (x1 := x1) (hot_keep (show HotAt A.in1 x1 s.heap from t) fun o' e => ?_) fun h' e k he _ => hE h' e ?_ he
  · exact (Heap.SameBut.update ..).extBut _ _ ne e
  · exact fun b u hb hu => k b u ((Heap.SameBut.update ..).extBut _ _ hb hu)
/-- zip of two lists: the first one is at its end -/
theorem zip_end_hot {x1 z TI TO i1 i2 l1 l2 : Addr} {k1 k2 : Nat} {xs ys : Array Value} {a b : Value} {Q : Fin → Shared → Prop} (t : HotAt A x1 s.heap) (D : ZipApart z TI TO i1 i2 l1 l2) (hxz : x1 ≠ z)
    (hz : IsZip s.heap z TI TO .none) (hTI : IsPair s.heap TI (.ref i1) (.ref i2)) (h1 : s.heap.IsListIter i1 l1 k1) (hl1 : s.heap.IsList l1 xs) (hend : xs[k1]? = none)
    (hE : ∀ h' e, (∀ c o, c ≠ z → c ≠ i1 → s.heap.get? c = some o → h'.get? c = some o) → (∃ o, h'.get? e = some o ∧ o.cls = .type "StopIteration") → E (.ref e) { s with heap := h' }) :
    wpAny (model prog w) A (Builtin.«zip.__next__» ⟨[.ref z], []⟩) Q E s := by
  show wpAny _ _ (field (.ref z) 2 >>= _) _ _ _
  refine wpAny_bind (wpAny_field hz rfl (x := .bool false) rfl ?_)
  show wpAny _ _ (field (.ref z) 3 >>= _) _ _ _
  refine wpAny_bind (wpAny_field hz rfl (x := .ref TI) rfl (wpAny_bind (wpAny_seqItems hTI rfl ?_)))
  show wpAny _ _ (Builtin.SmallTypes.ownedTupleIsFree (.ref z) >>= _) _ _ _
  refine wpAny_bind ?_
  unfold Builtin.SmallTypes.ownedTupleIsFree
  refine wpAny_bind (wpAny_field hz rfl (x := .none) rfl (wpAny_pure ?_))
  rw [if_pos rfl]
  refine wpAny_bind (wpAny_rule (wpAny_bind (wpAny_field hz rfl (x := .ref TO) rfl (wpAny_bind (wpAny_setField_rec hz (by simp) fun h₁ hz₁ hs₁ => ?_)))))
  have z1 : IsZip h₁ z TI TO .ellipsis := hz₁
  refine wpAny_bind ?_
  rw [List.zipIdx_cons, List.forIn_cons]
  refine wpAny_bind (wpAny_bind (wpAny_onRaise ?_))
  show wpAny _ _ (Builtin.SmallTypes.nextOf (.ref i1) >>= _) _ _ _
  refine wpAny_bind (list_end_hot (x1 := x1) (hot_keep t fun o e => hs₁.extBut _ _ hxz e) (h1.extBut hs₁.extBut D.i1z) (hl1.extBut hs₁.extBut D.l1z) hend fun h₂ e hs₂ he => ?_)
  obtain ⟨oe, hoe, hce⟩ := he
  have z2 : IsZip h₂ z TI TO .ellipsis := hs₂ _ _ D.i1z.symm z1
  have hez : e ≠ z := fun q => by subst q; rw [z2] at hoe; cases hoe; simp at hce
  refine wpAny_setField_rec z2 (by simp) fun h₃ _ hs₃ => ?_
  exact hE h₃ e (fun c o c1 c3 q => hs₃.extBut _ _ c1 (hs₂ _ _ c3 (hs₁.extBut _ _ c1 q))) ⟨oe, hs₃.extBut _ _ hez hoe, hce⟩
theorem next_zip_end_hot {x1 z TI TO i1 i2 l1 l2 : Addr} {k1 k2 : Nat} {xs ys : Array Value} {a b : Value} {Q : Option Value → Shared → Prop} (t : HotAt A x1 s.heap) (D : ZipApart z TI TO i1 i2 l1 l2) (hxz : x1 ≠ z)
    (hz : IsZip s.heap z TI TO .none) (hTI : IsPair s.heap TI (.ref i1) (.ref i2)) (h1 : s.heap.IsListIter i1 l1 k1) (hl1 : s.heap.IsList l1 xs) (hend : xs[k1]? = none)
    (hQ : ∀ h', (∀ c o, c ≠ z → c ≠ i1 → s.heap.get? c = some o → h'.get? c = some o) → Q none { s with heap := h' }) : wpAny (model prog w) A (pyNext (.ref z)) Q E s := by
  have hT : s.TypeIs (.ref z) "zip" := ⟨_, hz, rfl⟩
  unfold pyNext
  refine wpAny_bind (wpAny_attempt (wpAny_callSpecial?_slot (name := Str.ofString "__next__") hT F.slot_zip_next
    (wpAny_call_entry F.slot_zip_next hT F.entry_zip_next (zip_end_hot (a := a) (b := b) (k2 := k2) (ys := ys) (x1 := x1) t D hxz hz hTI h1 hl1 hend fun h' e k he => ?_) (F.args_zip_next_1 _))))
  obtain ⟨o, ho, hc⟩ := he
  exact wpAny_bind (wpAny_isInstance (T := "StopIteration") (b := true) ⟨o, ho, hc⟩ isSubtype_stop (wpAny_pure (hQ _ k)))
/-! ### a tuple unpacked -/
theorem tup_end_hot {x1 it t : Addr} {i : Nat} {items : Array Value} {Q : Option Value → Shared → Prop} (h : HotAt A x1 s.heap) (hit : IsTupIter s.heap it t i) (ht : IsTup s.heap t items) (hx : items[i]? = none)
    (hQ : ∀ h', Heap.ExtBut it s.heap h' → Q none { s with heap := h' }) : wpAny (model prog w) A (pyNext (.ref it)) Q E s := by
  obtain ⟨o, ho, hc, hd⟩ := id hit
  obtain ⟨ol, hol, _, nl, hdl⟩ := ht
  have ne := hot_ne h ho hd
  unfold pyNext
  refine wpAny_bind (wpAny_attempt (wpAny_callSpecial?_slot (name := Str.ofString "__next__") hit.typeIs slot_tupleiter_next (wpAny_call_entry slot_tupleiter_next hit.typeIs entry_tupleiter_next ?_ (args_tupleiter_next _))))
  show wpAny _ _ (field (.ref it) 0 >>= _) _ _ s
  refine wpAny_bind (wpAny_field ho hd (x := .ref t) rfl ?_)
  show wpAny _ _ (if (Value.ref t == Value.none) = true then _ else _) _ _ s
  have e0 : (Value.ref t == Value.none) = false := rfl
  rw [e0, if_neg Bool.false_ne_true]
  show wpAny _ _ (field (.ref it) 1 >>= _) _ _ s
  refine wpAny_bind (wpAny_field ho hd (x := .int i 0) rfl ?_)
  show wpAny _ _ (seqItems? (.ref t) >>= _) _ _ s
  refine wpAny_bind (wpAny_seqItems hol hdl ?_)
  simp only [Int.toNat_natCast, hx]
  refine wpAny_bind (wpAny_rule (wpAny_bind (wpAny_setField ho hd (by simp) ?_)))
  refine stop_hot (x1 := x1) (hot_keep (show HotAt A.in1 x1 s.heap from h) fun o' e => ?_) fun h' e k he _ => ?_
  · exact (Heap.SameBut.update ..).extBut _ _ ne e
  · obtain ⟨oe, hoe, hce⟩ := he
    refine wpAny_bind (wpAny_isInstance (T := "StopIteration") (b := true) ⟨oe, hoe, hce⟩ isSubtype_stop (wpAny_pure (hQ _ ?_)))
    exact fun b u hb hu => k b u ((Heap.SameBut.update ..).extBut _ _ hb hu)
theorem unpack_hot {x1 t : Addr} {items : Array Value} {env : Env} {elts : List Expr} {kk : Nat} {pos : Pos} {Q : Unit → Shared → Prop} (h : HotAt A x1 s.heap) (ht : IsTup s.heap t items)
    (hn : (assignEach elts env).length = items.size) (hstar : (assignEach elts env).findIdx? (·.1) = none)
    (hQ : ∀ h', Heap.ExtBut s.heap.objs.size s.heap h' → wpAny (model prog w) A (assignInOrder ((assignEach elts env).map (·.2)) items.toList) Q E { s with heap := h' }) :
    wpAny (model prog w) A (assign (.Tuple elts kk pos) env (.ref t)) Q E s := by
  rw [assign_Tuple]
  refine wpAny_bind (wpAny_standAt ?_)
  unfold unpack
  rw [hn, hstar]
  refine wpAny_bind (wpAny_holding ?_)
  have hlt : t ≠ s.heap.objs.size := by obtain ⟨o, ho, _⟩ := ht; exact Nat.ne_of_lt (Heap.lt_size ho)
  have xlt : x1 ≠ s.heap.objs.size := by obtain ⟨_, o1, _, e1, _⟩ := h; exact Nat.ne_of_lt (Heap.lt_size e1)
  unfold unpackItems
  refine wpAny_bind ?_
  unfold notIterableAtAll
  refine wpAny_bind (wpAny_specialOf ht.typeIs slot_tuple_iter.lookup (wpAny_pure ?_))
  simp only [Bool.false_eq_true, if_false]
  refine wpAny_bind (wpAny_holding (iter_tuple ht (wpAny_bind (wpAny_holding (draw_tuple hlt items.size 0 _ _ ⟨_, Heap.get?_push_size _ rfl, rfl, rfl⟩ (ht.push _) (by omega) fun h₁ hit₁ hs₁ => ?_)))))
  have hall : List.take items.size (List.drop 0 items.toList) = items.toList := by rw [List.drop_zero]; exact List.take_of_length_le (by simp)
  rw [hall, if_neg (by simp)]
  have ht₁ : IsTup h₁ t items := (ht.push _).extBut hs₁.extBut hlt
  refine wpAny_bind (wpAny_holding (tup_end_hot (x1 := x1) (hot_keep h fun o e => hs₁.extBut _ _ xlt (Heap.get?_push_of_some _ e)) hit₁ ht₁ (by simp) fun h₂ he₂ => ?_))
  simp only [Option.isSome_none, Bool.false_eq_true, if_false]
  exact wpAny_pure (hQ h₂ fun b o hb e => he₂ b o hb (hs₁.extBut b o hb (Heap.get?_push_of_some _ e)))
end
end HZ

set_option maxHeartbeats 4000000
/-! HZb: a comprehension over zip while an exception is handled. -/
namespace HZ
open PySem PySem.Spec PyProof.Rows HotX L2 L2H
/-- the block, which bears the exception too -/
abbrev blkH (X : Cx) (s : Shared) (H : Hp) (scope : Scope) (cenv : Env) (fp : List Addr) : Cx := { X.blk s H scope cenv fp with pn := X.pn, calm := false }
theorem blkH_hot {X : Cx} {s : Shared} {H : Hp} {scope : Scope} {cenv : Env} {fp : List Addr} (h : HotC X) : HotC (blkH X s H scope cenv fp) := h
/-- the turns of a zip of two lists, the first of which ends first -/
def ItF (K : PySem.W.Frag) (a b : Addr) : It := ⟨(Itz K a b).go, (Itz K a b).yld, fun i H => ∃ xs ys : List V, SqL K H a xs ∧ SqL K H b ys ∧ xs.length ≤ i⟩
theorem pair_ne {A : Around} {x1 z TI TO : Addr} {h : Heap} (t : HotAt A x1 h) (hz : IsZip h z TI TO .none) : x1 ≠ z := by
  obtain ⟨_, o1, vs1, h1, d1, c1⟩ := t
  intro e
  subst e
  rw [show h.get? x1 = _ from hz] at h1
  cases h1
  cases d1
  simp at c1
theorem turn_zipH {P : Program} {w : World} {K : PySem.W.Frag} {elts : List Expr} {kk : Nat} {tpos : Pos} {a b z TI TO i1 i2 : Addr} (D : ZipApart z TI TO i1 i2 a b) :
    TurnH P w K (.Tuple elts kk tpos) (ItF K a b) [z, TI, TO, i1, i2] z (fun i h => IsZip h z TI TO .none ∧ IsPair h TI (.ref i1) (.ref i2) ∧ (∃ x y, IsPair h TO x y) ∧ h.IsListIter i1 a i ∧ h.IsListIter i2 b i) := by
  have T := turn_zip (P := P) (w := w) (K := K) (elts := elts) (kk := kk) (tpos := tpos) D
  refine ⟨T.mem, T.obj, T.keep, ?_, ?_, T.self⟩
  · intro X hP hw hK _ i pins s σ H E I hf st hg
    subst hP hw hK
    obtain ⟨hz, hTI, ⟨x0, y0, hTO⟩, h1, h2⟩ := st
    obtain ⟨xs, ys, x, y, qx, qy, ex, ey⟩ := hg
    obtain ⟨us, ru, pu, _⟩ := I.list qx
    obtain ⟨vs, rv, pv, _⟩ := I.list qy
    obtain ⟨u, eu, r1⟩ := ru.get ex
    obtain ⟨v, ev, r2⟩ := rv.get ey
    have zl : z < s.heap.objs.size := Heap.lt_size hz
    have old : ∀ c ∈ [z, TI, TO, i1, i2], c < s.heap.objs.size := fun c hc => by
      have e' : c = z ∨ c = TI ∨ c = TO ∨ c = i1 ∨ c = i2 := by simpa using hc
      rcases e' with rfl | rfl | rfl | rfl | rfl
      · exact zl
      · exact Heap.lt_size hTI
      · exact Heap.lt_size hTO
      · obtain ⟨_, e1, _⟩ := h1
        exact Heap.lt_size e1
      · obtain ⟨_, e1, _⟩ := h2
        exact Heap.lt_size e1
    refine wpAny_pyNext_zip_item D hz hTI hTO h1 h2 pu.isList pv.isList (x := u) (y := v) (by simpa using eu) (by simpa using ev) fun g1 z1 o1 a1 a2 tT _ kp => ?_
    refine ⟨_, rfl, wpAny_letOwnedTupleGo_zip (s := { s with heap := g1 }) z1 fun g2 z2 sb => ?_⟩
    have tT2 : g2.get? s.heap.objs.size = some { cls := .type "tuple", data := .seq #[u, v] } := (sb.2 _ (Nat.ne_of_gt zl)).trans tT
    have nw : ObjOk X.prog X.w (upd H s.heap.objs.size (.tup [x, y])) g2 s.heap.objs.size (.tup [x, y]) := ⟨(by decide : 2 ≤ 16777216) |> fun q => by rw [sizeLine_eq]; exact q, [u, v], .cons r1 (.cons r2 .nil), ⟨_, tT2, rfl, _, rfl⟩⟩
    have I1 : Inv X pins σ (upd H s.heap.objs.size (.tup [x, y])) { s with heap := g2 } := by
      refine I.turnedNew (t' := s.toks) (ch := [z, TI, TO, i1, i2]) (fun c o nb e => ?_) hf (Nat.le_refl _) nw
      have n : c ≠ z ∧ c ≠ TI ∧ c ≠ TO ∧ c ≠ i1 ∧ c ≠ i2 := by simpa using nb
      exact (sb.2 c n.1).trans (kp c o n.1 n.2.2.1 n.2.2.2.1 n.2.2.2.2 e)
    refine ⟨.ref s.heap.objs.size, _, I1, rfl, ⟨_, x, y, rfl, I.hok.fresh (Nat.le_refl _), rfl, fun l q => ?_, fun l q => ?_⟩, ⟨z2, ?_, ⟨u, v, ?_⟩, ?_, ?_⟩, fun c hc => ?_⟩
    · rw [I.list_inj q qx]; exact ex
    · rw [I.list_inj q qy]; exact ey
    · exact (sb.2 _ D.TIz).trans (kp _ _ D.TIz D.TITO D.TIi1 D.TIi2 hTI)
    · exact (sb.2 _ D.TOz).trans o1
    · exact a1.at fun o e => (sb.2 _ D.i1z).trans e
    · exact a2.at fun o e => (sb.2 _ D.i2z).trans e
    · rw [upd_ne (Nat.ne_of_lt (old c hc))]
      exact (hf c hc).1
  · intro X hP hw hK hc i pins s σ H E I hf st hg
    subst hP hw hK
    obtain ⟨hz, hTI, ⟨x0, y0, hTO⟩, h1, h2⟩ := st
    obtain ⟨xs, ys, hqx, hqy, hend⟩ := hg
    obtain ⟨its, rv, p, _⟩ := I.list hqx
    have l1 := rv.length
    have he : its.toArray[i]? = none := by simp; omega
    obtain ⟨x1, t⟩ := hc.at I
    refine next_zip_end_hot (a := x0) (b := y0) (k2 := i) (ys := #[]) t D (pair_ne t hz) hz hTI h1 p.isList he fun h' hk => ⟨rfl, ?_⟩
    exact I.turnedL (t' := s.toks) (ch := [z, TI, TO, i1, i2]) (fun c o hb q => hk c o (fun q' => hb (by simp [q'])) (fun q' => hb (by simp [q'])) q) hf
/-! ### zip as an iterable -/
theorem pi_zipH {X : Cx} {e e2 : Expr} {ta : TA} {p pos tpos : Pos} {elts : List Expr} {kk : Nat} (hg : Gl X "zip") (hm : X.mg "zip" = none) (ha : PA X [e, e2] ta)
    (hs : starEach [e, e2] X.env = (false, eval e X.env) :: starEach [e2] X.env := by rfl) (hpl : (backTo pos (starEach [e2] X.env)).any (·.1) = false := by rfl) :
    PIH X (.Tuple elts kk tpos) (.Call (.Name "zip" p) [e, e2] [] pos) (fun σ H R => ta σ H fun vs H1 => ∃ a b xs ys, vs = [.ref a, .ref b] ∧ SqL X.K H1 a xs ∧ SqL X.K H1 b ys ∧ R (ItF X.K a b) H1) := by
  refine ⟨fun pins s σ H R I h => Call_ (ld_blt I hg hm PyProof.Rows.boot_zip (PyProof.Rows.callWith_type1 (thn (ha.run pos pins s σ H _ I h) fun us s1 ⟨vs, H1, I1, r1, q1⟩ => ?_) hs hpl))⟩
  obtain ⟨a, b, xs, ys, ev, qx, qy, q⟩ := q1
  subst ev
  cases r1 with
  | cons ra rr =>
    cases rr with
    | cons rb rr =>
      cases rr
      cases ra
      cases rb
      obtain ⟨us, ru, pu, _⟩ := I1.list qx
      obtain ⟨vs, rv, pv, _⟩ := I1.list qy
      have la := pu.lt
      have lb := pv.lt
      refine call_zip_2 pu.isList pv.isList fun g hz hTI hTO h1 h2 hsz hk => wpAny_pyIter_zip hz ?_
      have I2 : Inv X pins σ H1 { s1 with heap := g } := I1.kept (t' := s1.toks) hk
      refine ⟨s1.heap.objs.size + 4, [s1.heap.objs.size + 4, s1.heap.objs.size + 2, s1.heap.objs.size + 3, s1.heap.objs.size, s1.heap.objs.size + 1], _, _, H1, rfl, I2, turn_zipH (PySem.W.ktu_apart s1.heap.objs.size a b la lb), ⟨hz, hTI, ⟨_, _, hTO⟩, h1, h2⟩, fun c hc => ?_, q⟩
      have ge : s1.heap.objs.size ≤ c := by
        have e' : c = s1.heap.objs.size + 4 ∨ c = s1.heap.objs.size + 2 ∨ c = s1.heap.objs.size + 3 ∨ c = s1.heap.objs.size ∨ c = s1.heap.objs.size + 1 := by simpa using hc
        rcases e' with e | e | e | e | e <;> rw [e]
        · exact Nat.le_add_right _ _
        · exact Nat.le_add_right _ _
        · exact Nat.le_add_right _ _
        · exact Nat.le_refl _
        · exact Nat.le_add_right _ _
      exact I1.fpOk ge (I1.hok.fresh ge)
/-! ### the pair unpacked -/
theorem pg_tupH {X : Cx} {es : List Expr} {k n : Nat} {t : TGs} {pos : Pos} (hc : HotC X) (h : PGs X es t) (hn : (assignEach es X.env).length = n := by rfl) (hst : (assignEach es X.env).findIdx? (·.1) = none := by rfl) : PG X (.Tuple es k pos) (gTup X.K n t) := by
  refine ⟨fun pins s σ H v u Q I r hw => ?_⟩
  obtain ⟨a, xs, rfl, hq, hl, hw⟩ := hw
  cases r
  obtain ⟨us, ru, pu, _⟩ := I.tuple hq
  obtain ⟨x1, ht⟩ := hc.at I
  refine unpack_hot ht pu (by simp [hn, ← hl, ru.length]) hst fun g hx => ?_
  exact h.run pins _ σ H xs _ Q (I.kept (t' := s.toks) fun b o e => hx b o (Nat.ne_of_lt (Heap.lt_size e)) e) (by simpa using ru) hw
/-! ### the comprehension -/
section
variable {X : Cx}
theorem pe_lcH {elt tg iter : Expr} {ifs : List Expr} {scope : Scope} {own : List (Str × Nat)} {pos : Pos} {wi : TI} {g : TG} {tt : TT} {te : TE} (hc : HotC X) (hN : X.N.Nodup) (hi : PIH X tg iter wi) (ok : BlkOk X.N X.env.scope scope own)
    (hg : ∀ (s : Shared) (H : Hp) (C : Addr) (cl : List (Str × Addr)) (fp : List Addr), PG (blkH X s H scope (compEnvC scope cl C X.env) fp) tg g)
    (ht : ∀ (s : Shared) (H : Hp) (C : Addr) (cl : List (Str × Addr)) (fp : List Addr), PTs (blkH X s H scope (compEnvC scope cl C X.env) fp) ifs tt)
    (he : ∀ (s : Shared) (H : Hp) (C : Addr) (cl : List (Str × Addr)) (fp : List Addr), PE (blkH X s H scope (compEnvC scope cl C X.env) fp) elt te)
    (hs : ∀ x, foldedSetIterable iter X.env x = pure x := by intro _; rfl) : PE X (.ListComp elt [⟨tg, iter, ifs, 0⟩] scope pos) (tLc wi g tt te (own.map (·.2))) := by
  refine ⟨fun pins s σ H Q I h => ?_⟩
  rw [eval_ListComp]
  have caught : ∀ y ∈ scope.names, y.2 = .free → ∃ c, X.env.cells.lookup y.1 = some c := fun y hy e => (ok.free y hy e).elim (fun k => I.ok.has _ (.inl k)) fun k => I.ok.has _ (.inr k)
  refine wpAny_comprehension_free (use := none) rfl hs (closure_ok caught) ok.kind (fun y hy e => by rw [ok.uniq y hy, e]) (thn (hi.run pins s σ H _ I h) fun xv s1 hx => thn hx fun itv s2 h2 => ?_)
  obtain ⟨it, fp, tn, J, H2, rfl, I2, T, st2, f2, q⟩ := h2
  refine wpAny_newObj_type (newEnv_comp ?_) (show 0 ≤ sizeLine from Nat.zero_le _)
  obtain ⟨L, hL⟩ : ∃ L, L = s2.heap.objs.size := ⟨_, rfl⟩
  have Ln : H2 L = none := I2.hok.fresh (Nat.le_of_eq hL.symm)
  obtain ⟨W, ⟨m0, w0⟩, turn⟩ := q L Ln
  obtain ⟨s3, hs3⟩ : ∃ s3 : Shared, s3 = { s2 with heap := s2.heap.push { cls := .type "list", data := .seq ([] : List Value).toArray } } := ⟨_, rfl⟩
  have get3 : ∀ b o, s2.heap.get? b = some o → s3.heap.get? b = some o := fun b o e => by rw [hs3]; exact Heap.get?_push_of_some _ e
  have I3 : Inv X pins σ (upd H2 L (.lst [])) s3 := by
    rw [hs3, hL]
    exact I2.laid (t' := s2.toks) (fun b o e => Heap.get?_push_of_some _ e) (Nat.le_refl _) ⟨Nat.zero_le _, [], 0, .nil, Heap.get?_push_size _ rfl⟩
  have sz3 : s3.heap.objs.size = s2.heap.objs.size + 1 := by rw [hs3]; exact Heap.size_push ..
  have f3 : ∀ b ∈ fp, FpOk X pins (upd H2 L (.lst [])) b ∧ b < s3.heap.objs.size := fun b hb => by
    obtain ⟨o, e, _⟩ := T.obj _ _ st2 b hb
    have lt := Heap.lt_size e
    exact ⟨⟨by rw [upd_ne (by rw [hL]; exact Nat.ne_of_lt lt)]; exact (f2 b hb).1, (f2 b hb).2⟩, Nat.lt_of_lt_of_le lt (by rw [sz3]; exact Nat.le_succ _)⟩
  have st3 : tn 0 s3.heap := T.keep _ _ _ st2 fun b _ o e => get3 b o e
  have I4' := block_start I3 ok hN f3
  obtain ⟨ce, hce⟩ : ∃ ce, ce = compEnvC scope (cellsFrom (s3.heap.objs.size + 1) scope.names (cloFrom X.env.cells scope.names [])) s3.heap.objs.size X.env := ⟨_, rfl⟩
  have pg := hg s3 (upd H2 L (.lst [])) s3.heap.objs.size (cellsFrom (s3.heap.objs.size + 1) scope.names (cloFrom X.env.cells scope.names [])) fp
  have pt := ht s3 (upd H2 L (.lst [])) s3.heap.objs.size (cellsFrom (s3.heap.objs.size + 1) scope.names (cloFrom X.env.cells scope.names [])) fp
  have pe := he s3 (upd H2 L (.lst [])) s3.heap.objs.size (cellsFrom (s3.heap.objs.size + 1) scope.names (cloFrom X.env.cells scope.names [])) fp
  obtain ⟨s4, hs4⟩ : ∃ s4 : Shared, s4 = { s3 with heap := pushCells (s3.heap.push { cls := .type "dict", data := .dict #[] }) scope.names } := ⟨_, rfl⟩
  have get4 : ∀ b o, s3.heap.get? b = some o → s4.heap.get? b = some o := fun b o e => by rw [hs4]; exact pushCells_keeps _ _ _ _ (Heap.get?_push_of_some _ e)
  obtain ⟨H3, hH3⟩ : ∃ H3, H3 = upd H2 L (.lst []) := ⟨_, rfl⟩
  rw [← hce, ← hH3, ← hs4] at I4'
  rw [← hce, ← hH3] at pg pt pe
  rw [← hH3] at I3 f3 w0
  have cL : ce.locals = s3.heap.objs.size := by rw [hce]; rfl
  -- the block bears the exception
  have I4 : Inv (blkH X s3 H3 scope ce fp) [] (wipe σ (own.map (·.2))) H3 s4 := by
    refine ⟨⟨I4'.ok.mod, I4'.ok.kind, I4'.ok.glob, I4'.ok.blt, I4'.ok.above, I4'.ok.inj, I4'.ok.has, I4'.ok.cab, fun z => Bool.noConfusion (show false = true from z), I4'.ok.frames, I4'.ok.stk, I4'.ok.exf, I4'.ok.bs, I4'.ok.bsz, I4'.ok.noex, I4'.ok.exfs, I4'.ok.funs, I4'.ok.frf⟩,
      I4'.os, I4'.bare, I4'.base, I4'.loc, I4'.cell, I4'.free, I4'.freeC, fun p hp => ?_, I4'.hok, I4'.len⟩
    have hp' : p ∈ X.pn := by
      have : p ∈ X.pn ++ [] := hp
      rwa [List.append_nil] at this
    obtain ⟨p1, p2, p3, p4, p5⟩ := I3.pin p (List.mem_append_left _ hp')
    have p6 : p.1 ∉ frs X.stack := by
      rcases I3.ok.stk with e | ⟨e, fr⟩
      · rw [e]; exact p4
      · rw [e]
        intro hm
        obtain ⟨en, hen, q⟩ := List.mem_filterMap.mp hm
        rcases List.mem_cons.mp hen with rfl | hen
        · rw [fr] at q
          exact p3 (Option.some.inj q).symm
        · exact p4 (List.mem_filterMap.mpr ⟨en, hen, q⟩)
    refine ⟨get4 _ _ p1, p2, ?_, p6, p5⟩
    show p.1 ≠ ce.locals
    rw [cL]
    exact Nat.ne_of_lt (Heap.lt_size p1)
  have st4 : tn 0 s4.heap := T.keep _ _ _ st3 fun b _ o e => get4 b o e
  have nfp : ∀ b ∈ fp, H3 b = none := fun b hb => (f3 b hb).1.1
  have hcB : HotC (blkH X s3 H3 scope ce fp) := hc
  have stat : ∀ {σ' : L2.St} {H' : Hp} {s' : Shared}, Inv (blkH X s3 H3 scope ce fp) [] σ' H' s' → (∀ b ∈ fp, H' b = none) → ∀ b ∈ fp, FpOk (blkH X s3 H3 scope ce fp) [] H' b := fun {σ' H' s'} I' hn b hb =>
    ⟨hn b hb, (I'.ok.exf b hb).1, I'.ok.exfs b hb, .inl hb, fun x c e => (I'.ok.exf b hb).2 x c e, fun p hp => by
      have : p ∈ X.pn ++ [] := hp
      rw [List.append_nil] at this
      exact (f3 b hb).1.2.2.2.2.2 p (List.mem_append_left _ this)⟩
  have post : ∀ (Hz : Hp) (sz : Shared), Inv (blkH X s3 H3 scope ce fp) [] (wipe σ (own.map (·.2))) Hz sz → Q (.ref L) Hz → compPost (model X.prog X.w) X.A X.xe none (fun v s' => ∃ x H', Inv X pins σ H' s' ∧ RelV x v ∧ Q x H') (.ref L) s3.heap.objs.size (.ok .next) sz := fun Hz sz I6 qq => by
    have I7 : Inv X pins σ Hz sz := I3.call' (ch := fp) I6.os I6.base I6.hok I6.bare fun b hb => ⟨(f3 b hb).1.2.2.2.1, (f3 b hb).1.2.1, (f3 b hb).1.2.2.2.2.1, (f3 b hb).1.2.2.2.2.2⟩
    obtain ⟨m, hn, _⟩ := I6.loc
    have nC : Hz s3.heap.objs.size = none := by
      have z : Hz ce.locals = none := I6.free
      rwa [cL] at z
    have hn : sz.heap.Ns s3.heap.objs.size m := by
      have z : sz.heap.Ns ce.locals m := hn
      rwa [cL] at z
    refine ⟨m, hn, fun h'' sb => ?_⟩
    obtain ⟨g0, g1, g2, g3, g4, g5⟩ := I3.fpOk (Nat.le_refl _) nC
    exact ⟨.ref L, Hz, I7.turned (t' := sz.toks) (fun b o hb e => (sb.2 b hb).trans e) g0 g1 g3 g4 g5, rfl, qq⟩
  have loop : codeAny (model X.prog X.w) X.A (.compLoop (.ListComp elt [⟨tg, iter, ifs, 0⟩] scope pos) 0 (.ref it) (.ref L) ce) (compPost (model X.prog X.w) X.A X.xe none (fun v s' => ∃ x H', Inv X pins σ H' s' ∧ RelV x v ∧ Q x H') (.ref L) s3.heap.objs.size) s4 := by
    refine compLoop_any (fun n s' => ∃ i H', Inv (blkH X s3 H3 scope ce fp) [] (wipe σ (own.map (·.2))) H' s' ∧ tn i s'.heap ∧ (∀ b ∈ fp, H' b = none) ∧ W i n H') ?_ m0 ⟨0, H3, I4, st4, nfp, w0⟩
    rintro n s5 ⟨i, H5, I5, st5, n5, w5⟩
    rcases turn i n H5 w5 with ⟨stop, qq⟩ | ⟨go, Nx, hNx, step⟩
    · refine thnF (T.done (blkH X s3 H3 scope ce fp) rfl rfl rfl hcB i [] s5 _ H5 (fun _ _ => False) I5 (stat I5 n5) st5 stop) fun r s6 ⟨hr, I6⟩ => ?_
      subst hr
      exact post H5 s6 I6 qq
    · refine thnF (T.item (blkH X s3 H3 scope ce fp) rfl rfl rfl hcB i [] s5 _ H5 (fun _ _ => False) I5 (stat I5 n5) st5 go) fun r s6 ⟨u, hr, h6⟩ => ?_
      subst hr
      refine thnF h6 fun _ s7 ⟨x, H7, I7, r7, y7, st7, n7⟩ => ?_
      refine thnF (pg.run _ s7 _ H7 x u _ (I7.pinned (stat I7 n7) (T.obj _ _ st7)) r7 (step x H7 y7)) fun _ s8 ⟨σ8, H8, I8, hw8, q8⟩ => ?_
      refine thnF (pt.run _ s8 σ8 H8 _ I8 q8) fun b s9 ⟨H9, I9, q9⟩ => ?_
      have again : ∀ {s' : Shared} {H' : Hp}, Inv (blkH X s3 H3 scope ce fp) ([] ++ pinsAt fp s7.heap) σ8 H' s' → Nx H' → ∃ m, m < n ∧ ∃ i H', Inv (blkH X s3 H3 scope ce fp) [] (wipe σ (own.map (·.2))) H' s' ∧ tn i s'.heap ∧ (∀ b ∈ fp, H' b = none) ∧ W i m H' := fun {s' H'} I' nx => by
        obtain ⟨m', hm, w'⟩ := hNx H' nx
        have same : ∀ b ∈ fp, ∀ o, s7.heap.get? b = some o → s'.heap.get? b = some o ∧ H' b = none := fun b hb o e =>
          ⟨(I'.pin (b, o) (List.mem_append_right _ (List.mem_append_right _ (mem_pinsAt hb e)))).1, (I'.pin (b, o) (List.mem_append_right _ (List.mem_append_right _ (mem_pinsAt hb e)))).2.1⟩
        refine ⟨m', hm, i + 1, H', (I'.unpinned (pins := [])).weak (by rw [← hw8, wipe_length]) (fun j v e => ?_), T.keep _ _ _ st7 fun b hb o e => (same b hb o e).1, fun b hb => ?_, w'⟩
        · rw [← hw8] at e
          exact (wipe_some e).1
        · obtain ⟨o, e, _⟩ := T.obj _ _ st7 b hb
          exact (same b hb o e).2
      cases b with
      | false =>
        rw [if_neg Bool.false_ne_true] at q9
        rw [if_neg Bool.false_ne_true]
        exact again I9 q9
      | true =>
        rw [if_pos rfl] at q9
        rw [if_pos rfl]
        refine thnF (pe.run _ s9 σ8 H9 _ I9 q9) fun z s10 ⟨yv, H10, I10, r10, acc, hD10, hz10, nx⟩ => ?_
        exact app_ok (X := blkH X s3 H3 scope ce fp) I10 hD10 hz10 r10 fun s11 I11 => again I11 nx
  have fin := codeAny_compStart_list loop (T.self X.A 0 _ _ _ st4 loop)
  subst hs4 hce hs3 hL
  exact fin
end
end HZ

set_option maxHeartbeats 4000000
/-! HZc: a def called with the exception that is handled. -/
namespace HZ
open PySem PySem.Spec PyProof.Rows HotX L2 L2H
/-- isinstance(e, c), e an exception that the context bears -/
theorem call_isP {X : Cx} {a C : Addr} {oe : Obj} (E : ExcC X.K C) (hp : (a, oe) ∈ X.pn) (hz : Zc (.ref C) none oe) (hf : ∃ vs, oe.data = .fields vs) : CallR X (.builtin "isinstance") (rIsE X.K C a) := by
  intro pins s σ H xs us Q I r h
  obtain ⟨c, cv, b, ex, hcv, e, q⟩ := h
  subst ex
  cases r with
  | cons rx rr =>
    cases rr with
    | cons rt rr =>
      cases rr
      cases rx
      cases hcv _ rt
      have got := (I.pin (a, oe) (List.mem_append_left _ hp)).1
      obtain ⟨vs, hv⟩ := hf
      have J : PySem.W.InstAt s.heap a oe C none := by
        obtain ⟨oc, od, oda, osl⟩ := oe
        obtain ⟨z1, z2⟩ := hz
        dsimp only at z1 z2 hv
        subst z1 z2 hv
        exact ⟨got, rfl, rfl, trivial⟩
      exact PySem.W.kia_one (PySem.W.handS_kitx_exc E.hg E.hk E.hs E.hd E.ha E.hn E.ht E.hm) I.kIn J e (fun z => nomatch z) fun tk => ⟨.bl b, H, I.kept (t' := tk) fun _ _ z => z, rfl, q⟩
/-- what a def promises where p is the exception that is handled -/
structure FnP (P : Program) (w : World) (K : PySem.W.Frag) (mg : Str → Option Value) (base : Heap) (CX : CXT) (k : Nat) (f : Addr) (fd : FuncData) (ps : List Str) (p : Addr × Obj) (sp : Sp) : Prop where
  len : ∀ vs H Q E, sp vs H Q E → vs.length = ps.length
  run : ∀ (A : Around) (outer : List Env) (s : Shared) (H : Hp) (args : Args) (us : List Value) (vs : List V) (Q : VK) (E : XK), RoomH k A → Hot1 A p → PinOk outer H s p → Env0 P w K mg base A outer s H → BindsTo s fd args (ps.zip us) → Vals vs us → sp vs H Q E →
    codeAny (model P w) A (.call (.ref f) args) (CR CX outer P w H s Q E) s
theorem fnP_of {CX : CXT} {P : Program} {w : World} {K : PySem.W.Frag} {mg : Str → Option Value} {base : Heap} {k : Nat} {f : Addr} {x qual : Str} {st : Stmt} {fd : FuncData} {N ps : List Str} {p : Addr × Obj} {sp : Sp} (F : Fun K x qual st f fd) (S : FnScope N ps (defScope st))
    (len : ∀ vs H Q E, sp vs H Q E → vs.length = ps.length)
    (hb : ∀ (cdv : Value) (A : Around) (outer : List Env) (s : Shared) (H : Hp) (vs : List V) (Q : VK) (E : XK), Hot1 A p → RoomH k (A.deeper (envOfC qual (defScope st) s.heap.objs.size f cdv)) → sp vs H Q E →
      ∃ t, PSs (cxH CX P w K mg base N qual (defScope st) f cdv A outer s H E p) (defBody st) t ∧ t { nx := fun _ H' => Q .non H', rt := Q } (L2.start N vs) H) : FnP P w K mg base CX (k + 1) f fd ps p sp := by
  obtain ⟨_, _, _, _, _, _, cdv, _, _, rfl, lk, hcd⟩ := F.ex
  refine ⟨len, fun A outer s H args us vs Q E hr hot hpin e0 bd r hsp => ?_⟩
  have hl := len _ _ _ _ hsp
  have base_in : ∀ b o, base.get? b = some o → s.heap.get? b = some o := fun b o e => (e0.bs b o e).1
  have KX : K.In s.heap := e0.mod.kin.keeps base_in
  have cells : ∀ y ∈ ps.zip us, (defScope st).names.lookup y.1 = some .local ∨ ((defScope st).names.lookup y.1 = some .cell ∧ ((cellsFrom (s.heap.objs.size + 1) (defScope st).names []).lookup y.1).isSome = true) := fun y hy =>
    (S.par y.1 (List.of_mem_zip (a := y.1) (b := y.2) hy).1).imp (fun q => q) fun q => ⟨q, PySem.W.cellsFrom_some _ _ _ (.inl q)⟩
  refine codeAny_call_function hr.depth (KX _ _ lk) rfl S.co S.gen rfl (PySem.W.codeRec_of KX hcd) (bd _ _ _ _ (wpAny_newFunctionEnv_cells S.kind cells fun env he s1 x => ?_))
  subst he
  refine ⟨(e0.mod.nolimit.keeps base_in).keeps x.toInCall.keep, codeAny_func ?_⟩
  obtain ⟨t, tp, tq⟩ := hb cdv A outer s H vs Q E hot (hr.deeper _) hsp
  refine wpAny_mono (tp.run [] s1 (L2.start N vs) H _ (inv_startH S hpin e0 hl r x) tq) (fun fl s' hs => ?_) fun e s' hs => hs
  cases fl with
  | ret u =>
    obtain ⟨v, σ', H', J, rv, q⟩ := hs
    exact ⟨v, H', J.os, J.bare, J.base, J.hok, rv, q⟩
  | next =>
    obtain ⟨σ', H', J, q⟩ := hs
    exact ⟨.non, H', J.os, J.bare, J.base, J.hok, rfl, q⟩
  | brk => exact (show False from hs.choose_spec.choose_spec.2).elim
  | cont => exact (show False from hs.choose_spec.choose_spec.2).elim
section
variable {X : Cx} {CX : CXT} {k : Nat} {f : Addr} {fd : FuncData} {ps : List Str} {sp : Sp} {p : Addr × Obj} {x : Str} {q pos : Pos} {e : Expr} {es : List Expr} {t : TA}
theorem pe_callP {E : XK} (F : FnP X.prog X.w X.K X.mg X.base CX k f fd ps p sp) (hr : RoomH k X.A) (hot : Hot1 X.A p) (hp : p ∈ X.pn) (hg : Gl X x) (hm : X.mg x = some (.ref f)) (hk : PySem.W.keepIn X.K (.ref f) = true) (hb : Binds X.K fd ps []) (hx : ∀ σ, PassesAt CX X σ E)
    (ha : PA X (e :: es) t) (hdb : (x == ("__debug__" : Str)) = false := by decide) (he : starEach (e :: es) X.env = (false, eval e X.env) :: starEach es X.env := by rfl) (hpl : (backTo pos (starEach es X.env)).any (·.1) = false := by rfl) :
    PE X (.Call (.Name x q) (e :: es) [] pos) (tCallS sp (fun _ => E) t) := by
  refine ⟨fun pins s σ H Q I h => wpAny_Call_Name_kw (ld_glob I hg hm ?_ hdb)⟩
  refine PySem.W.callWith_K (h₀ := X.base) I.ok.mod.kin hk (thn (ha.run pos pins s σ H _ I h) fun us s1 ⟨vs, H1, I1, r, q⟩ => ⟨I1.kIn, ?_⟩) he hpl
  have hl : us.length = ps.length := by rw [← r.length]; exact F.len _ _ _ _ q
  have bd := hb s1 us I1.kIn (by rw [List.append_nil]; exact hl)
  rw [List.append_nil] at bd
  obtain ⟨p1, p2, p3, p4, p5⟩ := I1.pin p (List.mem_append_left _ hp)
  refine wpAny_call (codeAny_mono (F.run X.A X.stack s1 H1 ⟨us, []⟩ us vs Q E hr hot ⟨p1, p2, fun hm => (List.mem_cons.mp (I1.stkSub p.1 hm)).elim p3 p4, p5⟩ I1.env0 bd r q) fun r s' hq => ?_)
  cases r with
  | error e => exact hx σ pins H1 s1 e s' I1 hq
  | ok fl =>
    cases fl with
    | ret u => exact I1.after hq
    | next => exact False.elim hq
    | brk => exact False.elim hq
    | cont => exact False.elim hq
end
end HZ

set_option maxHeartbeats 4000000
/-! DLi: data while an exception is handled. -/
namespace DL
open PySem PySem.Spec PyProof.Rows L2 L2H
section
variable {c : Dc} {X : Cx} {a b e tg : Expr} {es : List Expr} {fa fb : FE} {pos : Pos}
def DIH (c : Dc) (X : Cx) (tg iter : Expr) (f : FI) : Prop := PIH X tg iter (tI c X.K f)
theorem jok_zipF {K : Frag} {G0 : Hp} {a b : Addr} {xs ys : List V} {ds es : List DL.D} (h : G0 a = some (.lst xs)) (h' : G0 b = some (.lst ys)) (d : DqAll K G0 xs ds) (e : DqAll K G0 ys es) (hl : ds.length ≤ es.length) : JOk c K (HZ.ItF K a b) G0 (pairD ds es) := by
  have J := jok_zip (c := c) h h' d e
  refine ⟨J.go, fun i ρ σ G H R sm hi => ?_, J.yld⟩
  rw [pairD_length] at hi
  exact ⟨xs, ys, .of (R.wf.same _ _ (sm _ _ h)), .of (R.wf.same _ _ (sm _ _ h')), by rw [d.length]; omega⟩
def iterZH (fas : Rho → Rs (List DL.D × Rho)) : FI := fun ρ => (fas ρ).bind fun r => match r.1 with
  | [.lst xs, .lst ys] => if xs.length ≤ ys.length then .ok (pairD xs ys, r.2) else .no
  | _ => .no
theorem di_zipH {fas : Rho → Rs (List DL.D × Rho)} {p tpos : Pos} {elts : List Expr} {kk : Nat} (hm : X.mg "zip" = none) (ha : DAs c X [a, b] fas) (hg : Gl X "zip" := by rfl)
    (hs : starEach [a, b] X.env = (false, eval a X.env) :: starEach [b] X.env := by rfl) (hpl : (backTo pos (starEach [b] X.env)).any (·.1) = false := by rfl) : DIH c X (.Tuple elts kk tpos) (.Call (.Name "zip" p) [a, b] [] pos) (iterZH fas) := by
  obtain ⟨t1, p1, k1⟩ := ha.un
  refine ⟨fun pins s σ H R I ⟨ρ, G, r, q⟩ => (HZ.pi_zipH hg hm p1 hs hpl).run pins s σ H R I ?_⟩
  refine k1 ρ σ G H _ r (q.first.imp fun r1 h2 v G1 H1 S d => ?_)
  split at h2
  · rename_i xs ys e1
    rw [e1] at d
    split at h2
    · rename_i hl
      obtain ⟨v1, v2, rfl, d1, d2⟩ := dqAll2 d
      obtain ⟨l, us, rfl, hl1, hus⟩ := dq_lst d1
      obtain ⟨m, ws, rfl, hm1, hws⟩ := dq_lst d2
      exact ⟨l, m, us, ws, rfl, .of (S.rel.wf.same _ _ hl1), .of (S.rel.wf.same _ _ hm1), h2 _ G1 H1 S (jok_zipF hl1 hm1 hus hws hl)⟩
    · exact h2.elim
  · exact h2.elim
theorem dg_tupH {k n : Nat} {ts : List Nat} {gs : List DL.D → Rho → Rs Rho} (hc : HotC X) (h : DGs c X es ts gs) (hn : (assignEach es X.env).length = n := by rfl) (hst : (assignEach es X.env).findIdx? (·.1) = none := by rfl) : DG c X (.Tuple es k pos) ts (tupG n gs) := by
  refine ⟨fun pins s σ H v u Q I r ⟨ρ, G, d, R, dv, q⟩ => (HZ.pg_tupH hc h hn hst).run pins s σ H v u Q I r ?_⟩
  cases d with
  | tup ds =>
    obtain ⟨l, xs, rfl, hl, hxs⟩ := dq_tup dv
    by_cases hz : ds.length = n
    · simp only [tupG, if_pos hz] at q
      exact ⟨l, xs, rfl, sqT_mono R.wf.same hl, by rw [hxs.length]; exact hz, ρ, G, ds, R, hxs, q⟩
    · simp only [tupG, if_neg hz] at q
      exact q.elim
  | _ => exact q.elim
abbrev BlkH (X : Cx) (scope : Scope) (R : Cx → Prop) : Prop := ∀ (s : Shared) (H : Hp) (C : Addr) (cl : List (Str × Addr)) (fp : List Addr), R (HZ.blkH X s H scope (compEnvC scope cl C X.env) fp)
theorem de_lcH {elt iter : Expr} {ifs : List Expr} {scope : Scope} {own : List (Str × Nat)} {ts : List Nat} {fi : FI} {gg : FG} {tt : FB} {fe : FE} (hc : HotC X) (hN : X.N.Nodup) (hi : DIH c X tg iter fi) (ok : BlkOk X.N X.env.scope scope own) (hg : BlkH X scope fun Y => DG c.blk Y tg ts gg)
    (ht : BlkH X scope fun Y => DTs c.blk Y ifs tt) (he : BlkH X scope fun Y => DE c.blk Y elt fe) (hts : ∀ i ∈ ts, i ∈ own.map (·.2)) (hs : ∀ x, foldedSetIterable iter X.env x = pure x := by intro _; rfl) :
    DE c X (.ListComp elt [⟨tg, iter, ifs, 0⟩] scope pos) (lcE fi gg tt fe (own.map (·.2))) :=
  DE.mk ⟨_, HZ.pe_lcH (g := tG c.blk X.K ts gg) (tt := tT c.blk X.K tt) (te := tE c.blk X.K fe) hc hN hi ok hg ht he hs, fun ρ σ G H Q R h => lc_of hts ρ σ G H Q R h⟩
/-- isinstance(e, C), e the exception at p in slot i -/
def isPx (p : Addr) (i : Nat) (k : Bool) : FE := fun ρ => match ρ[i]? with
  | some (.px q) => if q = p then .ok (.bl k, ρ) else .no
  | _ => .no
theorem de_isE {ce : Expr} {i : Nat} {p D : Addr} {oe : Obj} {cv : Value} {v : V} {k : Bool} {q1 : Pos} (E : ExcC X.K D) (hp : (p, oe) ∈ X.pn) (hz : Zc (.ref D) none oe) (hf : ∃ vs, oe.data = .fields vs) (hm : X.mg "isinstance" = none) (hv : PE X e (tVar i)) (hcl : PE X ce (tC v)) (hcv : ∀ u, RelV v u → u = cv)
    (hk : PySem.W.kitOne X.K (.ref D) cv = some k) (hg : Gl X "isinstance" := by rfl) (hs : starEach [e, ce] X.env = (false, eval e X.env) :: starEach [ce] X.env := by rfl) (hs2 : starEach [ce] X.env = (false, eval ce X.env) :: starEach [] X.env := by rfl) (hpl : (backTo pos (starEach [ce] X.env)).any (·.1) = false := by rfl) :
    DE c X (.Call (.Name "isinstance" q1) [e, ce] [] pos) (isPx p i k) := by
  refine DE.mk ⟨_, pe_callB (HZ.call_isP E hp hz hf) hg hm (by decide +kernel) (pa_cons hv (pa_cons hcl pa_nil hs2) hs) (by decide) (by decide) hs hpl, fun ρ σ G H Q R h => ?_⟩
  unfold isPx at h
  split at h
  · rename_i q e1
    split at h
    · rename_i eq
      subst eq
      have hi : i < σ.length := by rw [R.len]; exact (List.getElem?_eq_some_iff.mp e1).1
      have e2 : σ[i]? = some (some (.ref q)) := by
        have := R.sl i _ _ e1 (List.getElem?_eq_getElem hi)
        rw [List.getElem?_eq_getElem hi, show σ[i] = some (V.ref q) from this]
      exact ⟨.ref q, e2, v, cv, k, rfl, hcv, hk, h _ G H (.refl R) (.bl k)⟩
    · exact h.elim
  · exact h.elim
end
section
variable {P : Program} {w : World} {K : PySem.W.Frag} {mg : Str → Option Value} {base : Heap} {T : List (Addr × Str)} {cl : Xc → Addr}
/-- THE RULE for a def that is called with the exception that is handled -/
theorem fnP_data {x qual : Str} {st : Stmt} {f : Addr} {fd : FuncData} {N ps : List Str} {k : Nat} {body : FS} {p : Addr × Obj} (F : Fun K x qual st f fd) (S : FnScope N ps (defScope st))
    (hb : ∀ (cdv : Value) (A : Around) (outer : List Env) (s : Shared) (H : Hp) (E : XK), Hot1 A p → RoomH k (A.deeper (envOfC qual (defScope st) s.heap.objs.size f cdv)) →
      DSs ⟨T, cl, E, ps.length⟩ (cxH (L2N.CX P w) P w K mg base N qual (defScope st) f cdv A outer s H E p) (defBody st) body) :
    HZ.FnP P w K mg base (L2N.CX P w) (k + 1) f fd ps p (spD K T cl (defF ps.length N.length body)) := by
  have hpl : ps.length ≤ N.length := by have := congrArg List.length S.pre; rw [List.length_take] at this; omega
  exact HZ.fnP_of F S (fun vs H Q E h => def_len h) fun cdv A outer s H vs Q E hot hr h => ⟨_, hb cdv A outer s H E hot hr, def_read hpl h⟩
end
end DL

set_option maxHeartbeats 4000000
/-! HZd: a lambda called by the def that got it, over L2N.CX. -/
namespace HL
open PySem PySem.Spec PyProof.Rows HotX L2 LamX
/-- the context of the lambda's body, what it lets out told with its own context -/
def lamCxN (X : Cx) (A : Around) (outer : List Env) (s : Shared) (H : Hp) (E : XK) (scope : Scope) (f c' : Addr) : Cx :=
  (lamCx X A outer s H E scope f c').tr [] (fun e s' => wpAny (model X.prog X.w) (A.deeper (lamEnv X scope s.heap.objs.size f c')) (leaving (lamEnv X scope s.heap.objs.size f c') e) (fun _ s'' => L2N.CX X.prog X.w outer H s E e s'') (fun e' s'' => L2N.CX X.prog X.w outer H s E e' s'') s')
section
variable {X : Cx} {pins : List (Addr × Obj)} {σ : L2.St} {H HZ : Hp} {s s1 : Shared}
theorem lam_takes {A : Around} {outer : List Env} {E : XK} {scope : Scope} {f c' : Addr} : L2N.Takes (lamCxN X A outer s H E scope f c') (fun cls d _ H => E cls d H) :=
  L2N.takes_of rfl rfl rfl rfl
/-- x(), in the def that got the lambda, over L2N -/
theorem pe_actN {Eg : XK} {Ng : List Str} {qg : Str} {sg : Scope} {g f c' : Addr} {cdg pm ctv : Value} {params : Arguments} {body : Expr} {scope : Scope} {k i : Nat} {a : Str} {pn : List (Addr × Obj)} {xe : Value → Shared → Prop} {W : WX} {E : XK} {tb : TE} {p1 p2 : Pos}
    (I : Inv X pins σ H s) (L : LamS X.env.scope scope) (hf : s.heap.get? f = some (PySem.W.kla_obj "<lambda>" (X.env.qual ++ "<lambda>") params body scope (cloFrom X.env.cells scope.names []) pm c' ctv)) (hfn : H f = none) (hfr : f ∉ frs X.stack)
    (hbind : bindArgs (PySem.W.kla_fn "<lambda>" (X.env.qual ++ "<lambda>") params body scope (cloFrom X.env.cells scope.names []) pm (.ref c') ctv) ⟨[], []⟩ = pure [])
    (tk : L2N.Takes ((cxOf (L2N.CX X.prog X.w) X.prog X.w X.K X.mg X.base Ng qg sg g cdg X.A X.stack s H Eg).tr pn xe) W) (hW : ∀ cls d σ' H', E cls d H' → W cls d σ' H') (hr : Room (k + 1) (X.A.deeper (envOfC qg sg s.heap.objs.size g cdg)))
    (hbody : ∀ (A : Around) (outer : List Env) (s : Shared) (H : Hp), Room k (A.deeper (lamEnv X scope s.heap.objs.size f c')) → PE (lamCxN X A outer s H E scope f c') body tb)
    (hN : Ng[i]? = some a) (hv : Vis sg a) (hd : (a == ("__debug__" : Str)) = false := by decide) (hcd : (a == ("__classdict__" : Str)) = false := by decide) :
    PE ((cxOf (L2N.CX X.prog X.w) X.prog X.w X.K X.mg X.base Ng qg sg g cdg X.A X.stack s H Eg).tr pn xe) (.Call (.Name a p1) [] [] p2)
      (fun σZ HZ Q => σZ[i]? = some (some (.ref f)) ∧ HZ c' = some (CodeO c' (X.env.qual ++ "<lambda>")) ∧ tb σ HZ Q) := by
  refine ⟨fun pinsZ sZ σZ HZ Q IZ h => ?_⟩
  obtain ⟨hs, hc, ht⟩ := h
  refine wpAny_Call_Name_kw (thn ((pe_var (pos := p1) (i := i) hN hv hd hcd).run pinsZ sZ σZ HZ (fun v H1 => v = .ref f ∧ H1 = HZ) IZ ⟨.ref f, hs, rfl, rfl⟩) fun u s1 ⟨v, H1, I1, r1, q1⟩ => ?_)
  obtain ⟨ev, eH⟩ := q1
  subst ev
  rw [eH] at I1
  obtain rfl : u = Value.ref f := r1
  have of1 : s1.heap.get? f = some (PySem.W.kla_obj "<lambda>" (X.env.qual ++ "<lambda>") params body scope (cloFrom X.env.cells scope.names []) pm c' ctv) := I1.base.keep f _ hf hfn hfr (fun z => nomatch (show f ∈ ([] : List Addr) from z))
  refine PySem.W.callWith_F0 ⟨_, _, _, _, of1⟩ ?_
  have un : Un (frs X.stack) [] H HZ s.heap s1.heap := I1.base
  obtain ⟨⟨oc, vs, t, hoc, hdc, hvc⟩, _, _⟩ := I1.hok c' _ hc
  have rc : codeAny (model X.prog X.w) (X.A.deeper (envOfC qg sg s.heap.objs.size g cdg)) (.call (.ref f) ⟨[], []⟩) (CR (L2N.CX X.prog X.w) (envOfC qg sg s.heap.objs.size g cdg :: X.stack) X.prog X.w HZ s1 Q E) s1 := by
    refine PySem.W.kla_callFunE hr.depth of1 rfl L.co L.gen rfl ⟨c', oc, vs, t, rfl, hoc, hdc, hvc⟩ ?_
    rw [hbind]
    refine wpAny_pure (wpAny_newFunctionEnv (fun y hy => (L.own y hy).2) (fun y hy => absurd hy (by simp)) (fun h₁ hns hsb => ⟨I1.nolimit.fresh _ hsb, ?_⟩) L.kind)
    show codeAny _ _ (.expr body (lamEnv X scope s1.heap.objs.size f c')) _ _
    have kp : ∀ b o, s1.heap.get? b = some o → h₁.get? b = some o := fun b o e => hsb.extBut b o (Nat.ne_of_lt (Heap.lt_size e)) (Heap.get?_push_of_some _ e)
    have J0 : Inv (lamCx X (X.A.deeper (envOfC qg sg s.heap.objs.size g cdg)) (envOfC qg sg s.heap.objs.size g cdg :: X.stack) s1 HZ E scope f c') [] σ HZ { s1 with heap := h₁, toks := s1.toks + ([] : List (Str × Value)).length } :=
      lam_start2 I L I1.env0 hr.hd un hns kp
    have J : Inv (lamCxN X (X.A.deeper (envOfC qg sg s.heap.objs.size g cdg)) (envOfC qg sg s.heap.objs.size g cdg :: X.stack) s1 HZ E scope f c') [] σ HZ { s1 with heap := h₁, toks := s1.toks + ([] : List (Str × Value)).length } :=
      J0.toTry _
    refine PySem.W.kla_codeExpr (wpAny_mono ((hbody _ _ s1 HZ (hr.deeper _)).run [] _ _ HZ Q J ht) (fun v s' hq => ?_) fun e s' hq => hq)
    obtain ⟨w', H', J', rv, q⟩ := hq
    exact ⟨w', H', J'.os, J'.bare, J'.base, J'.hok, rv, q⟩
  have hx := L2N.passes_call tk hW
  refine wpAny_call (codeAny_mono rc fun r s' hq => ?_)
  cases r with
  | error e => exact hx pinsZ σZ HZ s1 e s' I1 hq
  | ok fl =>
    cases fl with
    | ret u => exact I1.after hq
    | next => exact False.elim hq
    | brk => exact False.elim hq
    | cont => exact False.elim hq
end
/-- the def that calls what it got, over L2N: TT: what it makes of the lambda's reading; k: the room it has -/
def GivesN (X : Cx) (k : Nat) (Ng : List Str) (x : Str) (sg : Scope) (g : Addr) (cdg : Value) (bg : List Stmt) (a : Str) (q : Str) (TT : (XK → Hp → VK → Prop) → XK → Hp → VK → Prop) : Prop :=
  ∀ (f c' : Addr) (s : Shared) (H : Hp) (Q : VK) (E : XK) (tl : XK → Hp → VK → Prop), Room k (X.A.deeper (envOfC x sg s.heap.objs.size g cdg)) →
    (∀ (W : WX) (pn : List (Addr × Obj)) (xe : Value → Shared → Prop) (El : XK) (p1 p2 : Pos), L2N.Takes ((cxOf (L2N.CX X.prog X.w) X.prog X.w X.K X.mg X.base Ng x sg g cdg X.A X.stack s H E).tr pn xe) W → (∀ cls d σ' H', El cls d H' → W cls d σ' H') →
      PE ((cxOf (L2N.CX X.prog X.w) X.prog X.w X.K X.mg X.base Ng x sg g cdg X.A X.stack s H E).tr pn xe) (.Call (.Name a p1) [] [] p2) (fun σZ HZ Q => σZ[0]? = some (some (.ref f)) ∧ HZ c' = some (CodeO c' q) ∧ tl El HZ Q)) →
    H c' = some (CodeO c' q) → TT tl E H Q →
    ∃ t, PSs (cxOf (L2N.CX X.prog X.w) X.prog X.w X.K X.mg X.base Ng x sg g cdg X.A X.stack s H E) bg t ∧ t { nx := fun _ H' => Q .non H', rt := Q } (L2.start Ng [.ref f]) H
def tLamN (T : List (Addr × Str)) (TT : (XK → Hp → VK → Prop) → XK → Hp → VK → Prop) (t : XK → TE) (E : XK) : TE := fun σ H Q => Tabs T H ∧ ∀ H1, ExtN H H1 → (∀ a, H a ≠ none → H1 a ≠ none) → Tabs T H1 → TT (fun El H' Q' => t El σ H' Q') E H1 Q
/-- a lambda made: HandS.Lambda's lam_make2, told beside that what stands goes on standing -/
theorem lam_makeA {X : Cx} {pins : List (Addr × Obj)} {σ : L2.St} {H : Hp} {s : Shared} {T : List (Addr × Str)} {c P : Addr} {params : Arguments} {body : Expr} {scope : Scope} {pos : Pos} {E : Value → Shared → Prop} {Q : Value → Shared → Prop} (I : Inv X pins σ H s) (TB : TabB X.base X.mg c P) (hcode : X.env.code = .ref c)
    (hm : (P, X.env.qual ++ "<lambda>") ∈ T) (hu : ∀ p ∈ T, p.1 = P → p.2 = X.env.qual ++ "<lambda>") (hT : Tabs T H) (hdef : defaultsOf params X.env = ([], [])) (hfree : ∀ y ∈ scope.names, y.2 = .free → ∃ c, X.env.cells.lookup y.1 = some c)
    (h : ∀ (f c' : Addr) (pm ctv : Value) (H1 : Hp) (s' : Shared), Inv X pins σ H1 s' → ExtN H H1 → (∀ a, H a ≠ none → H1 a ≠ none) → Tabs T H1 →
      s'.heap.get? f = some (PySem.W.kla_obj "<lambda>" (X.env.qual ++ "<lambda>") params body scope (cloFrom X.env.cells scope.names []) pm c' ctv) → H1 f = none → f ∉ frs X.stack → H1 c' = some (CodeO c' (X.env.qual ++ "<lambda>")) → Q (.ref f) s') :
    wpAny (model X.prog X.w) X.A (eval (.Lambda params body scope pos) X.env) Q E s := by
  obtain ⟨ps, hP, ht, ha⟩ := hT _ hm
  refine PySem.W.kla_eval hdef ?_
  have bP : s.heap.BuiltinsAt X.mg P := TB.bm.keeps I.bk
  have hP' : s.heap.get? P = some { cls := .none, data := .fields ps } := I.hok P _ hP
  have nofr : ∀ f, s.heap.objs.size ≤ f → f ∉ frs X.stack := fun f hf z => by
    rcases List.mem_cons.mp (I.stkSub _ z) with e | e
    · have h1 := I.lt
      rw [← e] at h1
      exact Nat.lt_irrefl _ (Nat.lt_of_lt_of_le h1 hf)
    · exact I.nofs hf e
  cases hc : codeAmong pos ps.toList with
  | none =>
    refine PySem.W.kla_makeFunction (mg := X.mg) (c := c) (P := P) (ps := ps) (closure_ok hfree) I.ok.glob (I.mod.glob.keeps I.bk) hcode (TB.code.keeps I.bk) hP' ht hc TB.gP bP fun c' ctv h' tk hx hge hlt hrec htb => ?_
    obtain ⟨c2, oc, vs, t, e2, hoc, hd, hv⟩ := hrec
    cases e2
    have hsz : s.heap.objs.size ≤ h'.objs.size := Nat.le_trans hge (Nat.le_of_lt hlt)
    have nC : H c' = none := I.hok.fresh hge
    have I1 := inv_table (t' := tk) (more := #[rawInt pos.line, rawInt pos.col, .ref c']) (h' := h'.push (PySem.W.kla_obj "<lambda>" (X.env.qual ++ "<lambda>") params body scope (cloFrom X.env.cells scope.names []) ((X.mg "__name__").getD .none) c' ctv)) I hP
      (fun b o hb e => Heap.get?_push_of_some _ (hx b o hb e)) (Heap.get?_push_of_some _ htb) hge ⟨oc, vs, t, Heap.get?_push_of_some _ hoc, hd, hv⟩
    have hE : ExtN H (upd (upd H P (.tbl (ps ++ #[rawInt pos.line, rawInt pos.col, .ref c']))) c' (CodeO c' (X.env.qual ++ "<lambda>"))) := fun b o e n => by
      rw [upd_ne (ne_of_none e nC), upd_ne (fun z => n ps (Option.some.inj (e.symm.trans (by rw [z]; exact hP))))]
      exact e
    have eL : (ps ++ #[rawInt pos.line, rawInt pos.col, .ref c']).toList = ps.toList ++ [rawInt pos.line, rawInt pos.col, .ref c'] := by simp
    refine h h'.objs.size c' ((X.mg "__name__").getD .none) ctv _ _ I1 hE (fun a n z => ?_) (fun p hp => ?_) (Heap.get?_push_size _ rfl) ?_ (nofr _ hsz) upd_same
    · by_cases q1 : a = c'
      · rw [q1, upd_same] at z; cases z
      · rw [upd_ne q1] at z
        by_cases q2 : a = P
        · rw [q2, upd_same] at z; cases z
        · rw [upd_ne q2] at z; exact n z
    · by_cases hb : p.1 = P
      · rw [hu p hp hb, hb]
        refine ⟨_, by rw [upd_ne (ne_of_none hP nC), upd_same], by rw [eL]; exact PySem.TriplesOk_snoc _ _ _ _ ht, fun p' cv hcv => ?_⟩
        rw [eL] at hcv
        rcases among_app _ ht hcv with z | z
        · obtain ⟨c0, e1, e2⟩ := ha p' cv z
          exact ⟨c0, e1, hE _ _ e2 codeO_ne⟩
        · exact ⟨c', z, upd_same⟩
      · obtain ⟨ps', a1, a2, a3⟩ := hT p hp
        refine ⟨ps', by rw [upd_ne (ne_of_none a1 nC), upd_ne hb]; exact a1, a2, fun p' cv hcv => ?_⟩
        obtain ⟨c0, e1, e2⟩ := a3 p' cv hcv
        exact ⟨c0, e1, hE _ _ e2 codeO_ne⟩
    · have n1 : h'.objs.size ≠ c' := Nat.ne_of_gt hlt
      have n2 : h'.objs.size ≠ P := Nat.ne_of_gt (Nat.lt_of_lt_of_le (Heap.lt_size hP') hsz)
      rw [upd_ne n1, upd_ne n2]
      exact I.hok.fresh hsz
  | some cv =>
    obtain ⟨c', e, hco⟩ := ha pos cv hc
    subst e
    refine PySem.W.kla_makeFunctionHit (mg := X.mg) (c := c) (P := P) (ps := ps) (closure_ok hfree) I.ok.glob (I.mod.glob.keeps I.bk) hcode (TB.code.keeps I.bk) hP' ht hc bP fun ctv h' tk hx hsz => ?_
    have I1 : Inv X pins σ H { s with heap := h'.push (PySem.W.kla_obj "<lambda>" (X.env.qual ++ "<lambda>") params body scope (cloFrom X.env.cells scope.names []) ((X.mg "__name__").getD .none) c' ctv), toks := tk } := I.kept fun b o e => Heap.get?_push_of_some _ (hx b o e)
    exact h h'.objs.size c' ((X.mg "__name__").getD .none) ctv H _ I1 (ExtN.refl H) (fun _ n => n) hT (Heap.get?_push_size _ rfl) (I.hok.fresh hsz) (nofr _ hsz) hco
/-- x(lambda: body), over L2N -/
theorem pe_lamcallN {X : Cx} {E : XK} {T : List (Addr × Str)} {TT : (XK → Hp → VK → Prop) → XK → Hp → VK → Prop} {x a : Str} {g c P : Addr} {k : Nat} {pg : Arguments} {bg : List Stmt} {sg : Scope} {dV kV doc pm cdv ct oc : Value} {an od : Option Addr} {osl : Array (Option Value)} {Ng : List Str}
    {params : Arguments} {body : Expr} {scope : Scope} {t : XK → TE} {p lpos pos : Pos} (hg : Gl X x) (hm : X.mg x = some (.ref g)) (hk : PySem.W.keepIn X.K (.ref g) = true)
    (lk : X.K.lookup g = some ⟨oc, od, .func (PySem.W.fnOf x x pg bg sg dV kV doc pm an cdv ct), osl⟩) (hcg : PySem.W.codeIn X.K cdv x = true) (hb : L2.Binds X.K (PySem.W.fnOf x x pg bg sg dV kV doc pm an cdv ct) [a] []) (Sg : FnScope Ng [a] sg) (hNg : Ng[0]? = some a) (hva : Vis sg a)
    (hG : GivesN X (k + 1) Ng x sg g cdv bg a (X.env.qual ++ "<lambda>") TT) (hx : Passes (L2N.CX X.prog X.w) X E)
    (TB : TabB X.base X.mg c P) (hcode : X.env.code = .ref c) (hmT : (P, X.env.qual ++ "<lambda>") ∈ T) (hu : ∀ p ∈ T, p.1 = P → p.2 = X.env.qual ++ "<lambda>") (hr : Room (k + 2) X.A) (L : LamS X.env.scope scope) (hdef : defaultsOf params X.env = ([], []))
    (hbind : ∀ (q : Str) (cl : List (Str × Addr)) (pm cv ctv : Value), bindArgs (PySem.W.kla_fn "<lambda>" q params body scope cl pm cv ctv) ⟨[], []⟩ = pure [])
    (hbody : ∀ (A : Around) (outer : List Env) (s : Shared) (H : Hp) (E : XK) (f c' : Addr), Room k (A.deeper (lamEnv X scope s.heap.objs.size f c')) → PE (lamCxN X A outer s H E scope f c') body (t E))
    (hdb : (x == ("__debug__" : Str)) = false := by decide) (hd : (a == ("__debug__" : Str)) = false := by decide) (hcd : (a == ("__classdict__" : Str)) = false := by decide) :
    PE X (.Call (.Name x p) [.Lambda params body scope lpos] [] pos) (tLamN T TT t E) := by
  refine ⟨fun pins s σ H Q I h => ?_⟩
  obtain ⟨hT, h⟩ := h
  refine wpAny_Call_Name_kw (ld_glob I hg hm ?_ hdb)
  refine PySem.W.callWith_K (h₀ := X.base) I.ok.mod.kin hk ?_ (by rfl) (by rfl)
  show wpAny _ _ (spliced ((false, eval (.Lambda params body scope lpos) X.env) :: backTo pos (starEach [] X.env))) _ _ s
  refine Calls.spliced_cons (lam_makeA I TB hcode hmT hu hT hdef (L.has I.ok) fun f c' pm' ctv H1 s' I1 eN al T1 hf hfn hfr hco => ?_)
  refine Calls.spliced_nil ⟨I1.kIn, ?_⟩
  have rc : codeAny (model X.prog X.w) X.A (.call (.ref g) ⟨[.ref f], []⟩) (CR (L2N.CX X.prog X.w) X.stack X.prog X.w H1 s' Q E) s' := by
    refine run_ofS (N := Ng) (ps := [a]) (us := [.ref f]) (vs := [.ref f]) lk hcg Sg hr I1.env0 (hb s' [.ref f] I1.kIn rfl) (.cons rfl .nil) rfl fun hr' => ?_
    obtain ⟨t', ht', hq'⟩ := hG f c' s' H1 Q E (fun El H' Q' => t El σ H' Q') hr' (fun W pn xe El p1 p2 tk hW => pe_actN (i := 0) I1 L hf hfn hfr (hbind _ _ _ _ _) tk hW hr' (fun A outer s H hr2 => hbody A outer s H El f c' hr2) hNg hva hd hcd) hco (h H1 eN al T1)
    exact ⟨t', ht', hq'⟩
  refine wpAny_call (codeAny_mono rc fun r s2 hq => ?_)
  cases r with
  | error e => exact hx pins σ H1 s' e s2 I1 hq
  | ok fl =>
    cases fl with
    | ret u => exact I1.after hq
    | next => exact False.elim hq
    | brk => exact False.elim hq
    | cont => exact False.elim hq
end HL

set_option maxHeartbeats 4000000
/-! HZe: `_law_error(call)`: what it makes of a lambda's reading. -/
namespace HL
open PySem PySem.Spec PyProof.Rows HotX L2 LamX L2H
abbrev EZ : XK := fun _ _ _ => False
/-- try: call() / except PageError as e: return named(e) / return '' -/
def TTerr (K : PySem.W.Frag) (CS : Addr) (Gd : Addr → Prop) (spN : Addr → Addr → Sp) : (XK → Hp → VK → Prop) → XK → Hp → VK → Prop := fun tl E H Q =>
  tl (fun cls d H' => ∃ b, PySem.W.exmOne K cls (.ref CS) = some b ∧ (b = true → ∃ D, cls = .ref D ∧ d = none ∧ Gd D ∧ ∀ a, H' a = none → spN D a [.ref a] H' Q EZ) ∧ (b = false → E cls d H')) H (fun _ H' => Q (.str "") H')
theorem passAtN {X : Cx} {σ : L2.St} : PassesAt (L2N.CX X.prog X.w) X σ EZ := fun _ _ _ _ _ _ h => by
  obtain ⟨_, _, _, _, _, _, _, _, _, _, _, _, z⟩ := h
  exact z.elim
theorem roomH_mark {k : Nat} {A : Around} (r : RoomH k A) (v : Option Value) : RoomH k (A.mark v) := ⟨r.dp, r.un⟩
section
variable {X : Cx}
theorem err_gives {k kn : Nat} {x q : Str} {sg : Scope} {g CS fn : Addr} {cdg : Value} {fdn : FuncData} {psn : List Str} {Gd : Addr → Prop} {spN : Addr → Addr → Sp} {j : Nat} {p1 p2 p3 p4 p5 p6 p7 p8 p9 p10 p11 p12 : Pos}
    (hF : ∀ (p : Addr × Obj) (D : Addr), Gd D → L2N.Zn (.ref D) none p.2 → (∃ vs, p.2.data = .fields vs) → HZ.FnP X.prog X.w X.K X.mg X.base (L2N.CX X.prog X.w) kn fn fdn psn p (spN D p.1)) (hk : kn ≤ k)
    (hmn : X.mg "_law_named_error" = some (.ref fn)) (hkn : PySem.W.keepIn X.K (.ref fn) = true) (hbn : L2.Binds X.K fdn psn [])
    (hme : X.mg "PageError" = some (.ref CS)) (hge : sg.names.lookup ("PageError" : Str) = some .globalImplicit) (hgn : sg.names.lookup ("_law_named_error" : Str) = some .globalImplicit) (hle : sg.names.lookup ("e" : Str) = some .local) (hke : ∀ (s : Shared), (envOfC x sg s.heap.objs.size g cdg).kindOf "e" = some .local) (h0 : ∀ f : Addr, (L2.start ["call", "e"] [V.ref f])[0]? = some (some (V.ref f))) :
    GivesN X k ["call", "e"] x sg g cdg
      [.Try [.Expr (.Call (.Name "call" p1) [] [] p2) p3] [.ExceptHandler (some (.Name "PageError" p4)) (some "e") [.Return (some (.Call (.Name "_law_named_error" p5) [.Name "e" p6] [] p7)) p8] p9] [] [] p10,
       .Return (some (.Constant (.str "") j p11)) p12] "call" q (TTerr X.K CS Gd spN) := by
  intro f c' s H Q E tl hr act hc h
  have hgl : Gl (cxOf (L2N.CX X.prog X.w) X.prog X.w X.K X.mg X.base ["call", "e"] x sg g cdg X.A X.stack s H E) "PageError" := hge
  refine ⟨_, pss_cons (L2N.ps_try_as (X := cxOf (L2N.CX X.prog X.w) X.prog X.w X.K X.mg X.base ["call", "e"] x sg g cdg X.A X.stack s H E) (c := .ref CS) (i := 1) (n := "e")
      (tb := fun W D σ H => ∃ Ech : XK, (∀ cls d σ' H', Ech cls d H' → W cls d σ' H') ∧ σ[0]? = some (some (.ref f)) ∧ H c' = some (CodeO c' q) ∧ tl Ech H (fun _ H' => D.nx σ H'))
      (ts := fun a cls d D σ H => ∃ Dc, cls = .ref Dc ∧ d = none ∧ Gd Dc ∧ (∃ σ' : L2.St, σ = σ'.set 1 (some (.ref a))) ∧ spN Dc a [.ref a] H D.rt EZ)
      (Wout := fun cls d _ H' => E cls d H')
      rfl rfl (show (["call", "e"] : List Str).Nodup by decide) rfl (hke s) ⟨hgl, by decide, .inl hme⟩ (L2N.takes_of rfl rfl rfl rfl) (fun W pn xe tk _ => ?_) (fun a oe cls d pn hz hf => ?_)) (pss_one (ps_ret pe_str)), ?_⟩
  · refine ⟨fun pins s' σ H' D I h' => ?_⟩
    obtain ⟨Ech, hW, h1, h2, h3⟩ := h'
    have hp := act W pn xe Ech p1 p2 tk hW
    have hq := pss_one (ps_expr (pos := p3) hp)
    exact hq.run pins s' σ H' D I ⟨h1, h2, h3⟩
  · refine ⟨fun pins s' σ0 H' D I h' => ?_⟩
    obtain ⟨Dc, rfl, rfl, gd, ⟨σ', rfl⟩, e2⟩ := h'
    have hl : (σ'.set 1 (some (V.ref a))).length = 2 := I.len
    have e1 : (σ'.set 1 (some (V.ref a)))[1]? = some (some (V.ref a)) := by
      rw [List.length_set] at hl
      rw [List.getElem?_set_self (by omega)]
    obtain ⟨vs, ev⟩ := hf
    have hot : Hot1 (((cxOf (L2N.CX X.prog X.w) X.prog X.w X.K X.mg X.base ["call", "e"] x sg g cdg X.A X.stack s H E).suite a ((a, oe) :: pn)).A) (a, oe) := ⟨rfl, vs, ev, hz.2.2 vs ev⟩
    have F := hF (a, oe) Dc gd hz ⟨vs, ev⟩
    have hcall := HZ.pe_callP (X := (cxOf (L2N.CX X.prog X.w) X.prog X.w X.K X.mg X.base ["call", "e"] x sg g cdg X.A X.stack s H E).suite a ((a, oe) :: pn)) (x := "_law_named_error") (q := p5) (pos := p7) (E := EZ) F (roomH_mark ((roomH_of hr).mono hk) _) hot (List.mem_cons_self) hgn hmn hkn hbn (fun σ => passAtN) (pa_cons (pe_var (pos := p6) (i := 1) (x := "e") rfl (.inl hle)) pa_nil)
    have hq := pss_one (ps_ret (pos := p8) hcall)
    exact hq.run pins s' _ H' D I ⟨.ref a, e1, e2⟩
  · refine ⟨fun cls d H' => ∃ b, PySem.W.exmOne X.K cls (.ref CS) = some b ∧ (b = true → ∃ D, cls = .ref D ∧ d = none ∧ Gd D ∧ ∀ a, H' a = none → spN D a [.ref a] H' Q EZ) ∧ (b = false → E cls d H'), fun cls d σ' H' ⟨b, e1, e2, e3⟩ => ⟨b, e1, fun hb a ha => ?_, e3⟩, h0 f, hc, h⟩
    obtain ⟨Dc, rfl, rfl, gd, k2⟩ := e2 hb
    exact ⟨Dc, rfl, rfl, gd, ⟨σ', rfl⟩, k2 a ha⟩
end
end HL

set_option maxHeartbeats 4000000
/-! DLj: `_law_error(lambda: e)` on data. -/
namespace DL
open PySem PySem.Spec PyProof.Rows L2 LamX
/-- the frame's own things out of sight -/
def hide (ρ : Rho) : Rho := ρ.map fun s => match s with
  | .mu _ => .un
  | s => s
theorem hide_get {ρ : Rho} {i : Nat} {s : Sl} (h : (hide ρ)[i]? = some s) : (s = .un ∨ ρ[i]? = some s) ∧ isMu (some s) = false := by
  unfold hide at h
  rw [List.getElem?_map] at h
  obtain ⟨t, e1, e2⟩ := Option.map_eq_some_iff.mp h
  subst e2
  cases t with
  | mu m => exact ⟨.inl rfl, rfl⟩
  | un => exact ⟨.inl rfl, rfl⟩
  | da d => exact ⟨.inr e1, rfl⟩
  | px a => exact ⟨.inr e1, rfl⟩
theorem hide_mu {ρ : Rho} {σ : L2.St} {a : Addr} (h : Mu (hide ρ) σ a) : False := by
  obtain ⟨i, m, e1, _⟩ := h
  exact nomatch (hide_get e1).2
section
variable {K : Frag} {T : List (Addr × Str)} {n : Nat} {ρ : Rho} {σ : L2.St} {G H G' H' : Hp}
theorem Rel.hide (R : Rel K T G ρ σ H) : Rel K T G (hide ρ) σ H := by
  refine ⟨R.wf, by rw [R.len]; unfold DL.hide; rw [List.length_map], fun i s o e1 e2 => ?_, fun i j m m' p e1 _ _ _ => nomatch (hide_get e1).2⟩
  rcases (hide_get e1).1 with e | e
  · subst e; trivial
  · exact R.sl i s o e e2
/-- where nothing of the frame's own was in sight, all is as it was -/
theorem Rel.after (R : Rel K T G ρ σ H) (e : Ext T (fun _ => False) G H G' H') : Stp K T n ρ σ G H ρ σ G' H' := by
  refine ⟨R.grow e.wf e.sG fun a ha => ?_, e.mono fun _ z => z.elim, fun _ h => .inl h, fun _ m' _ e1 => ⟨⟨m', e1⟩, rfl⟩⟩
  have h1 := R.muFree ha
  have h2 := R.muSome ha
  refine ⟨e.fr a h1 (R.muOw ha) id, ?_⟩
  obtain ⟨i, m, e1, e2⟩ := ha
  obtain ⟨p, e3, hm⟩ := R.sl i _ _ e1 e2
  cases e3
  cases m with
  | lst ds => obtain ⟨_, vs, k, _⟩ := hm; rw [k]; exact e.sH _ _ k id fun _ z => nomatch z
  | dct ks ds => obtain ⟨_, vs, k, _⟩ := hm; rw [k]; exact e.sH _ _ k id fun _ z => nomatch z
  | ins C fs => obtain ⟨_, dx, vs, k, _⟩ := hm; rw [k]; exact e.sH _ _ k id fun _ z => nomatch z
theorem ext_lam {H1 : Hp} (w : Wf T G H) (e : ExtN H H1) (al : ∀ a, H a ≠ none → H1 a ≠ none) (t : Tabs T H1) : Ext T (fun _ => False) G H G H1 :=
  ⟨⟨fun a o h => e a o (w.same a o h) fun ps z => w.ntb a ps (by rw [h, z]), t, w.ntb⟩, Same.refl _, fun a o h _ nt => e a o h nt, fun _ h _ _ => h, al⟩
end
/-- what `_law_error` makes of a lambda's body: the word of the error, or none; nm: each error's word, where it is caught -/
def errF (nm : Xc → Option Str) (fe : FE) : FE := fun ρ => match fe (hide ρ) with
  | .ok _ => .ok (.str "", ρ)
  | .er x => match nm x with
    | some w => .ok (.str w, ρ)
    | none => .er x
  | .no => .no
/-- the reading of the call, from that of the body -/
theorem err_data {c : Dc} {K : Frag} {CS : Addr} {Gd : Addr → Prop} {nf : Addr → Addr → FD} {nm : Xc → Option Str} {fe : FE} {ρ : Rho} {σ : L2.St} {G H : Hp} {Q : VK} (R : Rel K c.T G ρ σ H)
    (hyes : ∀ x w, nm x = some w → PySem.W.exmOne K (.ref (c.cl x)) (.ref CS) = some true ∧ Gd (c.cl x) ∧ ∀ a, ∃ ρ2, nf (c.cl x) a [.px a] = .ok (.da (.str w), ρ2))
    (hno : ∀ x, nm x = none → PySem.W.exmOne K (.ref (c.cl x)) (.ref CS) = some false)
    (h : Sat c (Mu ρ σ) G H (errF nm fe ρ) fun r => ∀ v G' H', Stp K c.T c.n ρ σ G H r.2 σ G' H' → Dq K G' v r.1 → Q v H') :
    HL.tLamN c.T (HL.TTerr K CS Gd fun D a => spD K c.T c.cl (nf D a)) (fun El => tE { c with E := El } K fe) c.E σ H Q := by
  refine ⟨R.wf.tabs, fun H1 eN al t1 => ?_⟩
  have E1 : Ext c.T (fun _ => False) G H G H1 := ext_lam R.wf eN al t1
  have R1 : Rel K c.T G (hide ρ) σ H1 := (R.hide.after (n := c.n) E1).rel
  have fin : ∀ (w : Str) (G' H' : Hp), (∀ v G' H', Stp K c.T c.n ρ σ G H ρ σ G' H' → Dq K G' v (.str w) → Q v H') → Ext c.T (Mu (hide ρ) σ) G H1 G' H' → ∀ v G2 H2, Ext c.T (fun _ => False) G' H' G2 H2 → Dq K G2 v (.str w) → Q v H2 := fun w G' H' k e v G2 H2 e2 d =>
    k v G2 H2 (R.after ((E1.trans e fun a ha => (hide_mu ha).elim).trans e2 fun _ z => z.elim)) d
  refine ⟨hide ρ, G, R1, ?_⟩
  unfold errF at h
  cases hf : fe (hide ρ) with
  | no => rw [hf] at h; exact h.elim
  | ok r =>
    rw [hf] at h
    exact fun v G' H' S d => fin "" G' H' h S.ext (.str "") G' H' (.refl S.rel.wf) (.str _)
  | er x =>
    rw [hf] at h
    intro G' H' e
    cases hn : nm x with
    | none =>
      simp only [hn] at h
      exact ⟨false, hno x hn, fun z => (nomatch z), fun _ => h G' H' ((E1.trans e fun a ha => (hide_mu ha).elim).mono fun _ z => z.elim)⟩
    | some w =>
      simp only [hn] at h
      obtain ⟨k1, k2, k3⟩ := hyes x w hn
      refine ⟨true, k1, fun _ => ⟨c.cl x, rfl, rfl, k2, fun a ha => ?_⟩, fun z => nomatch z⟩
      obtain ⟨ρ2, k4⟩ := k3 a
      refine ⟨G', [.px a], ⟨e.wf, rfl, fun i s o e1 e2 => ?_, fun i j m m' p e1 _ _ _ => ?_⟩, ?_⟩
      · cases i with
        | zero => cases e1; cases e2; rfl
        | succ i => cases e1
      · cases i with
        | zero => cases e1
        | succ i => cases e1
      · rw [k4]
        intro v G2 H2 e2 _ d
        exact fin w G' H' h e v G2 H2 (e2.mono fun a ⟨i, m, q, _⟩ => by
          cases i with
          | zero => cases q
          | succ i => cases q) d
/-- _law_error(lambda: e) -/
theorem de_lawerr {c : Dc} {X : Cx} {CS : Addr} {Gd : Addr → Prop} {nf : Addr → Addr → FD} {nm : Xc → Option Str} {fe : FE} {x a : Str} {g cc P : Addr} {k : Nat} {pg : Arguments} {bg : List Stmt} {sg : Scope} {dV kV doc pm cdv ct oc : Value} {an od : Option Addr} {osl : Array (Option Value)} {Ng : List Str}
    {params : Arguments} {body : Expr} {scope : Scope} {p lpos pos : Pos}
    (hyes : ∀ x w, nm x = some w → PySem.W.exmOne X.K (.ref (c.cl x)) (.ref CS) = some true ∧ Gd (c.cl x) ∧ ∀ a, ∃ ρ2, nf (c.cl x) a [.px a] = .ok (.da (.str w), ρ2))
    (hno : ∀ x, nm x = none → PySem.W.exmOne X.K (.ref (c.cl x)) (.ref CS) = some false)
    (hg : Gl X x) (hm : X.mg x = some (.ref g)) (hk : PySem.W.keepIn X.K (.ref g) = true)
    (lk : X.K.lookup g = some ⟨oc, od, .func (PySem.W.fnOf x x pg bg sg dV kV doc pm an cdv ct), osl⟩) (hcg : PySem.W.codeIn X.K cdv x = true) (hb : L2.Binds X.K (PySem.W.fnOf x x pg bg sg dV kV doc pm an cdv ct) [a] []) (Sg : FnScope Ng [a] sg) (hNg : Ng[0]? = some a) (hva : Vis sg a)
    (hG : HL.GivesN X (k + 1) Ng x sg g cdv bg a (X.env.qual ++ "<lambda>") (HL.TTerr X.K CS Gd fun D a => spD X.K c.T c.cl (nf D a))) (hx : Passes (L2N.CX X.prog X.w) X c.E)
    (TB : TabB X.base X.mg cc P) (hcode : X.env.code = .ref cc) (hmT : (P, X.env.qual ++ "<lambda>") ∈ c.T) (hu : ∀ p ∈ c.T, p.1 = P → p.2 = X.env.qual ++ "<lambda>") (hr : Room (k + 2) X.A) (L : LamS X.env.scope scope) (hdef : defaultsOf params X.env = ([], []))
    (hbind : ∀ (q : Str) (cl : List (Str × Addr)) (pm cv ctv : Value), bindArgs (PySem.W.kla_fn "<lambda>" q params body scope cl pm cv ctv) ⟨[], []⟩ = pure [])
    (hbody : ∀ (A : Around) (outer : List Env) (s : Shared) (H : Hp) (E : XK) (f c' : Addr), Room k (A.deeper (lamEnv X scope s.heap.objs.size f c')) → DE { c with E := E } (HL.lamCxN X A outer s H E scope f c') body fe)
    (hdb : (x == ("__debug__" : Str)) = false := by decide) (hd : (a == ("__debug__" : Str)) = false := by decide) (hcd : (a == ("__classdict__" : Str)) = false := by decide) :
    DE c X (.Call (.Name x p) [.Lambda params body scope lpos] [] pos) (errF nm fe) :=
  DE.mk ⟨_, HL.pe_lamcallN (t := fun El => tE { c with E := El } X.K fe) hg hm hk lk hcg hb Sg hNg hva hG hx TB hcode hmT hu hr L hdef hbind hbody hdb hd hcd, fun ρ σ G H Q R h => err_data R hyes hno h⟩
end DL

set_option maxHeartbeats 4000000
/-! DLk: the classes of errors, `_law_error(lambda: e)` from the defs' own facts. -/
namespace DL
open PySem PySem.Spec PyProof.Rows L2 LamX L2H
def xname : Xc → Str
  | .doc => "InvalidDocument"
  | .rules => "InvalidRules"
  | .size => "InvalidSize"
  | .part => "InvalidPart"
  | .facts => "InvalidFacts"
  | .text => "InvalidText"
  | .none => "NoSize"
  | .undo => "NothingToUndo"
  | .typ => "PageError"
/-- the word that `_law_named_error` makes of an error -/
def xword : Xc → Str
  | .doc => "document value"
  | .rules => "rules value"
  | .size => "size value"
  | .part => "part value"
  | .facts => "facts value"
  | .text => "text value"
  | .none => "none value"
  | .undo => "undo value"
  | .typ => "value"
def xcs : List Xc := [.doc, .rules, .size, .part, .facts, .text, .none, .undo, .typ]
theorem mem_xcs (x : Xc) : x ∈ xcs := by cases x <;> decide
structure ErrK (K : Frag) (mg : Str → Option Value) (cl : Xc → Addr) : Prop where
  g : ∀ x, mg (xname x) = some (.ref (cl x))
  kit : ∀ x y, y ≠ .typ → PySem.W.kitOne K (.ref (cl x)) (.ref (cl y)) = some (decide (x = y))
  kiv : ∀ x, PySem.W.kitOne K (.ref (cl x)) (.type "ValueError") = some true
  exm : ∀ x, PySem.W.exmOne K (.ref (cl x)) (.ref (cl .typ)) = some true
  exc : ∀ x, ExcC K (cl x)
def excB (K : Frag) (D : Addr) : Bool :=
  decide (PySem.W.findIn K (.ref D) "__getattribute__" = some (some (.builtin "BaseException.__getattribute__"))) && (decide (PySem.W.findIn K (.ref D) "__getattr__" = some none) && (decide (PySem.W.subIn K (.ref D) (.type "BaseException") = some true) && (PySem.W.hasDictIn K D && (decide (PySem.W.findIn K (.ref D) "__class__" = some (some (.builtin "object.__class__"))) &&
    (decide (PySem.W.specialIn K (.builtin "object.__class__") "__get__" = some (some (.builtin "getset_descriptor.__get__"))) && (decide (PySem.W.takesIn K (.builtin "object.__class__") = some true) && decide (PySem.W.mroIn K D (.type "object") = some true)))))))
theorem excB_ok {K : Frag} {D : Addr} (h : excB K D = true) : ExcC K D := by
  unfold excB at h
  simp only [Bool.and_eq_true, decide_eq_true_eq] at h
  obtain ⟨h1, h2, h3, h4, h5, h6, h7, h8⟩ := h
  exact ⟨h1, h2, h3, h4, h5, h6, h7, h8⟩
def errB (K : Frag) (cl : Xc → Addr) : Bool := xcs.all fun x => excB K (cl x) && (decide (PySem.W.exmOne K (.ref (cl x)) (.ref (cl .typ)) = some true) && (decide (PySem.W.kitOne K (.ref (cl x)) (.type "ValueError") = some true) && xcs.all fun y => decide (y = .typ) || decide (PySem.W.kitOne K (.ref (cl x)) (.ref (cl y)) = some (decide (x = y)))))
theorem errB_ok {K : Frag} {mg : Str → Option Value} {cl : Xc → Addr} (h : errB K cl = true) (g : ∀ x, mg (xname x) = some (.ref (cl x))) : ErrK K mg cl := by
  have key := fun x => List.all_eq_true.mp h x (mem_xcs x)
  simp only [Bool.and_eq_true, decide_eq_true_eq] at key
  refine ⟨g, fun x y hy => ?_, fun x => (key x).2.2.1, fun x => (key x).2.1, fun x => excB_ok (key x).1⟩
  have k := List.all_eq_true.mp (key x).2.2.2 y (mem_xcs y)
  simp only [Bool.or_eq_true, decide_eq_true_eq] at k
  exact k.resolve_left hy
/-- what `isinstance(e, C)` answers where e is of the class D -/
def kb (K : Frag) (cl : Xc → Addr) (D : Addr) (y : Xc) : Bool := decide (PySem.W.kitOne K (.ref D) (.ref (cl y)) = some true)
theorem kb_eq {K : Frag} {mg : Str → Option Value} {cl : Xc → Addr} (EK : ErrK K mg cl) {x y : Xc} (hy : y ≠ .typ) : kb K cl (cl x) y = decide (x = y) := by
  unfold kb
  rw [EK.kit x y hy]
  cases decide (x = y) <;> decide
theorem kb_kit {K : Frag} {mg : Str → Option Value} {cl : Xc → Addr} (EK : ErrK K mg cl) {x y : Xc} (hy : y ≠ .typ) : PySem.W.kitOne K (.ref (cl x)) (.ref (cl y)) = some (kb K cl (cl x) y) := by
  rw [kb_eq EK hy]
  exact EK.kit x y hy
/-- isinstance(e, C), C an own class -/
theorem de_isO {c : Dc} {X : Cx} {p : Addr × Obj} {x y : Xc} {i : Nat} {e : Expr} {nm : Str} {q1 q2 pos : Pos} (EK : ErrK X.K X.mg c.cl) (hy : y ≠ .typ) (hn : nm = xname y) (hp : p ∈ X.pn) (hz : L2N.Zn (.ref (c.cl x)) none p.2) (hf : ∃ vs, p.2.data = .fields vs) (hm : X.mg "isinstance" = none) (hv : PE X e (tVar i))
    (hg : Gl X "isinstance" := by rfl) (hgn : Gl X nm := by rfl) (hdb : (nm == ("__debug__" : Str)) = false := by decide) (hs : starEach [e, .Name nm q2] X.env = (false, eval e X.env) :: starEach [.Name nm q2] X.env := by rfl) (hs2 : starEach [.Name nm q2] X.env = (false, eval (.Name nm q2) X.env) :: starEach [] X.env := by rfl) (hpl : (backTo pos (starEach [.Name nm q2] X.env)).any (·.1) = false := by rfl) :
    DE c X (.Call (.Name "isinstance" q1) [e, .Name nm q2] [] pos) (isPx p.1 i (kb X.K c.cl (c.cl x) y)) := by
  subst hn
  obtain ⟨pa, oe⟩ := p
  exact de_isE (EK.exc x) hp hz.zc hf hm hv (pe_glob hgn (EK.g y) (v := .ref (c.cl y)) rfl hdb) (fun u r => r) (kb_kit EK hy) hg hs hs2 hpl
/-- isinstance(e, ValueError) -/
theorem de_isV {c : Dc} {X : Cx} {p : Addr × Obj} {x : Xc} {i : Nat} {e : Expr} {q1 q2 pos : Pos} (EK : ErrK X.K X.mg c.cl) (hp : p ∈ X.pn) (hz : L2N.Zn (.ref (c.cl x)) none p.2) (hf : ∃ vs, p.2.data = .fields vs) (hm : X.mg "isinstance" = none) (hmv : X.mg "ValueError" = none) (hv : PE X e (tVar i))
    (hg : Gl X "isinstance" := by rfl) (hgn : Gl X "ValueError" := by rfl) (hs : starEach [e, .Name "ValueError" q2] X.env = (false, eval e X.env) :: starEach [.Name "ValueError" q2] X.env := by rfl) (hs2 : starEach [.Name "ValueError" q2] X.env = (false, eval (.Name "ValueError" q2) X.env) :: starEach [] X.env := by rfl) (hpl : (backTo pos (starEach [.Name "ValueError" q2] X.env)).any (·.1) = false := by rfl) :
    DE c X (.Call (.Name "isinstance" q1) [e, .Name "ValueError" q2] [] pos) (isPx p.1 i true) := by
  obtain ⟨pa, oe⟩ := p
  exact de_isE (EK.exc x) hp hz.zc hf hm hv (pe_bltn (v := .ty "ValueError") hgn hmv (by decide +kernel) rfl (by decide) (by decide)) (fun u r => r) (EK.kiv x) hg hs hs2 hpl
section
variable {P : Program} {w : World} {K : Frag} {mg : Str → Option Value} {base : Heap} {T : List (Addr × Str)} {cl : Xc → Addr}
/-- THE RULE for a def that makes lambdas: its code object is known -/
theorem fn_dataL {x qual : Str} {st : Stmt} {f : Addr} {fd : FuncData} {N ps : List Str} {k : Nat} {body : FS} {cc : Addr} (F : Fun K x qual st f fd) (S : FnScope N ps (defScope st)) (hc : fd.code = .ref cc)
    (hb : ∀ (A : Around) (outer : List Env) (s : Shared) (H : Hp) (E : XK), Room k (A.deeper (envOfC qual (defScope st) s.heap.objs.size f (.ref cc))) →
      DSs ⟨T, cl, E, ps.length⟩ (cxOf (L2N.CX P w) P w K mg base N qual (defScope st) f (.ref cc) A outer s H E) (defBody st) body) :
    FnOk P w K mg base (L2N.CX P w) (k + 1) f fd ps (spD K T cl (defF ps.length N.length body)) := by
  have hpl : ps.length ≤ N.length := by have := congrArg List.length S.pre; rw [List.length_take] at this; omega
  obtain ⟨_, _, _, _, _, _, cdv, _, _, rfl, lk, hcd⟩ := F.ex
  obtain rfl : cdv = .ref cc := hc
  exact fn_of lk hcd S (fun vs H Q E h => def_len h) fun A outer s H vs Q E hr h => ⟨_, hb A outer s H E hr, def_read hpl h⟩
end
/-- what `_law_error` needs of the text: itself and `_law_named_error` -/
structure LErr (P : Program) (w : World) (K : Frag) (mg : Str → Option Value) (base : Heap) (T : List (Addr × Str)) (cl : Xc → Addr) (kn : Nat) (st : Stmt) where
  EK : ErrK K mg cl
  nf : Addr → Addr → FD
  fn : Addr
  fdn : FuncData
  psn : List Str
  hF : ∀ (p : Addr × Obj) (x : Xc), L2N.Zn (.ref (cl x)) none p.2 → (∃ vs, p.2.data = .fields vs) → HZ.FnP P w K mg base (L2N.CX P w) kn fn fdn psn p (spD K T cl (nf (cl x) p.1))
  hw : ∀ x a, ∃ ρ2, nf (cl x) a [.px a] = .ok (.da (.str (xword x)), ρ2)
  hmn : mg "_law_named_error" = some (.ref fn)
  hkn : PySem.W.keepIn K (.ref fn) = true
  hbn : L2.Binds K fdn psn []
  g : Addr
  fdg : FuncData
  F : Fun K "_law_error" "_law_error" st g fdg
  hm : mg "_law_error" = some (.ref g)
  hb : L2.Binds K fdg ["call"] []
theorem de_lawerrF {c : Dc} {X : Cx} {kn k : Nat} {st : Stmt} {fe : FE} {cc Pt : Addr} {params : Arguments} {body : Expr} {scope : Scope} {j : Nat} {p1 p2 p3 p4 p5 p6 p7 p8 p9 p10 p11 p12 p lpos pos : Pos}
    (L : LErr X.prog X.w X.K X.mg X.base c.T c.cl kn st)
    (hst : defBody st = [.Try [.Expr (.Call (.Name "call" p1) [] [] p2) p3] [.ExceptHandler (some (.Name "PageError" p4)) (some "e") [.Return (some (.Call (.Name "_law_named_error" p5) [.Name "e" p6] [] p7)) p8] p9] [] [] p10,
       .Return (some (.Constant (.str "") j p11)) p12])
    (Sg : FnScope ["call", "e"] ["call"] (defScope st)) (hva : Vis (defScope st) "call")
    (hge : (defScope st).names.lookup ("PageError" : Str) = some .globalImplicit) (hgn : (defScope st).names.lookup ("_law_named_error" : Str) = some .globalImplicit) (hle : (defScope st).names.lookup ("e" : Str) = some .local)
    (hke : ∀ (n f : Addr) (cd : Value), (envOfC "_law_error" (defScope st) n f cd).kindOf "e" = some .local)
    (hk : kn ≤ k + 1) (hg : Gl X "_law_error") (hx : Passes (L2N.CX X.prog X.w) X c.E)
    (TB : TabB X.base X.mg cc Pt) (hcode : X.env.code = .ref cc) (hmT : (Pt, X.env.qual ++ "<lambda>") ∈ c.T) (hu : ∀ p ∈ c.T, p.1 = Pt → p.2 = X.env.qual ++ "<lambda>") (hr : Room (k + 2) X.A) (LS : LamS X.env.scope scope) (hdef : defaultsOf params X.env = ([], []))
    (hbind : ∀ (q : Str) (cl : List (Str × Addr)) (pm cv ctv : Value), bindArgs (PySem.W.kla_fn "<lambda>" q params body scope cl pm cv ctv) ⟨[], []⟩ = pure [])
    (hbody : ∀ (A : Around) (outer : List Env) (s : Shared) (H : Hp) (E : XK) (f c' : Addr), Room k (A.deeper (lamEnv X scope s.heap.objs.size f c')) → DE { c with E := E } (HL.lamCxN X A outer s H E scope f c') body fe) :
    DE c X (.Call (.Name "_law_error" p) [.Lambda params body scope lpos] [] pos) (errF (fun x => some (xword x)) fe) := by
  obtain ⟨EK, nf, fn, fdn, psn, hF, hw, hmn, hkn, hbn, g, fdg, F, hm, hb⟩ := L
  obtain ⟨oc, od, kV, doc, pm, an, cdv, ct, osl, rfl, lk, hcd⟩ := F.ex
  rw [hst] at lk hb
  refine de_lawerr (Gd := fun D => ∃ x, D = c.cl x) (nf := nf) (CS := c.cl .typ) (a := "call") (fun x w h => ?_) (fun x h => by cases h) hg hm F.kp lk hcd hb Sg rfl hva ?_ hx TB hcode hmT hu hr LS hdef hbind hbody
  · cases h
    exact ⟨EK.exm x, ⟨x, rfl⟩, fun a => hw x a⟩
  · exact HL.err_gives (fun p D ⟨x, e⟩ hz hf => by subst e; exact hF p x hz hf) hk hmn hkn hbn (EK.g .typ) hge hgn hle (fun s => hke _ _ _) (fun f => rfl)
end DL

set_option maxHeartbeats 4000000
/-! DLl: `_law_named_error` on data: the word of each error. -/
namespace DL
open PySem PySem.Spec PyProof.Rows L2
def b_ne (kk : Xc → Bool) (a : Addr) : FS := (seqS (asgS (lstE (consA (isPx a 0 (kk .doc)) (consA (isPx a 0 (kk .rules)) (consA (isPx a 0 (kk .size)) nilA)))) (nameG 1))
  (seqS (asgS (binE addD (varE 1) (lstE (consA (isPx a 0 (kk .part)) (consA (isPx a 0 (kk .facts)) (consA (isPx a 0 (kk .text)) nilA))))) (nameG 1))
  (seqS (asgS (binE addD (varE 1) (lstE (consA (isPx a 0 (kk .none)) (consA (isPx a 0 (kk .undo)) (consA (isPx a 0 true) nilA))))) (nameG 1))
  (seqS (asgS (retE (.str (PySem.Str.ofString "document rules size part facts text none undo value"))) (nameG 2))
  (retS (mt1E joinD (retE (.str (PySem.Str.ofString " "))) (lcE (iterZH (consA (mt1E splitD (varE 2) (retE (.str (PySem.Str.ofString " ")))) (consA (varE 1) nilA))) (tupG 2 (consG (nameG 3) (consG (nameG 4) nilG))) (tstB (varE 4)) (varE 3) [3, 4])))))))
def f_ne (kk : Xc → Bool) (a : Addr) : FD := defF 1 5 (b_ne kk a)
theorem isPx_self {a : Addr} {k : Bool} {ρ : Rho} : isPx a 0 k (.px a :: ρ) = .ok (.bl k, .px a :: ρ) := if_pos rfl
def restNe : FS := (seqS (asgS (retE (.str (PySem.Str.ofString "document rules size part facts text none undo value"))) (nameG 2))
  (retS (mt1E joinD (retE (.str (PySem.Str.ofString " "))) (lcE (iterZH (consA (mt1E splitD (varE 2) (retE (.str (PySem.Str.ofString " ")))) (consA (varE 1) nilA))) (tupG 2 (consG (nameG 3) (consG (nameG 4) nilG))) (tstB (varE 4)) (varE 3) [3, 4]))))
theorem ne_first (kk : Xc → Bool) (a : Addr) : b_ne kk a [.px a, .un, .un, .un, .un] = restNe [.px a, .da (.lst [.bl (kk .doc), .bl (kk .rules), .bl (kk .size), .bl (kk .part), .bl (kk .facts), .bl (kk .text), .bl (kk .none), .bl (kk .undo), .bl true]), .un, .un, .un] := by
  unfold b_ne restNe
  simp only [seqS, asgS, lstE, consA, nilA, isPx_self, Rs.ok_bind, nameG, List.length_cons, List.length_nil, binE, varE, addD, Rs.ofO, List.set_cons_zero, List.set_cons_succ, List.getElem?_cons_zero, List.getElem?_cons_succ, List.cons_append, List.nil_append, sizeLine_eq, Nat.reduceAdd, Nat.reduceLeDiff, if_true]
theorem ne_word {K : Frag} {mg : Str → Option Value} {cl : Xc → Addr} (EK : ErrK K mg cl) (x : Xc) (a : Addr) : ∃ ρ2, f_ne (kb K cl (cl x)) a [.px a] = .ok (.da (.str (xword x)), ρ2) := by
  have e : f_ne (kb K cl (cl x)) a [.px a] = (restNe [.px a, .da (.lst [.bl (decide (x = .doc)), .bl (decide (x = .rules)), .bl (decide (x = .size)), .bl (decide (x = .part)), .bl (decide (x = .facts)), .bl (decide (x = .text)), .bl (decide (x = .none)), .bl (decide (x = .undo)), .bl true]), .un, .un, .un]).bind fun o => (Rs.ofO (backA [.px a] (outV o).2)).bind fun ρ2 => .ok ((outV o).1, ρ2) := by
    show (if (1 : Nat) = 1 then (b_ne (kb K cl (cl x)) a [.px a, .un, .un, .un, .un]).bind (fun o => (Rs.ofO (backA [.px a] (outV o).2)).bind fun ρ2 => .ok ((outV o).1, ρ2)) else .no) = _
    rw [if_pos rfl, ne_first, kb_eq EK (by decide), kb_eq EK (by decide), kb_eq EK (by decide), kb_eq EK (by decide), kb_eq EK (by decide), kb_eq EK (by decide), kb_eq EK (by decide), kb_eq EK (by decide)]
  refine ⟨[.px a], ?_⟩
  rw [e]
  cases x <;> kernel_rfl
/-- a table tells one name -/
theorem tab_uniq {T : List (Addr × Str)} (nd : (T.map (·.1)).Nodup) {P : Addr} {q : Str} (m : (P, q) ∈ T) : ∀ p ∈ T, p.1 = P → p.2 = q := by
  intro p hp e
  induction T with
  | nil => cases hp
  | cons t T ih =>
    have nd := List.nodup_cons.mp nd
    rcases List.mem_cons.mp m with m | m
    · rcases List.mem_cons.mp hp with h | h
      · rw [h, ← m]
      · exact absurd (List.mem_map.mpr ⟨p, h, by rw [e, ← m]⟩) nd.1
    · rcases List.mem_cons.mp hp with h | h
      · exact absurd (List.mem_map.mpr ⟨(P, q), m, by rw [← e, h]⟩) nd.1
      · exact ih nd.2 m h
end DL

set_option maxHeartbeats 4000000
/-! DLm: xs.index(y). -/
namespace DL
open PySem PySem.Spec PyProof.Rows L2
section
variable {c : Dc} {X : Cx} {a b e d : Expr} {es : List Expr} {fa fb fd f : FE} {ta tb tc : FB} {pos : Pos}
theorem pys_at {ds : List D} {j : Nat} : (D.pys ds)[j]? = (ds[j]?).map D.py := by
  induction ds generalizing j with
  | nil => simp [D.pys]
  | cons x r ih =>
    cases j with
    | zero => simp [D.pys]
    | succ j => simp [D.pys, ih]
/-- the first place of an equal one -/
def indexD (ds : List D) (y : D) : Option D := if y.fit = true ∧ (D.lst ds).fit = true then (ds.findIdx? fun z => PyData.eqv z.py y.py).map fun j => .int (j : Nat) else none
def indexE (fa fb : FE) : FE := fun ρ => (fa ρ).bind fun r => match r.1 with
  | .lst ds => (fb r.2).bind fun s => (Rs.ofO (indexD ds s.1)).bind fun z => .ok (z, s.2)
  | _ => .no
theorem de_index {apos : Pos} (hu : Hu X) (ha : DE c X a fa) (hb : DE c X b fb)
    (hbase : attributeBase a "index" X.env (eval a X.env) = eval a X.env := by rfl)
    (hfew : ((backTo pos (starEach (b :: []) X.env)).all (fun x => !x.1) && (backToKw pos (keywordEach [] X.env)).all (fun x => x.1.isSome)
      && decide ((b :: []).length + ([] : List Keyword).length + (if ([] : List Keyword).isEmpty then 0 else 1) < 30)) = true := by rfl)
    (hline : (apos.endLine == pos.line) = true := by rfl) (hs : starEach (b :: []) X.env = (false, eval b X.env) :: starEach [] X.env := by rfl) (hplain : (backTo pos (starEach [] X.env)).any (·.1) = false := by rfl) :
    DE c X (.Call (.Attribute a "index" apos) [b] [] pos) (indexE fa fb) := by
  obtain ⟨t1, p1, k1⟩ := ha.un
  obtain ⟨t2, p2, k2⟩ := hb.un
  have hu' : X.A.units + 200 < cLine := hu
  refine DE.mk ⟨_, pe_bm PySem.F.plainAttrs_list PySem.F.slot_list_index PySem.F.type_list_index (mt_indexD (by omega)) p1 (pa_cons p2 pa_nil hs) hbase hfew hline hs hplain, fun ρ σ G H Q R h => ?_⟩
  refine k1 ρ σ G H _ R (h.first.imp fun r1 h2 x G1 H1 S1 d1 => ?_)
  split at h2
  · rename_i ds e1
    rw [e1] at d1
    obtain ⟨p, vs, rfl, g, hv⟩ := dq_lst d1
    refine ⟨.inl ⟨rfl, _, .of (S1.rel.wf.same _ _ g)⟩, ?_⟩
    refine k2 r1.2 σ G1 H1 _ S1.rel (h2.first.on S1 fun r2 h3 y G2 H2 S2 d2 => ?_)
    obtain ⟨z, ez, k⟩ := h3.opt
    unfold indexD at ez
    split at ez
    · rename_i fs
      obtain ⟨j, ej, rfl⟩ := Option.map_eq_some_iff.mp ez
      rw [List.findIdx?_eq_some_iff_getElem] at ej
      obtain ⟨hj, he, hm⟩ := ej
      have R2 := S2.rel
      refine ⟨p, y, _, D.pys ds, j, ds[j].py, rfl, rfl, ?_, d2.dp R2.wf.same (D.fit_lay fs.1), fs.2, fs.1, ?_, he, ?_, k _ _ _ (S1.trans S2) (.int _)⟩
      · exact (d1.mono S2.ext.sG).dp R2.wf.same (D.fit_lay fs.2)
      · rw [pys_at, List.getElem?_eq_getElem hj]
        rfl
      · intro m z' hmj hz'
        rw [pys_at, List.getElem?_eq_getElem (by omega)] at hz'
        cases hz'
        simpa using hm m hmj
    · cases ez
  · exact h2.elim
/-- x, y = [], b: x the frame's own list, y data -/
def parFS (i j : Nat) (fb : FE) : FS := fun ρ => (fb ρ).bind fun r => .ok (.nx ((r.2.set i (.mu (.lst []))).set j (.da r.1)))
theorem ds_parF {i j : Nat} {x y : Str} {px py pt p0 : Pos} {kt k2 : Nat} {pt2 : Pos} (hc : X.calm = true) (hN : X.N.Nodup) (hi : X.N[i]? = some x) (hj : X.N[j]? = some y) (hij : i ≠ j) (hn : c.n ≤ i)
    (hx : X.env.scope.names.lookup x = some .local) (hy : X.env.scope.names.lookup y = some .local) (hb : DE c X b fb)
    (hw : swappedStores [.Tuple [.Name x px, .Name y py] kt pt] (.Tuple [.List [] p0, b] k2 pt2) X.env = pure (some [x, y]))
    (h1 : starEach [b] X.env = (false, eval b X.env) :: starEach [] X.env := by rfl)
    (h2 : starEach [.List [] p0, b] X.env = (false, eval (.List [] p0) X.env) :: starEach [b] X.env := by rfl)
    (hs : swapsWithSole [.Tuple [.Name x px, .Name y py] kt pt] (.Tuple [.List [] p0, b] k2 pt2) pos.line X.env = pure false := by rfl) :
    DS c X (.Assign [.Tuple [.Name x px, .Name y py] kt pt] (.Tuple [.List [] p0, b] k2 pt2) pos) (parFS i j fb) := by
  obtain ⟨t2, p2, k2⟩ := hb.un
  refine DS.mk ⟨_, ps_par hc hN hi hj hij hx hy (pa_cons (pe_lst pa_nil) (pa_cons p2 pa_nil h1) h2) hw hs, fun ρ σ G H D R h => ?_⟩
  refine ⟨Nat.zero_le _, fun l hl => ?_⟩
  have S1 := Stp.newF (n := c.n) (o := .lst []) R hl
  refine k2 ρ σ G _ _ S1.rel (h.first.on S1 fun r h3 v G2 H2 S2 d => ?_)
  have S := S1.trans S2
  have nm : ¬ Mu ρ σ l := fun z => R.muSome z hl
  have hS := S.setM (i := i) (m := .lst []) (.inl hl) (fun q z e => by
    subst e
    rcases S2.mm _ z with z | z
    · exact nm z
    · rw [upd_same] at z
      cases z) hn ⟨S2.ext.fr l (R.wf.none hl) (by rw [upd_same]; trivial) nm, [], S2.ext.sH l _ upd_same nm (fun _ z => nomatch z), .nil⟩
  exact ⟨.ref l, v, rfl, h3 _ _ _ (hS.trans (Stp.set (i := j) hS.rel d))⟩
end
end DL

set_option maxHeartbeats 4000000
/-! DLn: t[::-1], t a tuple. -/
namespace DL
open PySem PySem.Spec PyProof.Rows L2 HT
section
variable {prog : Program} {w : World} {A : Around} {E : Value → Shared → Prop} {s : Shared}
theorem places_rev (n : Nat) : Builtin.Slice.slicePlaces ((n : Int) - 1) (-1) (-1) = n := by
  unfold Builtin.Slice.slicePlaces
  have h1 : ¬ ((-1 : Int) > 0) := by decide
  rw [if_neg h1]
  by_cases h : (n : Int) - 1 > -1
  · rw [if_pos h, show (- -1 : Int) = 1 by decide, Int.ediv_one]
    omega
  · rw [if_neg h]
    omega
theorem sliceApplied_rev {sl : Addr} {vs : Value} {n : Nat} {Q : Int × Int × Nat → Shared → Prop} (hs : s.heap.IsSliceOf sl .none .none vs) (ps : IsPart vs (some (-1)))
    (h : Q ((n : Int) - 1, -1, n) s) : wpAny (model prog w) A (Builtin.Slice.sliceApplied (.ref sl) (pure (n : Int))) Q E s := by
  obtain ⟨os, hos, hcs, hds⟩ := id hs
  unfold Builtin.Slice.sliceApplied Builtin.Slice.sliceFields
  refine wpAny_bind (wpAny_bind (wpAny_field hos hds (x := .none) rfl (wpAny_bind (wpAny_field hos hds (x := .none) rfl (wpAny_bind (wpAny_field hos hds (x := vs) rfl (wpAny_pure ?_)))))))
  refine wpAny_bind (slicePart_ ps ?_)
  show wpAny _ _ (if ((-1 : Int) == 0) = true then _ else _) _ _ s
  rw [if_neg (by decide)]
  refine wpAny_bind (slicePart_none (wpAny_bind (slicePart_none (wpAny_bind (wpAny_pure ?_)))))
  show wpAny _ _ (pure ((n : Int) - 1, (-1 : Int), Builtin.Slice.slicePlaces ((n : Int) - 1) (-1) (-1))) _ _ s
  rw [places_rev]
  exact wpAny_pure h
theorem fm_congr {α β : Type} {f g : α → Option β} : ∀ {l : List α}, (∀ a ∈ l, f a = g a) → l.filterMap f = l.filterMap g
  | [], _ => rfl
  | a :: l, h => by
    rw [List.filterMap_cons, List.filterMap_cons, h a List.mem_cons_self, fm_congr fun b hb => h b (List.mem_cons_of_mem _ hb)]
theorem pick_rev (xs : Array Value) : ((List.range xs.size).filterMap fun (m : Nat) => xs[((xs.size : Int) - 1 + (m : Int) * -1).toNat]?).toArray = xs.toList.reverse.toArray := by
  have e : ((List.range xs.size).filterMap fun (m : Nat) => xs[((xs.size : Int) - 1 + (m : Int) * -1).toNat]?) = ((List.range xs.size).map fun k => xs.size - 1 - k).filterMap (xs[·]?) := by
    rw [List.filterMap_map]
    refine fm_congr fun m hm => ?_
    have := List.mem_range.mp hm
    show xs[((xs.size : Int) - 1 + (m : Int) * -1).toNat]? = xs[xs.size - 1 - m]?
    rw [show ((xs.size : Int) - 1 + (m : Int) * -1).toNat = xs.size - 1 - m by omega]
  rw [e, PySem.W.krv_range, List.filterMap_reverse, PySem.W.krv_all]
theorem getItem_tuple_rev {t sl : Addr} {items : Array Value} {vs : Value} {Q : Value → Shared → Prop} (ht : IsTup s.heap t items) (hs : s.heap.IsSliceOf sl .none .none vs) (ps : IsPart vs (some (-1)))
    (h : Q (.ref s.heap.objs.size) { s with heap := s.heap.push { cls := .type "tuple", data := .seq items.toList.reverse.toArray } })
    (hsz : items.size ≤ sizeLine) : wpAny (model prog w) A (getItem (.ref t) (.ref sl)) Q E s := by
  have htake : sizeOk (.seq items.toList.reverse.toArray) := by
    show items.toList.reverse.toArray.size ≤ sizeLine
    rw [List.size_toArray, List.length_reverse, Array.length_toList]
    exact hsz
  obtain ⟨os, hos, hcs, hds⟩ := id hs
  have hTs : s.TypeIs (.ref sl) "slice" := ⟨os, hos, hcs⟩
  unfold getItem
  try with_reducible refine wpAny_holding ?_
  first | refine wpAny_bind (wpAny_pure ?_) | skip
  refine wpAny_bind (wpAny_sequenceKey ht.typeIs (by decide) ?_)
  refine wpAny_bind (wpAny_callSpecial?_slot (name := Str.ofString "__getitem__") ht.typeIs PyProof.Rows.slot_tuple_getitem
    (wpAny_call_entry PyProof.Rows.slot_tuple_getitem ht.typeIs entry_tuple_getitem ?_ (args_tuple_getitem _ _)))
  show wpAny _ _ (Builtin.Tuple.tupleItemsOf (.ref t) >>= _) _ _ s
  refine wpAny_bind (tupleItemsOf_ ht ?_)
  refine wpAny_bind (wpAny_typeOf hTs ?_)
  rw [if_pos (by decide)]
  refine wpAny_bind (sliceApplied_rev hs ps ?_)
  have hno : ¬ ((((items.size : Int) - 1) == 0 && (-1 : Int) == 1 && items.size == items.size) = true) := by
    intro q
    rw [Bool.and_eq_true, Bool.and_eq_true] at q
    exact absurd q.1.2 (by decide)
  show wpAny _ _ (if (((items.size : Int) - 1) == 0 && (-1 : Int) == 1 && items.size == items.size) = true then _ else _) _ _ s
  rw [if_neg hno, pick_rev]
  first
    | exact wpAny_bind (m := Builtin.Tuple.tupleExact _) (wpAny_newObj_type (wpAny_pure ⟨_, rfl, wpAny_pure h⟩) htake)
    | exact wpAny_bind (m := Builtin.Tuple.tupleExact _) (wpAny_newObj_type (wpAny_bind (wpAny_pure (wpAny_pure ⟨_, rfl, wpAny_pure h⟩))) htake)
    | exact wpAny_bind (wpAny_bind (m := Builtin.Tuple.tupleExact _) (wpAny_newObj_type (wpAny_pure (wpAny_pure ⟨_, rfl, wpAny_pure h⟩)) htake))
    | exact wpAny_bind (wpAny_bind (m := Builtin.Tuple.tupleExact _) (wpAny_newObj_type (wpAny_pure ⟨_, rfl, wpAny_pure h⟩) htake))
end
section
variable {c : Dc} {X : Cx} {e : Expr} {fa : FE}
def tRevT (K : PySem.W.Frag) (te : TE) : TE := fun σ H Q => te σ H fun x H1 => ∃ a xs, x = .ref a ∧ SqT K H1 a xs ∧ ∀ p, H1 p = none → Q (.ref p) (upd H1 p (.tup xs.reverse))
theorem pe_revT {te : TE} {k : Nat} {p1 p2 p3 pos : Pos} (he : PE X e te) : PE X (.Subscript e (.Slice none none (some (.UnaryOp .USub (.Constant (.int 1) k p1) p2)) p3) pos) (tRevT X.K te) := by
  refine ⟨fun pins s σ H Q I h => ?_⟩
  refine Subscript_ (thn (he.run pins s σ H _ I h) fun v s1 ⟨x, H1, I1, r1, q1⟩ => ?_)
  obtain ⟨a, xs, ex, hx, q⟩ := q1
  subst ex
  cases r1
  have hst : PO X (some (.UnaryOp .USub (.Constant (.int 1) k p1) p2)) (tPart (tUn (rU fun i => .int (-i)) (tC (.int 1)))) := po_some (pe_un un_neg pe_int)
  refine wpAny_Slice (thn (po_none.run pins s1 σ H1 (fun o H2 => o = none ∧ H2 = H1) I1 ⟨rfl, rfl⟩) fun vl s2 ⟨l, H2, I2, pl, el, e2⟩ => ?_)
  subst el e2
  refine thn (po_none.run pins s2 σ H2 (fun o H3 => o = none ∧ H3 = H2) I2 ⟨rfl, rfl⟩) fun vu s3 ⟨u, H3, I3, pu, eu, e3⟩ => ?_
  subst eu e3
  refine thn (hst.run pins s3 σ H3 (fun o H4 => o = some (-1) ∧ H4 = H3) I3 ⟨1, rfl, -1, rfl, rfl, rfl⟩) fun vs s4 ⟨o, H4, I4, ps, eo, e4⟩ => ?_
  subst eo e4
  have I5 : Inv X pins σ H4 { s4 with heap := s4.heap.push { cls := .type "slice", data := .fields #[vl, vu, vs] } } := I4.kept (t' := s4.toks) fun b ob q => Heap.get?_push_of_some _ q
  obtain ⟨its, r, ht, hz⟩ := I5.tuple hx
  have hlen := r.length
  cases pl
  cases pu
  show wpAny (model X.prog X.w) X.A (subscriptTail e (.Slice none none (some (.UnaryOp .USub (.Constant (.int 1) k p1) p2)) p3) (.ref a) (.ref s4.heap.objs.size)) (EP X pins σ Q) X.xe { s4 with heap := s4.heap.push { cls := .type "slice", data := .fields #[.none, .none, vs] } }
  refine tail_any (ops := [.ref a, .ref s4.heap.objs.size]) ht.typeIs (PyProof.Rows.slot_tuple_getitem.lookup) ?_ (by with_unfolding_all rfl)
  refine getItem_tuple_rev ht (Heap.IsSliceOf.new _ .none .none vs) ps ?_ (by rw [List.size_toArray]; omega)
  refine ⟨.ref _, _, I5.laid (t' := s4.toks) (o := .tup xs.reverse) (fun b ob q => Heap.get?_push_of_some _ q) (Nat.le_refl _) ?_, rfl, q _ (I5.hok.fresh (Nat.le_refl _))⟩
  exact ⟨by rw [List.length_reverse]; exact hz, _, r.reverse, IsTup.new _ _⟩
def revTD : D → Option D
  | .tup ds => some (.tup ds.reverse)
  | _ => none
theorem de_revT {k : Nat} {p1 p2 p3 pos : Pos} (ha : DE c X e fa) : DE c X (.Subscript e (.Slice none none (some (.UnaryOp .USub (.Constant (.int 1) k p1) p2)) p3) pos) (unE revTD fa) := by
  obtain ⟨t1, p1', k1⟩ := ha.un
  refine DE.mk ⟨_, pe_revT p1', fun ρ σ G H Q R h => ?_⟩
  refine k1 ρ σ G H _ R (h.first.imp fun r1 h2 x G1 H1 S1 d1 => ?_)
  obtain ⟨z, ez, k⟩ := h2.opt
  unfold revTD at ez
  split at ez
  · rename_i ds e1
    cases ez
    rw [e1] at d1
    obtain ⟨l, us, rfl, hl, hus⟩ := dq_tup d1
    exact ⟨l, us, rfl, sqT_mono S1.rel.wf.same hl, fun q hq => kd_newT S1.rel hus.reverse hq fun v G2 H2 S2 d2 => k v G2 H2 (S1.trans S2) d2⟩
  · cases ez
end
end DL

set_option maxHeartbeats 4000000
/-! HZf: enumerate over a tuple. -/
namespace PySem
open Sem (wp)
open AutoSeq1 (wpAny_loadPart')
set_option maxHeartbeats 4000000 in
theorem meets_enumerate_newT (t : Addr) (items : Array Value) :
    Meets (Builtin.«enumerate.__new__» ⟨[.type "enumerate", .ref t], []⟩) (fun _ R s => s.heap.IsTuple t items ∧
      R (.ok (.ret (.ref (s.heap.push { cls := .type "tuple_iterator", data := .fields #[.ref t, .int 0 0] }).objs.size)))
        { s with heap := (s.heap.push { cls := .type "tuple_iterator", data := .fields #[.ref t, .int 0 0] }).push { cls := .type "enumerate", data := .fields #[.none, .bool false, .ref s.heap.objs.size, rawInt 0, .none, .none] } }) :=
  .of_wp fun prog w A R s h => by
    obtain ⟨hp, g, d, tk, os⟩ := s; obtain ⟨h1, h⟩ := h
    have hsub := sub_enumerate
    have q1 : ∀ {A' : Around} {E : Value → Shared → Prop} {Q : Value → Shared → Prop}, Q (.ref hp.objs.size) ⟨hp.push { cls := .type "tuple_iterator", data := .fields #[.ref t, .int 0 0] }, g, d, tk, os⟩ → wpAny (model prog w) A' (pyIter (.ref t)) Q E ⟨hp, g, d, tk, os⟩ :=
      fun q => (begins_tuple t items).iter prog w _ _ ⟨hp, g, d, tk, os⟩ _ h1 q
    wp_walk using q1
    refine wpAny_stack_any fun st => wpAny_pure ?_
    split
    · rename_i c _ _ _ _ _
      cases (c == Value.type "enumerate")
      · wp_walk using q1
        exact ⟨_, rfl, h⟩
      · wp_walk using q1
        exact ⟨_, rfl, h⟩
    · wp_walk using q1
      exact ⟨_, rfl, h⟩
section
variable {prog : Program} {w : World} {A : Around} {E : Value → Shared → Prop} {s : Shared}
theorem call_enumerate_tup {l : Addr} {items : Array Value} {Q : Value → Shared → Prop} (hL : s.heap.IsTuple l items)
    (h : ∀ h', IsEnum h' (s.heap.objs.size + 1) s.heap.objs.size 0 .none → h'.IsTupleIter s.heap.objs.size l 0 → h'.objs.size = s.heap.objs.size + 2 →
      (∀ b o, s.heap.get? b = some o → h'.get? b = some o) → Q (.ref (s.heap.objs.size + 1)) { s with heap := h' }) :
    wpAny (model prog w) A (call (.type "enumerate") [.ref l]) Q E s := by
  refine callType_new F.called_enumerate (by decide) (F.typeCall_enumerate_1 _) (F.newCall_enumerate_1 _) (fun obj => F.args_object_init_2 obj _) F.entry_enumerate_new
    (meets_enumerate_newT l items) ⟨hL, ?_⟩
  have hz : (s.heap.push { cls := .type "tuple_iterator", data := .fields #[.ref l, .int 0 0] }).objs.size = s.heap.objs.size + 1 := Heap.size_push ..
  show _ ∧ _
  rw [hz]
  have he : IsEnum ((s.heap.push { cls := .type "tuple_iterator", data := .fields #[.ref l, .int 0 0] }).push
      { cls := .type "enumerate", data := .fields #[.none, .bool false, .ref s.heap.objs.size, rawInt 0, .none, .none] }) (s.heap.objs.size + 1) s.heap.objs.size 0 .none := by
    have := Heap.get?_push_size (s.heap.push { cls := .type "tuple_iterator", data := .fields #[.ref l, .int 0 0] })
      (o := { cls := .type "enumerate", data := .fields #[.none, .bool false, .ref s.heap.objs.size, rawInt 0, .none, .none] }) rfl
    rw [hz] at this; exact this
  refine ⟨⟨_, he, rfl⟩, h _ he ⟨_, Heap.get?_push_of_some _ (Heap.get?_push_size _ rfl), rfl, rfl⟩ (by rw [Heap.size_push, hz]) fun b o x => Heap.get?_push_of_some _ (Heap.get?_push_of_some _ x)⟩
theorem pyNext_enumT_end {e it l : Addr} {i : Nat} {items : Array Value} {old : Value} {Q : Option Value → Shared → Prop} (hh : A.handled = none)
    (he : IsEnum s.heap e it i old) (hit : s.heap.IsTupleIter it l i) (hl : s.heap.IsTuple l items) (hx : items[i]? = none)
    (hQ : ∀ h', Heap.ExtBut it s.heap h' → Q none { s with heap := h' }) : wpAny (model prog w) A (pyNext (.ref e)) Q E s := by
  have hT : s.TypeIs (.ref e) "enumerate" := ⟨_, he, rfl⟩
  unfold pyNext
  refine wpAny_bind (wpAny_attempt (wpAny_callSpecial?_slot (name := Str.ofString "__next__") hT F.slot_enumerate_next
    (wpAny_call_entry F.slot_enumerate_next hT F.entry_enumerate_next ?_ (F.args_enumerate_next_1 _))))
  show wpAny _ _ (field (.ref e) 2 >>= _) _ _ _
  refine wpAny_bind (wpAny_field he rfl (x := .ref it) rfl ?_)
  refine wpAny_bind (wpAny_nextOf_tuple_end hh hit hl hx fun h' x he' hx' => ?_)
  obtain ⟨o, ho, hc⟩ := hx'
  refine wpAny_bind (wpAny_isInstance (T := "StopIteration") (b := true) ⟨o, ho, hc⟩ isSubtype_stop ?_)
  exact wpAny_pure (hQ _ he')
end
end PySem
namespace L2
open PySem PySem.Spec PyProof.Rows
/-- the tuple at a as it stands at each turn, each item in a new pair -/
def IteT (K : PySem.W.Frag) (a : Addr) : It :=
  ⟨fun i H => ∃ (xs : List V) (x : V), SqT K H a xs ∧ xs[i]? = some x, fun i H v H' => ∃ T x, v = .ref T ∧ H T = none ∧ H' = upd H T (.tup [.int (i : Nat), x]) ∧ ∀ xs, SqT K H a xs → xs[i]? = some x, fun i H => ∃ xs : List V, SqT K H a xs ∧ xs.length ≤ i⟩
theorem turn_enumT {P : Program} {w : World} {K : PySem.W.Frag} {elts : List Expr} {kk : Nat} {tpos : Pos} (a e it : Addr) :
    Turn P w K (.Tuple elts kk tpos) (IteT K a) [e, it] e (fun i h => (∃ old, IsEnum h e it ((i : Nat) : Int) old) ∧ h.IsTupleIter it a i ∧ e ≠ it ∧ e ≠ a) where
  mem := by simp
  obj := fun i h st b hb => by
    obtain ⟨⟨old, he⟩, ⟨o, ho, hc, hd⟩, _⟩ := st
    have e' : b = e ∨ b = it := by simpa using hb
    rcases e' with z | z
    · rw [z]; exact ⟨_, he, fun v q => nomatch q⟩
    · rw [z]; exact ⟨o, ho, fun v q => by rw [hd] at q; cases q⟩
  keep := fun i h h' st k => let ⟨⟨old, he⟩, hi, hne⟩ := st; ⟨⟨old, k e (by simp) _ he⟩, hi.at fun o q => k it (by simp) o q, hne⟩
  item := by
    intro X hP hw hK hc i pins s σ H E I hf st hg
    subst hP hw hK
    obtain ⟨⟨old, he⟩, hit, hne, hea⟩ := st
    obtain ⟨xs, x, hq, hx⟩ := hg
    obtain ⟨its, rv, p, hz⟩ := I.tuple hq
    obtain ⟨u, hu, ru⟩ := rv.get hx
    have hel : e < s.heap.objs.size := Heap.lt_size he
    have hil : it < s.heap.objs.size := by obtain ⟨_, q, _⟩ := hit; exact Heap.lt_size q
    have hai : a ≠ it := by
      obtain ⟨o1, ho1, hc1, _⟩ := id p
      obtain ⟨o2, ho2, hc2, _⟩ := id hit
      intro z
      rw [z, ho2] at ho1
      rw [← Option.some.inj ho1, hc2] at hc1
      exact absurd hc1 (by decide)
    have hlt : i < its.toArray.size := by
      have := (List.getElem?_eq_some_iff.mp hu).1
      simpa using this
    refine wpAny_pyNext_enum_itemD (Draws.tuple (by exact I.ok.hd hc) it a hai its.toArray) he ⟨hit, (show s.heap.IsTuple a its.toArray from p)⟩ hlt hne (by simp [hne, hea]) fun y h' tk hy ho hst hT hsz hk => ?_
    obtain ⟨hit', _⟩ := hst
    have hyu : y = u := by
      have e1 : its.toArray[i]? = some u := by simpa using hu
      rw [e1] at hy
      exact (Option.some.inj hy).symm
    subst hyu
    refine ⟨_, rfl, wpAny_letOwnedTupleGo_enum (s := { s with heap := h', toks := tk + 1 }) ho fun h'' he' sb => ?_⟩
    have hT2 : h''.get? s.heap.objs.size = some { cls := .type "tuple", data := .seq #[.int i tk, y] } := (sb.2 _ (Nat.ne_of_gt hel)).trans hT
    have new : ObjOk X.prog X.w (upd H s.heap.objs.size (.tup [.int (i : Nat), x])) h'' s.heap.objs.size (.tup [.int (i : Nat), x]) :=
      ⟨by show 2 ≤ sizeLine; decide, [.int i tk, y], .cons ⟨_, rfl⟩ (.cons ru .nil), ⟨_, hT2, rfl, _, rfl⟩⟩
    have I1 : Inv X pins σ (upd H s.heap.objs.size (.tup [.int (i : Nat), x])) { s with heap := h'', toks := tk + 1 } :=
      I.turnedNew (ch := [e, it]) (fun b ob hb q => (sb.2 b (fun z => hb (by simp [z]))).trans (hk b ob (fun z => hb (by simp [z])) (fun z => hb (by simp [z])) q)) hf (Nat.le_refl _) new
    refine ⟨.ref s.heap.objs.size, _, I1, rfl, ⟨_, x, rfl, I.hok.fresh (Nat.le_refl _), rfl, fun ys hy => by rw [I.tuple_inj hy hq]; exact hx⟩, ⟨⟨y, ?_⟩, hit'.at fun o q => (sb.2 it (Ne.symm hne)).trans q, hne, hea⟩, fun b hb => ?_⟩
    · have e1 : ((i + 1 : Nat) : Int) = (i : Int) + 1 := by omega
      rw [e1]; exact he'
    · have hb' : b < s.heap.objs.size := by
        have e' : b = e ∨ b = it := by simpa using hb
        rcases e' with z | z
        · rw [z]; exact hel
        · rw [z]; exact hil
      rw [upd_ne (Nat.ne_of_lt hb')]
      exact (hf b hb).1
  done := by
    intro X hP hw hK hc i pins s σ H E I hf st hg
    subst hP hw hK
    obtain ⟨⟨old, he⟩, hit, hne, hea⟩ := st
    obtain ⟨xs, hq, hx⟩ := hg
    obtain ⟨its, rv, p, hz⟩ := I.tuple hq
    obtain ⟨f0, f1, f2, f3, f4, f5⟩ := hf it (by simp)
    have hl := rv.length
    exact pyNext_enumT_end (I.ok.hd hc) he hit (show s.heap.IsTuple a its.toArray from p) (by simp; omega) fun h' eb => ⟨rfl, I.turned (t' := s.toks) (fun b o hb q => eb b o hb q) f0 f1 f3 f4 f5⟩
  self := fun A i s Q E st h => let ⟨⟨_, he⟩, _⟩ := st; wpAny_pyIter_enum he h
def iEnumT (K : PySem.W.Frag) (ta : TA) : TI := fun σ H R => ta σ H fun vs H1 => ∃ a xs, vs = [.ref a] ∧ SqT K H1 a xs ∧ R (IteT K a) H1
theorem pi_enumT {X : Cx} {e : Expr} {ta : TA} {p pos tpos : Pos} {elts : List Expr} {kk : Nat} (hg : Gl X "enumerate") (hm : X.mg "enumerate" = none) (ha : PA X [e] ta) (hs : starEach [e] X.env = [(false, eval e X.env)] := by rfl) :
    PI X (.Tuple elts kk tpos) (.Call (.Name "enumerate" p) [e] [] pos) (iEnumT X.K ta) := by
  refine ⟨fun pins s σ H R I h => ?_⟩
  refine Call_ (ld_blt I hg hm boot_enumerate (PyProof.Rows.callWith_type1 (thn (ha.run pos pins s σ H _ I h) fun us s1 ⟨vs, H1, I1, r1, q1⟩ => ?_) hs rfl))
  obtain ⟨a, xs, ex, hq, q⟩ := q1
  subst ex
  cases r1 with
  | cons r rr =>
    cases rr
    cases r
    obtain ⟨its, rv, p', hz⟩ := I1.tuple hq
    have hal : a < s1.heap.objs.size := by
      obtain ⟨o1, ho1, _⟩ := id p'
      exact Heap.lt_size ho1
    refine call_enumerate_tup (show s1.heap.IsTuple a its.toArray from p') fun h' he hit hsz hk => wpAny_pyIter_enum he ?_
    have I2 : Inv X pins σ H1 { s1 with heap := h' } := I1.kept (t' := s1.toks) hk
    refine ⟨s1.heap.objs.size + 1, [s1.heap.objs.size + 1, s1.heap.objs.size], _, _, H1, rfl, I2, turn_enumT a (s1.heap.objs.size + 1) s1.heap.objs.size, ⟨⟨.none, he⟩, hit, Nat.succ_ne_self _, Nat.ne_of_gt (Nat.lt_succ_of_lt hal)⟩, fun b hb => ?_, q⟩
    have e' : b = s1.heap.objs.size + 1 ∨ b = s1.heap.objs.size := by simpa using hb
    have hle : s1.heap.objs.size ≤ b := by
      rcases e' with z | z
      · rw [z]; exact Nat.le_add_right _ _
      · rw [z]; exact Nat.le_refl _
    exact I1.fpOk hle (I1.hok.fresh hle)
end L2

set_option maxHeartbeats 4000000
/-! DLo: enumerate over a tuple. -/
namespace DL
open PySem PySem.Spec PyProof.Rows L2
section
variable {c : Dc} {X : Cx} {a : Expr} {pos : Pos}
theorem jok_enumT {K : Frag} {G0 : Hp} {a : Addr} {xs : List V} {ds : List DL.D} (h : SqT K G0 a xs) (d : DqAll K G0 xs ds) : JOk c K (IteT K a) G0 (enumFrom 0 ds) where
  go := fun i ρ σ G H R s hi => by
    rw [enumFrom_length, ← d.length] at hi
    exact ⟨xs, xs[i], sqT_mono (s.trans R.wf.same) h, List.getElem?_eq_getElem _⟩
  stop := fun i ρ σ G H R s hi => by
    rw [enumFrom_length, ← d.length] at hi
    exact ⟨xs, sqT_mono (s.trans R.wf.same) h, hi⟩
  yld := fun i dd ρ σ G H x H' R s hi hy => by
    obtain ⟨T, u, rfl, nT, rfl, f1⟩ := hy
    obtain ⟨p, e1, rfl⟩ := enumFrom_get hi
    have S := Stp.new (n := c.n) R nT (o := .tup [.int (i : Nat), u]) nt_tup
    rw [Nat.zero_add]
    exact ⟨_, S, .tup (.of upd_same) (.cons (.int _) (.one (((d.mono s).get (f1 xs (sqT_mono (s.trans R.wf.same) h)) e1).mono S.ext.sG)))⟩
def iterET (fas : Rho → Rs (List DL.D × Rho)) : FI := fun ρ => (fas ρ).bind fun r => match r.1 with
  | [.tup xs] => .ok (enumFrom 0 xs, r.2)
  | _ => .no
theorem di_enumT {fas : Rho → Rs (List DL.D × Rho)} {p tpos : Pos} {elts : List Expr} {kk : Nat} (hm : X.mg "enumerate" = none) (ha : DAs c X [a] fas) (hg : Gl X "enumerate" := by rfl) (hs : starEach [a] X.env = [(false, eval a X.env)] := by rfl) :
    DI c X (.Tuple elts kk tpos) (.Call (.Name "enumerate" p) [a] [] pos) (iterET fas) := by
  obtain ⟨t1, p1, k1⟩ := ha.un
  refine DI.mk ⟨_, pi_enumT hg hm p1 hs, fun ρ σ G H R r h => ?_⟩
  refine k1 ρ σ G H _ r (h.first.imp fun r1 h2 v G1 H1 S d => ?_)
  obtain ⟨ds, ρ1⟩ := r1
  dsimp only at h2
  split at h2
  · obtain ⟨v1, rfl, d1⟩ := dqAll1 d
    obtain ⟨l, xs, rfl, hl, hxs⟩ := dq_tup d1
    exact ⟨l, xs, rfl, sqT_mono S.rel.wf.same hl, h2 _ G1 H1 S (jok_enumT hl hxs)⟩
  · exact h2.elim
end
section
variable {c : Dc} {X : Cx} {pos : Pos} {k : Nat} {f : Addr} {fd : FuncData} {ps : List Str} {ff : FD} {x : Str} {p : Pos}
theorem de_call0 (F : FnOk X.prog X.w X.K X.mg X.base (L2N.CX X.prog X.w) k f fd ps (spD X.K c.T c.cl ff)) (hr : Room k X.A) (hm : X.mg x = some (.ref f)) (hk : PySem.W.keepIn X.K (.ref f) = true) (hb : Binds X.K fd ps []) (hx : Passes (L2N.CX X.prog X.w) X c.E)
    (ha : DAr c X [] nilAr) (hg : Gl X x := by rfl) (hdb : (x == ("__debug__" : Str)) = false := by decide) :
    DE c X (.Call (.Name x p) [] [] pos) (callD ff nilAr) := by
  refine DE.mk ⟨_, pe_call0 F hr hg hm hk hb .nil hx hdb, fun ρ σ G H Q R h => ?_⟩
  have h2 := h.first.first
  show spD X.K c.T c.cl ff ([] ++ []) _ _ _
  rw [List.append_nil]
  have hn : (([] : List DL.Arg).filterMap ownOf).Nodup := List.nodup_nil
  change Sat c (Mu ρ σ) G H (if (([] : List DL.Arg).filterMap ownOf).Nodup then (Rs.ofO (argSls ρ [])).bind (fun ss => (ff ss).bind fun u => if u.2.length = ([] : List DL.Arg).length then Rs.ok (u.1, putB ρ [] u.2) else .no) else .no) _ at h2
  rw [if_pos hn] at h2
  obtain ⟨ss, e1, h3⟩ := h2.opt
  refine call_data (.refl R) (by first | exact .nil | exact rfl) hn e1 h3 fun u ρ2 v G' H' q S' rv => ?_
  cases u with
  | da d => exact q v G' H' S' rv
  | fr ds => exact q.elim
end
end DL

set_option maxHeartbeats 4000000
/-! HZg: set(list of ints) (turned from the kit's theorem for tuples). -/
namespace L2
open PySem PySem.Spec PyProof.Rows
section
variable {P : Program} {w : World} {A : Around} {E : Value → Shared → Prop} {s : Shared}
set_option maxHeartbeats 3200000 in
theorem call_set_lstI {l : Addr} {items : Array Value} (ns : List Int) {Q : Value → Shared → Prop} (hh : A.handled = none) (hl : s.heap.IsList l items) (hit : IntsAre items.toList ns) (hb : ns.length + 1 < scanBound)
    (h : ∀ (h' : Heap) (tk c : Nat), SetR w h' s.heap.objs.size (fun j => decide (j ∈ ns)) c → c ≤ ns.length → (∀ b o, s.heap.get? b = some o → h'.get? b = some o) → Q (.ref s.heap.objs.size) { s with heap := h', toks := tk }) :
    wpAny (model P w) A (call (.type "set") [.ref l]) Q E s := by
  have hisz : items.size = ns.length := by
    have q := IntsAre.length hit
    rw [Array.length_toList] at q
    exact q
  obtain ⟨c, tl, hmro⟩ := F.called_set.mro
  have hmade := F.called_set.made
  have hsub := F.called_set.sub
  refine wpAny_call (codeAny_of_tree ?_)
  show wpAny _ _ (callAny (.type "set") _) _ _ _
  refine wpAny_pure ⟨Code.quiet_builtin _ (by decide +kernel), codeAny_builtin F.entry_type_call ?_⟩
  rw [Around.under_plain (weight_type_call_type "set" [.ref l] []) rfl]
  have h1 := F.called_set.notType
  have h2 := F.called_set.canCreate
  have hct := F.typeCall_set_1 (.ref l)
  repeat (any_goals (first | assumption | wp_step))

  refine codeAny_mono (code_set_led1 (.ref l) (E := E) (Q₁ := fun obj s₁ => obj = .ref s.heap.objs.size ∧ s₁ = { s with heap := s.heap.push { cls := .type "set", dict := none, data := .set #[] 0 (.fresh 0 0 (!w.params.followText "set-order")) } }) ⟨rfl, rfl⟩) fun r s₁ hr => ?_
  cases r with
  | error e => exact hr
  | ok fl =>
    cases fl with
    | ret obj =>
      obtain ⟨rfl, rfl⟩ := hr
      have hS : (s.heap.push { cls := .type "set", dict := none, data := .set #[] 0 (.fresh 0 0 (!w.params.followText "set-order")) }).get? s.heap.objs.size = some { cls := .type "set", dict := none, data := .set #[] 0 (.fresh 0 0 (!w.params.followText "set-order")) } := Heap.get?_push_size _ rfl
      have hT : Shared.TypeIs { s with heap := s.heap.push { cls := .type "set", dict := none, data := .set #[] 0 (.fresh 0 0 (!w.params.followText "set-order")) } } (.ref s.heap.objs.size) "set" := ⟨_, hS, rfl⟩
      have hli := F.called_set.init.lookup
      have hbi := F.called_set.init.bind (.ref s.heap.objs.size)
      repeat (any_goals (first | assumption | wp_step))

      refine codeAny_mono (codeAny_call_builtin (R := wants (fun r s₂ => r = .none ∧ ∃ h' tk c, s₂ = { s with heap := h', toks := tk } ∧ SetR w h' s.heap.objs.size (fun j => decide (j ∈ ns)) c ∧ c ≤ ns.length ∧
          (∀ b o, s.heap.get? b = some o → h'.get? b = some o)) E) F.called_set.init.plain F.entry_set_init (check_set_init_1 hT ?_)) fun r₂ s₂ hr₂ => ?_
      · obtain ⟨ol, hol, hcl, nl, hdl⟩ := hl
        obtain ⟨ocls, odict, odata, oslots⟩ := ol
        simp only at hcl hdl
        subst hcl; subst hdl
        have hol' : (s.heap.push { cls := .type "set", dict := none, data := .set #[] 0 (.fresh 0 0 (!w.params.followText "set-order")) }).get? l = some { cls := .type "list", dict := odict, data := .seq items nl, slots := oslots } := Heap.get?_push_of_some _ hol
        have hsls := F.sub_list_set
        have hslf := F.sub_list_frozenset
        have hne : (Value.type "list" == Value.type "dict") = false := by decide
        have hl1 : (s.heap.push { cls := .type "set", dict := none, data := .set #[] 0 (.fresh 0 0 (!w.params.followText "set-order")) }).IsList l items := ⟨_, hol', rfl, nl, rfl⟩
        unfold Builtin.«set.__init__» noKeywords Builtin.Frozenset.updateFrom
        generalize hPI : pyIter = PI
        wp_walk
        subst hPI

        refine wpAny_pyIter_list hl1 ?_
        refine wpAny_bind (wpAny_runValue ?_)
        have hlS : l < s.heap.objs.size := Heap.lt_size hol
        have hh3 : A.in1.in1.in1.handled = none := by simp [hh]
        have hz1 : (s.heap.push { cls := .type "set", dict := none, data := .set #[] 0 (.fresh 0 0 (!w.params.followText "set-order")) }).objs.size = s.heap.objs.size + 1 := Heap.size_push ..
        have hneI : l ≠ (s.heap.push { cls := .type "set", dict := none, data := .set #[] 0 (.fresh 0 0 (!w.params.followText "set-order")) }).objs.size := by
          rw [Heap.size_push]; exact Nat.ne_of_lt (Nat.lt_succ_of_lt hlS)
        have hSf : s.heap.objs.size ∉ [(s.heap.push { cls := .type "set", dict := none, data := .set #[] 0 (.fresh 0 0 (!w.params.followText "set-order")) }).objs.size, l] := by
          rw [Heap.size_push]; simp only [List.mem_cons, List.mem_singleton, List.not_mem_nil, or_false, not_or]
          exact ⟨Nat.ne_of_lt (Nat.lt_succ_self _), Nat.ne_of_gt hlS⟩
        have hval : ∀ (i : Nat) (v : Value), items[i]? = some v → ∃ k t, ns[i]? = some k ∧ v = .int k t := fun i v hv => by
          have hi : i < ns.length := by rw [← hisz]; exact (Array.getElem?_eq_some_iff.mp hv).1
          obtain ⟨t, e⟩ := PyProof.Rows.IntsAre.int_at hit i v (by rw [Array.getElem?_toList]; exact hv)
          refine ⟨ns[i], t, List.getElem?_eq_getElem hi, ?_⟩
          rw [e, List.getD_eq_getElem?_getD, List.getElem?_eq_getElem hi] <;> rfl
        refine set_update_ints ((Walks.list hh3 _ l hneI items).toS) s.heap.objs.size
          hSf ns hisz hb hval (items.size - 0) 0 _ (by omega) (Nat.zero_le _)
          ⟨⟨_, Heap.get?_push_size _ rfl, rfl, rfl⟩, (hl1.push _)⟩ ?hS0 ?hR
        case hS0 =>
          have hget : ((s.heap.push { cls := .type "set", dict := none, data := .set #[] 0 (.fresh 0 0 (!w.params.followText "set-order")) }).push { cls := .type "list_iterator", data := .fields #[.ref l, .int 0 0] }).get? s.heap.objs.size
              = some { cls := .type "set", dict := none, data := .set #[] 0 (.fresh 0 0 (!w.params.followText "set-order")) } := Heap.get?_push_of_some _ hS
          exact ⟨0, Nat.le_refl 0, setR_new_at hget⟩
        case hR =>
          intro s' c' hm hc' hS'
          obtain ⟨h', g2, d', tk', os'⟩ := s'
          have eg : g2 = s.gens := hm.gens
          have ed : d' = s.drawn := hm.drawn
          have eo : os' = s.os := hm.os
          subst eg; subst ed; subst eo
          show wpAny _ _ _ _ _ _
          refine wpAny_pure ?_
          show wpAny _ _ (ret Value.none) _ _ _
          rw [hisz] at hc'
          refine wpAny_pure ⟨rfl, h', tk', c', rfl, hS', hc', fun b o e => ?_⟩
          have hb0 : b < s.heap.objs.size := Heap.lt_size e
          have hb1 : b ≠ s.heap.objs.size := Nat.ne_of_lt hb0
          have hb2 : b ≠ (s.heap.push { cls := .type "set", dict := none, data := .set #[] 0 (.fresh 0 0 (!w.params.followText "set-order")) }).objs.size := by
            rw [Heap.size_push]; exact Nat.ne_of_lt (Nat.lt_succ_of_lt hb0)
          exact hm.heap b o (by simp only [List.mem_cons, List.mem_singleton, List.not_mem_nil, or_false, not_or]; exact ⟨hb1, hb2⟩) (Heap.get?_push_of_some _ (Heap.get?_push_of_some _ e))

      · cases r₂ with
        | error e => exact hr₂
        | ok fl₂ =>
          cases fl₂ with
          | ret r =>
            obtain ⟨rfl, h', tk, c', rfl, hS', hc', hk'⟩ := hr₂
            repeat (any_goals (first | assumption | wp_step))
            exact h _ _ _ hS' hc' hk'
          | _ => exact hr₂.elim
    | _ => exact hr.elim
end
/-- the members of a list, each once, the least first -/
def insI (x : Int) : List Int → List Int
  | [] => [x]
  | y :: ys => if x < y then x :: y :: ys else if x = y then y :: ys else y :: insI x ys
def ssI (l : List Int) : List Int := l.foldr insI []
theorem insI_mem (x k : Int) : ∀ l : List Int, k ∈ insI x l ↔ k = x ∨ k ∈ l
  | [] => by simp [insI]
  | y :: ys => by
    unfold insI
    split
    · simp
    · split
      · rename_i h
        subst h
        simp
      · rw [List.mem_cons, insI_mem x k ys, List.mem_cons]
        constructor
        · rintro (h | h | h)
          · exact .inr (.inl h)
          · exact .inl h
          · exact .inr (.inr h)
        · rintro (h | h | h)
          · exact .inr (.inl h)
          · exact .inl h
          · exact .inr (.inr h)
theorem insI_sorted (x : Int) : ∀ l : List Int, l.Pairwise (· < ·) → (insI x l).Pairwise (· < ·)
  | [], _ => List.pairwise_singleton _ _
  | y :: ys, h => by
    obtain ⟨h1, h2⟩ := List.pairwise_cons.mp h
    unfold insI
    split
    · rename_i q
      refine List.pairwise_cons.mpr ⟨fun z hz => ?_, h⟩
      rcases List.mem_cons.mp hz with e | e
      · rw [e]; exact q
      · exact Int.lt_trans q (h1 z e)
    · split
      · exact h
      · rename_i q1 q2
        refine List.pairwise_cons.mpr ⟨fun z hz => ?_, insI_sorted x ys h2⟩
        rcases (insI_mem x z ys).mp hz with e | e
        · rw [e]; omega
        · exact h1 z e
theorem ssI_mem (k : Int) : ∀ l : List Int, k ∈ ssI l ↔ k ∈ l
  | [] => Iff.rfl
  | x :: l => by
    show k ∈ insI x (ssI l) ↔ _
    rw [insI_mem, ssI_mem k l, List.mem_cons]
theorem ssI_sorted : ∀ l : List Int, (ssI l).Pairwise (· < ·)
  | [] => List.Pairwise.nil
  | x :: l => insI_sorted x _ (ssI_sorted l)
theorem sorted_uniq : ∀ {a b : List Int}, a.Pairwise (· < ·) → b.Pairwise (· < ·) → (∀ k, k ∈ a ↔ k ∈ b) → a = b
  | [], [], _, _, _ => rfl
  | [], y :: ys, _, _, h => by cases (h y).mpr List.mem_cons_self
  | x :: xs, [], _, _, h => by cases (h x).mp List.mem_cons_self
  | x :: xs, y :: ys, ha, hb, h => by
    obtain ⟨a1, a2⟩ := List.pairwise_cons.mp ha
    obtain ⟨b1, b2⟩ := List.pairwise_cons.mp hb
    have e : x = y := by
      rcases List.mem_cons.mp ((h x).mp List.mem_cons_self) with q | q
      · exact q
      · rcases List.mem_cons.mp ((h y).mpr List.mem_cons_self) with q2 | q2
        · exact q2.symm
        · have := b1 x q
          have := a1 y q2
          omega
    subst e
    rw [sorted_uniq a2 b2 fun k => ?_]
    constructor
    · intro hk
      rcases List.mem_cons.mp ((h k).mp (List.mem_cons_of_mem _ hk)) with q | q
      · have := a1 k hk
        omega
      · exact q
    · intro hk
      rcases List.mem_cons.mp ((h k).mpr (List.mem_cons_of_mem _ hk)) with q | q
      · have := b1 k hk
        omega
      · exact q
theorem sorted_nodup {l : List Int} (h : l.Pairwise (· < ·)) : l.Nodup := h.imp fun h z => by omega
/-- set(xs), xs a list of ints -/
def rSetI (K : PySem.W.Frag) (w : World) : List V → Hp → VK → Prop := fun vs H Q => ∃ (l : Addr) (ns : List Int), vs = [V.ref l] ∧ SqL K H l (ns.map V.int) ∧ ns.length ≤ 4000 ∧
  ∀ p : Addr, H p = none → Q (.ref p) (upd H p (SetO w p (fun j => decide (j ∈ ns)) (ssI ns).length))
section
variable {X : Cx}
theorem cr_setI (hc : X.calm = true) : CallR X (.type "set") (rSetI X.K X.w) := by
  intro pins s σ H vs us Q I r h
  obtain ⟨l, ns, rfl, hq, hl, q⟩ := h
  rw [Vals.ref1 r]
  obtain ⟨its, rv, pt, hz⟩ := I.list hq
  have hi : IntsAre its.toArray.toList ns := ints_of_vals rv
  have hd := I.ok.hd hc
  refine call_set_lstI ns hd pt.isList hi (by unfold scanBound; omega) fun h' tk c R1 hcn k => ?_
  have hn : H s.heap.objs.size = none := I.hok.fresh (Nat.le_refl _)
  have hcn : c = (ssI ns).length := by
    obtain ⟨o, es, ep, t, ho, hex, hdt, g, nd, hm, hb, hf, hsz, _⟩ := R1
    have pm : (es.toList.map keyOf).Perm (ssI ns) := (List.perm_ext_iff_of_nodup nd (sorted_nodup (ssI_sorted ns))).mpr fun k => by
      rw [← hm k, ssI_mem, decide_eq_true_eq]
    have := pm.length_eq
    rw [List.length_map, Array.length_toList, hsz] at this
    exact this
  subst hcn
  exact ⟨.ref _, upd H s.heap.objs.size (SetO X.w s.heap.objs.size (fun j => decide (j ∈ ns)) (ssI ns).length), I.laid (t' := tk) k (Nat.le_refl _) (setO_new R1), rfl, q _ hn⟩
end
end L2

set_option maxHeartbeats 4000000
/-! DLp: dicts with keys that are tuples of ints. -/
namespace DL
open PySem PySem.Spec PyProof.Rows L2
section
variable {K : Frag} {T : List (Addr × Str)} {n : Nat} {ρ ρ' ρ1 : Rho} {σ σ' : L2.St} {G H G' H' G1 H1 : Hp} {p : Addr} {o : HO}
/-- a tuple that stands joins the kept part -/
theorem Stp.adopt {xs : List V} (R : Rel K T G ρ σ H) (hq : H p = some (.tup xs)) : Stp K T n ρ σ G H ρ σ (upd G p (.tup xs)) H := by
  have sG : Same G (upd G p (.tup xs)) := fun a u h => by
    by_cases q : a = p
    · subst q
      have := R.wf.same _ _ h
      rw [hq] at this
      rw [upd_same, this]
    · rw [upd_ne q]; exact h
  have w : Wf T (upd G p (.tup xs)) H := by
    refine ⟨fun a u h => ?_, R.wf.tabs, fun a ps h => ?_⟩
    · by_cases q : a = p
      · subst q; rw [upd_same] at h; cases h; exact hq
      · rw [upd_ne q] at h; exact R.wf.same _ _ h
    · by_cases q : a = p
      · subst q; rw [upd_same] at h; cases h
      · rw [upd_ne q] at h; exact R.wf.ntb _ _ h
  have no : ∀ a, Ow (H a) → a ≠ p := fun a h z => by
    rw [z, hq] at h
    exact h
  refine ⟨R.grow w sG fun a ha => ⟨?_, rfl⟩, ⟨w, sG, fun a u h _ _ => h, fun a hg hh _ => ?_, fun a h => h⟩, fun a h => .inl h, fun i m' hi e => ⟨⟨m', e⟩, rfl⟩⟩
  · rw [upd_ne (no a (R.muOw ha))]; exact R.muFree ha
  · rw [upd_ne (no a hh)]; exact hg
/-- a thing of the frame's own is locked and joins the kept part -/
theorem Stp.freezeL {i : Nat} {m : Mo} {u : HO} {od : Obj} (R : Rel K T G ρ σ H) (e1 : ρ[i]? = some (.mu m)) (e2 : σ[i]? = some (some (.ref p))) (hp : H p = some u) (h1 : ∀ ps, u ≠ .tbl ps) (h2 : ∀ φ, u ≠ .ext φ) :
    Stp K T n ρ σ G H (ρ.set i .un) σ (upd G p (.frz od u)) (upd H p (.frz od u)) := by
  have mp : Mu ρ σ p := mu_of e1 e2
  have gp := R.muFree mp
  have sG : Same G (upd G p (.frz od u)) := fun a v h => by rw [upd_ne (ne_of_none h gp)]; exact h
  have sH : ∀ a v, H a = some v → a ≠ p → upd H p (.frz od u) a = some v := fun a v h q => by rw [upd_ne q]; exact h
  have w : Wf T (upd G p (.frz od u)) (upd H p (.frz od u)) := by
    refine ⟨fun a v h => ?_, tabs_keep R.wf.tabs fun b v h hv => sH b v h fun z => by
      subst z
      rw [hp] at h
      rcases hv with ⟨ps, e⟩ | ⟨φ, e⟩
      · exact h1 ps ((Option.some.inj h).trans e)
      · exact h2 φ ((Option.some.inj h).trans e), fun a ps h => ?_⟩
    · by_cases q : a = p
      · subst q; rw [upd_same] at h ⊢; exact h
      · rw [upd_ne q] at h ⊢; exact R.wf.same _ _ h
    · by_cases q : a = p
      · subst q; rw [upd_same] at h; cases h
      · rw [upd_ne q] at h; exact R.wf.ntb _ _ h
  have ne : ∀ a, Mu (ρ.set i .un) σ a → a ≠ p := fun a ⟨j, m', e3, e4⟩ z => by
    subst z
    rcases get_set e3 with ⟨_, q⟩ | ⟨q1, q⟩
    · cases q
    · exact q1 (R.ne j i m' m a q e1 e4 e2)
  refine ⟨R.forget.grow w sG fun a ha => ?_, ⟨w, sG, fun a v h nm _ => sH a v h fun z => nm (by rw [z]; exact mp), fun a hg hh hm => ?_, fun a h z => ?_⟩, fun a h => .inl (mu_forget h), (Stp.forget (n := n) R).pr⟩
  · rw [upd_ne (ne a ha), upd_ne (ne a ha)]
    exact ⟨R.muFree (mu_forget ha), rfl⟩
  · rw [upd_ne fun z => hm (by rw [z]; exact mp)]; exact hg
  · by_cases q : a = p
    · subst q; rw [upd_same] at z; cases z
    · rw [upd_ne q] at z; exact h z
end
/-! ### rules over the kit's -/
def tLk (i : Nat) : TE := fun σ H Q => ∃ p u, σ[i]? = some (some (.ref p)) ∧ H p = some u ∧ Mut (some u) ∧ ∀ od, Q (.ref p) (upd H p (.frz od u))
theorem pe_lk {X : Cx} {e : Expr} {i : Nat} (h : PE X e (tVar i)) : PE X e (tLk i) := by
  refine ⟨fun pins s σ H Q I ⟨p, u, e1, hp, mu, q⟩ => ?_⟩
  refine thn (h.run pins s σ H (fun v H' => v = .ref p ∧ H' = H) I ⟨.ref p, e1, rfl, rfl⟩) fun v s1 ⟨x, H1, I1, r, ex, eH⟩ => ?_
  subst ex eH
  obtain ⟨od, I2⟩ := I1.lock hp mu
  exact ⟨.ref p, _, I2, r, q od⟩
def tDGetT (K : Frag) (td ty : TE) : TE := fun σ H Q => td σ H fun x H1 => ty σ H1 fun y H2 => ∃ (a b : Addr) (kvs : List (List Key × V)) (k : List Key) (v : V), x = .ref a ∧ y = .ref b ∧ Rd H2 a (.dT kvs) ∧ SqT K H2 b (k.map kV) ∧ valV kvs k = some v ∧ Q v H2
theorem pe_dgetT {X : Cx} {o i : Expr} {pos : Pos} {td ty : TE} (hu : X.A.units + 1 < cLine) (ho : PE X o td) (hi : PE X i ty) (hs : NoSl i) : PE X (.Subscript o i pos) (tDGetT X.K td ty) := by
  refine ⟨fun pins s σ H Q I h => ?_⟩
  refine subD_of PySem.F.slot_dict_getitem.lookup hs (thn (ho.run pins s σ H _ I h) fun u s1 ⟨x, H1, I1, rx, q1⟩ => thn (hi.run pins s1 σ H1 _ I1 q1) fun iv s2 ⟨y, H2, I2, ry, a, b, kvs, k, v, ex, ey, e, eb, l, q2⟩ => ?_)
  subst ex ey
  obtain rfl : u = Value.ref a := rx
  obtain rfl : iv = Value.ref b := ry
  obtain ⟨z, hd, xs, rel, dd⟩ := dt_rd I2.hok e
  obtain ⟨its, rv, ⟨ob, h1, h2, n, h3⟩, hz⟩ := I2.tuple eb
  obtain ⟨w', hw, rw'⟩ := RelO.some_of (v := v) (o := (atKey xs k).map (·.2)) (by rw [← l]; exact rel.val k)
  obtain ⟨p, hp, hp2⟩ := Option.map_eq_some_iff.mp hw
  refine ⟨dd.typeIs, wpAny_getItem_heap (tupleKind_room_in1 hu) ⟨ob, its.toArray, n, h1, h2, h3, by simpa using items_are rv⟩ dd hp ?_⟩
  rw [hp2]
  exact ⟨v, H2, I2.tok _, rw', q2⟩
section
variable {c : Dc} {X : Cx} {a b e d tg : Expr} {es : List Expr} {fa fb fd f : FE} {pos : Pos}
/-- a dict of the frame's own, given up -/
def moveDE (i : Nat) : FE := fun ρ => match ρ[i]? with
  | some (.mu (.dct ks ds)) => .ok (.dct ks ds, ρ.set i .un)
  | _ => .no
theorem de_moveD {i : Nat} (h : PE X e (tVar i)) : DE c X e (moveDE i) := by
  refine DE.mk ⟨_, pe_lk h, fun ρ σ G H Q R h => ?_⟩
  unfold moveDE at h
  split at h
  · rename_i ks ds e0
    have hi : i < σ.length := by rw [R.len]; exact (List.getElem?_eq_some_iff.mp e0).1
    obtain ⟨p, e, g, kvs, hp, hk, d⟩ := R.sl i _ _ e0 (List.getElem?_eq_getElem hi)
    have e1 : σ[i]? = some (some (.ref p)) := by rw [List.getElem?_eq_getElem hi, e]
    refine ⟨p, _, e1, hp, trivial, fun od => ?_⟩
    have S := Stp.freezeL (n := c.n) (od := od) R e0 e1 hp (fun _ z => nomatch z) (fun _ z => nomatch z)
    exact h _ _ _ S (.dct upd_same hk (d.mono S.ext.sG))
  · exact h.elim
/-- name = {}, the frame's own -/
def setD (i : Nat) : FS := fun ρ => .ok (.nx (ρ.set i (.mu (.dct [] []))))
theorem ds_setD {i : Nat} {x : Str} {pos' p2 : Pos} (hN : X.N.Nodup) (hi : X.N[i]? = some x) (hx : Loc X.env.scope x) (hn : c.n ≤ i) (hs : swapsWith (.Dict [] [] p2) (some (.Name x pos')) pos.line X.env = pure false := by rfl)
    (hf : X.fn x = true ∨ X.env.scope.names.lookup x = some .local := by first | exact .inl rfl | exact .inr rfl | assumption) : DS c X (.Assign [.Name x pos'] (.Dict [] [] p2) pos) (setD i) := by
  refine DS.mk ⟨_, ps_set hN hi hx pe_dnewT hs hf, fun ρ σ G H D R h => ?_⟩
  intro p hp
  have S := Stp.newF (n := c.n) (o := .dT []) R hp
  have nm : ¬ Mu ρ σ p := fun z => R.muSome z hp
  exact h _ _ _ (S.setM (i := i) (m := .dct [] []) (.inl hp) (fun q z e => nm (e ▸ z)) hn ⟨R.wf.none hp, [], upd_same, rfl, .nil⟩)
theorem keys_ints (k : List Int) : (k.map (Sum.inl : Int → Key)).map kV = k.map V.int := by
  rw [List.map_map]
  rfl
theorem inl_inj {a b : List Int} (h : a.map (Sum.inl : Int → Key) = b.map Sum.inl) : a = b := by
  induction a generalizing b with
  | nil => cases b with
    | nil => rfl
    | cons _ _ => cases h
  | cons x xs ih => cases b with
    | nil => cases h
    | cons y ys =>
      rw [List.map_cons, List.map_cons] at h
      have h1 := (List.cons.inj h).1
      have h2 := (List.cons.inj h).2
      cases h1
      rw [ih h2]
theorem val_none {kvs : List (List Key × V)} {ks : List (List Int)} {k : List Int} (h : kvs.map (·.1) = ks.map (·.map Sum.inl)) (hk : k ∉ ks) : valV kvs (k.map Sum.inl) = none := by
  unfold valV
  rw [Option.map_eq_none_iff, List.find?_eq_none]
  intro kv hm z
  have z := of_decide_eq_true z
  have : kv.1 ∈ ks.map (·.map Sum.inl) := h ▸ List.mem_map.mpr ⟨kv, hm, rfl⟩
  obtain ⟨k', hk', e⟩ := List.mem_map.mp this
  rw [z] at e
  exact hk (inl_inj e ▸ hk')
def isDc : Option Sl → Bool
  | some (.mu (.dct _ _)) => true
  | _ => false
/-- xs[(a, b)] = v, xs the frame's own dict, the key not in it yet -/
def putS (i : Nat) (fv fa fb : FE) : FS := fun ρ => (fv ρ).bind fun r => if isDc r.2[i]? = true then (fa r.2).bind fun s => (fb s.2).bind fun u => match s.1, u.1, u.2[i]? with
    | .int x, .int y, some (.mu (.dct ks ds)) => if ks.length < sizeLine ∧ [x, y] ∉ ks then .ok (.nx (u.2.set i (.mu (.dct (ks ++ [[x, y]]) (ds ++ [r.1]))))) else .no
    | _, _, _ => .no
  else .no
theorem ds_put {i k2 : Nat} {pos' pt : Pos} (hu : Hu X) (h : PE X e (tVar i)) (hv : DE c X d fd) (ha : DE c X a fa) (hb : DE c X b fb)
    (h1 : starEach [b] X.env = (false, eval b X.env) :: starEach [] X.env := by rfl) (h2 : starEach [a, b] X.env = (false, eval a X.env) :: starEach [b] X.env := by rfl)
    (hs : swapsWith d (some (.Subscript e (.Tuple [a, b] k2 pt) pos')) pos.line X.env = pure false := by rfl) : DS c X (.Assign [.Subscript e (.Tuple [a, b] k2 pt) pos'] d pos) (putS i fd fa fb) := by
  obtain ⟨tv, pv, kv⟩ := hv.un
  obtain ⟨t1, p1, k1⟩ := ha.un
  obtain ⟨t2, p2, k2'⟩ := hb.un
  have hu' : X.A.units + 200 < cLine := hu
  refine DS.mk ⟨_, ps_dput (by omega) h (pe_tup (pa_cons p1 (pa_cons p2 pa_nil h1) h2)) pv hs, fun ρ σ G H D R q => ?_⟩
  refine kv ρ σ G H _ R (q.first.imp fun r q1 v G1 H1 S1 dv => ?_)
  by_cases hd : isDc r.2[i]? = true
  · rw [if_pos hd] at q1
    obtain ⟨ks0, ds0, e0⟩ : ∃ ks ds, r.2[i]? = some (.mu (.dct ks ds)) := by
      unfold isDc at hd
      split at hd
      · exact ⟨_, _, ‹_›⟩
      · cases hd
    have hi : i < σ.length := by rw [S1.rel.len]; exact (List.getElem?_eq_some_iff.mp e0).1
    obtain ⟨p, e, _⟩ := S1.rel.sl i _ _ e0 (List.getElem?_eq_getElem hi)
    have e1 : σ[i]? = some (some (.ref p)) := by rw [List.getElem?_eq_getElem hi, e]
    refine ⟨.ref p, e1, ?_⟩
    refine k1 r.2 σ G1 H1 _ S1.rel (q1.first.on S1 fun s q2 x G2 H2 S2 dx => ?_)
    have T2 := S1.trans S2
    refine k2' s.2 σ G2 H2 _ S2.rel (q2.first.on T2 fun u q3 y G3 H3 S3 dy => ?_)
    have T3 := T2.trans S3
    split at q3
    · rename_i x' y' ks ds ex ey eu
      split at q3
      · rename_i hk
        rw [ex] at dx
        rw [ey] at dy
        cases dq_int dx
        cases dq_int dy
        refine ⟨by show 2 ≤ sizeLine; rw [sizeLine_eq]; decide, fun q hq => ?_⟩
        have S4 := Stp.new (n := c.n) S3.rel hq (o := .tup [.int x', .int y']) nt_tup
        have T4 := T3.trans S4
        obtain ⟨p', ep, g, kvs, hp, hkk, dd⟩ := S4.rel.sl i _ _ eu (by rw [List.getElem?_eq_getElem hi, e])
        cases ep
        have hl : kvs.length = ks.length := by
          have := congrArg List.length hkk
          rw [List.length_map, List.length_map] at this
          exact this
        have vn := val_none hkk hk.2
        have dv4 := dv.mono (S2.ext.sG.trans (S3.ext.sG.trans S4.ext.sG))
        refine ⟨p, _, rfl, DPut.t (k := [.inl x', .inl y']) (v := v) hp upd_same (by rw [hl]; exact hk.1), ?_⟩
        refine q3 _ _ _ (T4.trans (Stp.write (n := c.n) S4.rel eu e1 hp (fun _ z => nomatch z) (fun _ z => nomatch z) ⟨g, _, upd_same, ?_, ?_⟩))
        · rw [show ([.inl x', .inl y'] : List Key) = [x', y'].map Sum.inl from rfl, putK_new v vn, List.map_append, List.map_append, hkk]
          rfl
        · rw [show ([.inl x', .inl y'] : List Key) = [x', y'].map Sum.inl from rfl, putK_new v vn, List.map_append]
          exact dd.append (.one dv4)
      · exact q3.elim
    · exact q3.elim
  · rw [if_neg hd] at q1
    exact q1.elim
end
end DL

set_option maxHeartbeats 4000000
/-! DLq: dicts with keys that are tuples of ints: read, walked. -/
namespace DL
open PySem PySem.Spec PyProof.Rows L2
def keyI : List D → Option (List Int)
  | [] => some []
  | .int i :: r => (keyI r).map (i :: ·)
  | _ => none
theorem keyI_some : ∀ {ds : List D} {ks : List Int}, keyI ds = some ks → ds = ks.map D.int
  | [], ks, h => by cases h; rfl
  | d :: r, ks, h => by
    unfold keyI at h
    split at h
    · rename_i e
      cases e
    · rename_i i r' e
      cases e
      obtain ⟨k, e1, rfl⟩ := Option.map_eq_some_iff.mp h
      rw [keyI_some e1]
      rfl
    · cases h
theorem ints_vals {K : Frag} {G : Hp} : ∀ {vs : List V} {ks : List Int}, DqAll K G vs (ks.map D.int) → vs = ks.map V.int
  | [], [], _ => rfl
  | [], _ :: _, h => by cases h
  | _ :: _, [], h => by cases h
  | v :: vs, k :: ks, h => by
    cases h with
    | cons h t =>
      rw [dq_int h, ints_vals t]
      rfl
/-- what a dict holds at a key -/
def dgetD : List (List Int) → List D → List Int → Option D
  | k :: ks, d :: ds, j => if k = j then some d else dgetD ks ds j
  | _, _, _ => none
theorem dget_val {K : Frag} {G : Hp} : ∀ {kvs : List (List Key × V)} {ks : List (List Int)} {ds : List D} {j : List Int} {d : D}, kvs.map (·.1) = ks.map (·.map Sum.inl) → DqAll K G (kvs.map (·.2)) ds → dgetD ks ds j = some d →
    ∃ v, valV kvs (j.map Sum.inl) = some v ∧ Dq K G v d
  | [], [], _, _, _, _, _, e => by cases e
  | [], _ :: _, _, _, _, h, _, _ => by cases h
  | _ :: _, [], _, _, _, h, _, _ => by cases h
  | kv :: kvs, k :: ks, [], _, _, _, a, _ => by cases a
  | kv :: kvs, k :: ks, d' :: ds, j, d, h, a, e => by
    have h1 : kv.1 = k.map Sum.inl := (List.cons.inj h).1
    have h2 := (List.cons.inj h).2
    cases a with
    | cons a t =>
      have e : (if k = j then some d' else dgetD ks ds j) = some d := e
      by_cases q : k = j
      · rw [if_pos q] at e
        cases e
        subst q
        exact ⟨kv.2, valV_pos h1, a⟩
      · rw [if_neg q] at e
        obtain ⟨v, e1, hv⟩ := dget_val h2 t e
        refine ⟨v, ?_, hv⟩
        unfold valV at e1 ⊢
        rw [List.find?_cons, decide_eq_false (fun z => q (inl_inj (h1.symm.trans z)))]
        exact e1
section
variable {c : Dc} {X : Cx} {a b e d tg : Expr} {es : List Expr} {fa fb fd f : FE} {pos : Pos}
/-- x[y], x a dict -/
def dgetE (fa fb : FE) : FE := fun ρ => (fa ρ).bind fun r => match r.1 with
  | .dct ks ds => (fb r.2).bind fun s => match s.1 with
    | .tup xs => (Rs.ofO ((keyI xs).bind (dgetD ks ds))).bind fun z => .ok (z, s.2)
    | _ => .no
  | _ => .no
theorem de_dget (hu : Hu X) (ha : DE c X a fa) (hb : DE c X b fb) (hs : PlainIx b := by intro _ _; rfl) : DE c X (.Subscript a b pos) (dgetE fa fb) := by
  obtain ⟨t1, p1, k1⟩ := ha.un
  obtain ⟨t2, p2, k2⟩ := hb.un
  have hu' : X.A.units + 200 < cLine := hu
  refine DE.mk ⟨_, pe_dgetT (by omega) p1 p2 hs, fun ρ σ G H Q R h => ?_⟩
  refine k1 ρ σ G H _ R (h.first.imp fun r h2 x G1 H1 S1 d1 => ?_)
  split at h2
  · rename_i ks ds e1
    rw [e1] at d1
    refine k2 r.2 σ G1 H1 _ S1.rel (h2.first.on S1 fun s h3 y G2 H2 S2 d2 => ?_)
    split at h3
    · rename_i xs e2
      rw [e2] at d2
      obtain ⟨z, ez, k⟩ := h3.opt
      obtain ⟨ns, e3, e4⟩ := Option.bind_eq_some_iff.mp ez
      have e5 := keyI_some e3
      subst e5
      have d1 := d1.mono S2.ext.sG
      cases d1 with
      | @dct p o kvs _ _ hg hk hd =>
        obtain ⟨q, us, rfl, hq, hus⟩ := dq_tup d2
        obtain ⟨v, ev, hv⟩ := dget_val hk hd e4
        have eu := ints_vals hus
        subst eu
        exact ⟨p, q, kvs, ns.map Sum.inl, v, rfl, rfl, .inr ⟨o, S2.rel.wf.same _ _ hg⟩, by rw [keys_ints]; exact sqT_mono S2.rel.wf.same hq, ev, k _ _ _ (S1.trans S2) hv⟩
    · exact h3.elim
  · exact h2.elim
/-- over a dict: its keys -/
def iterK (fa : FE) : FI := fun ρ => (fa ρ).bind fun r => match r.1 with
  | .dct ks _ => .ok (ks.map fun k => .tup (k.map .int), r.2)
  | _ => .no
theorem jok_keys {K : Frag} {G0 : Hp} {a : Addr} {o : Obj} {kvs : List (List Key × V)} {ks : List (List Int)} (h : G0 a = some (.frz o (.dT kvs))) (hk : kvs.map (·.1) = ks.map (·.map Sum.inl)) : JOk c K (Itkt a o kvs) G0 (ks.map fun k => D.tup (k.map .int)) where
  go := fun i ρ σ G H R s hi => by
    have hl := congrArg List.length hk
    rw [List.length_map, List.length_map] at hl
    rw [List.length_map, ← hl] at hi
    exact ⟨R.wf.same _ _ (s _ _ h), hi⟩
  stop := fun i ρ σ G H R s hi => by
    have hl := congrArg List.length hk
    rw [List.length_map, List.length_map] at hl
    rw [List.length_map, ← hl] at hi
    exact ⟨R.wf.same _ _ (s _ _ h), hi⟩
  yld := fun i dd ρ σ G H x H' R s hi hy => by
    obtain ⟨rfl, k, v, q, e1, rfl, hq⟩ := hy
    rw [List.getElem?_map] at hi
    obtain ⟨k', e2, rfl⟩ := Option.map_eq_some_iff.mp hi
    have e3 : (kvs.map (·.1))[i]? = some k := by rw [List.getElem?_map, e1]; rfl
    rw [hk, List.getElem?_map, e2] at e3
    have e4 : k'.map Sum.inl = k := Option.some.inj e3
    subst e4
    rw [keys_ints] at hq
    have S := Stp.adopt (n := c.n) R hq
    exact ⟨_, S, .tup (.of upd_same) (DqAll.ints k')⟩
theorem di_keys (ha : DE c X a fa) : DI c X tg a (iterK fa) := by
  obtain ⟨t1, p1, k1⟩ := ha.un
  refine DI.mk ⟨_, pi_keys p1, fun ρ σ G H R r h => ?_⟩
  refine k1 ρ σ G H _ r (h.first.imp fun r1 h2 v G1 H1 S d => ?_)
  obtain ⟨d0, ρ1⟩ := r1
  cases d0 with
  | dct ks ds =>
    cases d with
    | @dct p o kvs _ _ hg hk hd =>
      exact ⟨p, o, rfl, .inr ⟨kvs, S.rel.wf.same _ _ hg, h2 _ G1 H1 S (jok_keys hg hk)⟩⟩
  | _ => exact h2.elim
end
end DL

set_option maxHeartbeats 4000000
/-! DLr: sorted(set(xs)), xs a list of ints. -/
namespace DL
open PySem PySem.Spec PyProof.Rows L2
section
variable {c : Dc} {X : Cx} {a : Expr} {fa : FE} {pos : Pos}
def sortSetD : D → Option D
  | .lst ds => (keyI ds).bind fun ns => if ns.length ≤ 4000 ∧ (ssI ns).length < 64 then some (.lst ((ssI ns).map .int)) else none
  | _ => none
theorem de_sortSet {p p2 q : Pos} (hc : X.calm = true) (hm : X.mg "sorted" = none) (hm2 : X.mg "set" = none) (ha : DE c X a fa) (hg : Gl X "sorted" := by rfl) (hg2 : Gl X "set" := by rfl)
    (na : starEach [a] X.env = (false, eval a X.env) :: starEach [] X.env := by rfl)
    (nb : starEach [.Call (.Name "set" p2) [a] [] q] X.env = (false, eval (.Call (.Name "set" p2) [a] [] q) X.env) :: starEach [] X.env := by rfl)
    (np : (backTo q (starEach [] X.env)).any (·.1) = false := by rfl) (nq : (backTo pos (starEach [] X.env)).any (·.1) = false := by rfl) :
    DE c X (.Call (.Name "sorted" p) [.Call (.Name "set" p2) [a] [] q] [] pos) (unE sortSetD fa) := by
  obtain ⟨t1, p1, k1⟩ := ha.un
  refine DE.mk ⟨_, pe_callB (cr_sortedSet hc) hg hm (by decide +kernel) (pa_cons (pe_callTy (cr_setI hc) hg2 hm2 (by decide +kernel) (pa_cons p1 pa_nil na) (by decide) (by decide) na np) pa_nil nb) (by decide) (by decide) nb nq, fun ρ σ G H Q R h => ?_⟩
  refine k1 ρ σ G H _ R (h.first.imp fun r h2 x G1 H1 S1 d1 => ?_)
  obtain ⟨z, ez, k⟩ := h2.opt
  unfold sortSetD at ez
  split at ez
  · rename_i ds e1
    rw [e1] at d1
    obtain ⟨ns, e2, e3⟩ := Option.bind_eq_some_iff.mp ez
    split at e3
    · rename_i hn
      cases e3
      have e4 := keyI_some e2
      subst e4
      obtain ⟨l, us, rfl, hl, hus⟩ := dq_lst d1
      have eu := ints_vals hus
      subst eu
      refine ⟨l, ns, rfl, .inl (.inl (S1.rel.wf.same _ _ hl)), hn.1, fun q hq => ?_⟩
      have S2 := Stp.newF (n := c.n) (o := SetO X.w q (fun j => decide (j ∈ ns)) (ssI ns).length) S1.rel hq
      refine ⟨q, _, _, rfl, upd_same, hn.2, fun out p hp hm hl hn => ?_⟩
      have eo : out = ssI ns := sorted_uniq hp (ssI_sorted ns) fun k => by rw [hm k, ssI_mem, decide_eq_true_eq]
      subst eo
      exact kd_newL S2.rel (DqAll.ints _) hn fun v G3 H3 S3 d3 => k v G3 H3 ((S1.trans S2).trans S3) d3
    · cases e3
  · cases ez
end
end DL

set_option maxHeartbeats 4000000
/-! DLs: x not in range(a, b). -/
namespace L2
open PySem PySem.Spec PyProof.Rows
section
variable {X : Cx}
theorem op_notin_rng : OpR X (compareOp .NotIn) (fun x y H Q => ∃ i a lo hi, x = V.int i ∧ y = V.ref a ∧ H a = some (.rng lo hi) ∧ Q (.bl (!decide (lo ≤ i ∧ i < hi))) H) := by
  intro pins s σ H x y v u Q I rx ry h
  obtain ⟨i, a, lo, hi, rfl, rfl, ha, q⟩ := h
  obtain ⟨k, rfl⟩ := rx
  obtain rfl : u = Value.ref a := ry
  obtain ⟨t1, t2, t3, ho⟩ := I.hok a _ ha
  show wpAny _ _ (do return Value.bool (!(← contains (Value.ref a) (Value.int i k)))) _ _ s
  refine wpAny_bind (wpAny_contains_slot (T := "range") ⟨_, ho, rfl⟩ F.slot_range_contains (call_meets F.slot_range_contains ⟨_, ho, rfl⟩ F.entry_range_contains (F.args_range_contains_2 _ _) (q_contains a lo hi i t1 t2 t3 k)
    ⟨ho, wpAny_truthy_bool (wpAny_pure ⟨.bl _, H, I, rfl, ?_⟩)⟩))
  rw [place1]
  exact q
end
end L2
namespace DL
open PySem PySem.Spec PyProof.Rows L2
section
variable {c : Dc} {X : Cx} {a b d : Expr} {fa fb fd : FE} {pos : Pos}
def inRD (i lo hi : D) : Option Bool := match i, lo, hi with
  | .int i, .int lo, .int hi => some (decide (lo ≤ i ∧ i < hi))
  | _, _, _ => none
def notInRE (fa fb fd : FE) : FE := fun ρ => (fa ρ).bind fun r => (fb r.2).bind fun s => (fd s.2).bind fun u => (Rs.ofO (inRD r.1 s.1 u.1)).bind fun k => .ok (.bl (!k), u.2)
theorem notInR_of {t1 t2 t3 : TE}
    (k1 : ∀ (ρ : Rho) (σ : L2.St) (G H : Hp) (Q : VK), Rel X.K c.T G ρ σ H → Sat c (Mu ρ σ) G H (fa ρ) (fun r => ∀ v G' H', Stp X.K c.T c.n ρ σ G H r.2 σ G' H' → Dq X.K G' v r.1 → Q v H') → t1 σ H Q)
    (k2 : ∀ (ρ : Rho) (σ : L2.St) (G H : Hp) (Q : VK), Rel X.K c.T G ρ σ H → Sat c (Mu ρ σ) G H (fb ρ) (fun r => ∀ v G' H', Stp X.K c.T c.n ρ σ G H r.2 σ G' H' → Dq X.K G' v r.1 → Q v H') → t2 σ H Q)
    (k3 : ∀ (ρ : Rho) (σ : L2.St) (G H : Hp) (Q : VK), Rel X.K c.T G ρ σ H → Sat c (Mu ρ σ) G H (fd ρ) (fun r => ∀ v G' H', Stp X.K c.T c.n ρ σ G H r.2 σ G' H' → Dq X.K G' v r.1 → Q v H') → t3 σ H Q) :
    ∀ (ρ : Rho) (σ : L2.St) (G H : Hp) (Q : VK), Rel X.K c.T G ρ σ H → Sat c (Mu ρ σ) G H (notInRE fa fb fd ρ) (fun r => ∀ v G' H', Stp X.K c.T c.n ρ σ G H r.2 σ G' H' → Dq X.K G' v r.1 → Q v H') →
      tOp (fun x y H Q => ∃ i a lo hi, x = V.int i ∧ y = V.ref a ∧ H a = some (.rng lo hi) ∧ Q (.bl (!decide (lo ≤ i ∧ i < hi))) H) t1 (tCB (fun vs H Q => ∃ i j, vs = [V.int i, V.int j] ∧ ∀ p, H p = none → Q (.ref p) (upd H p (.rng i j))) (tCons t2 (tCons t3 tNil))) σ H Q := by
  intro ρ σ G H Q R h
  refine k1 ρ σ G H _ R (h.first.imp fun r1 q1 x G1 H1 S1 d1 => ?_)
  refine k2 r1.2 σ G1 H1 _ S1.rel (q1.first.on S1 fun r2 q2 y G2 H2 S2 d2 => ?_)
  have T2 := S1.trans S2
  refine k3 r2.2 σ G2 H2 _ S2.rel (q2.first.on T2 fun r3 q3 z G3 H3 S3 d3 => ?_)
  have T3 := T2.trans S3
  obtain ⟨k, ek, kk⟩ := q3.opt
  unfold inRD at ek
  split at ek
  · rename_i i lo hi e1 e2 e3
    cases ek
    rw [e1] at d1
    rw [e2] at d2
    rw [e3] at d3
    cases dq_int d1
    cases dq_int d2
    cases dq_int d3
    refine ⟨lo, hi, rfl, fun l hl => ⟨i, l, lo, hi, rfl, rfl, upd_same, ?_⟩⟩
    have S4 := Stp.newF (n := c.n) (o := .rng lo hi) S3.rel hl
    exact kk _ _ _ (T3.trans S4) (.bl _)
  · cases ek
theorem de_notInR {p q : Pos} (hm : X.mg "range" = none) (ha : DE c X a fa) (hb : DE c X b fb) (hd : DE c X d fd) (hg : Gl X "range" := by rfl)
    (h1 : starEach [d] X.env = (false, eval d X.env) :: starEach [] X.env := by rfl) (h2 : starEach [b, d] X.env = (false, eval b X.env) :: starEach [d] X.env := by rfl) (hp : (backTo q (starEach [d] X.env)).any (·.1) = false := by rfl)
    (hk : behindInMarks .NotIn (.Call (.Name "range" p) [b, d] [] q) = false := by rfl) : DE c X (.Compare a [.NotIn] [.Call (.Name "range" p) [b, d] [] q] pos) (notInRE fa fb fd) := by
  obtain ⟨t1, p1, k1⟩ := ha.un
  obtain ⟨t2, p2, k2⟩ := hb.un
  obtain ⟨t3, p3, k3⟩ := hd.un
  exact DE.mk ⟨_, pe_cmpR op_notin_rng p1 (pe_callTy cr_range2 hg hm (by decide +kernel) (pa_cons p2 (pa_cons p3 pa_nil h1) h2) (by decide) (by decide) h2 hp) hk, notInR_of k1 k2 k3⟩
theorem db_notInR {p q : Pos} (hm : X.mg "range" = none) (ha : DE c X a fa) (hb : DE c X b fb) (hd : DE c X d fd) (hg : Gl X "range" := by rfl)
    (h1 : starEach [d] X.env = (false, eval d X.env) :: starEach [] X.env := by rfl) (h2 : starEach [b, d] X.env = (false, eval b X.env) :: starEach [d] X.env := by rfl) (hp : (backTo q (starEach [d] X.env)).any (·.1) = false := by rfl)
    (hk : behindInMarks .NotIn (.Call (.Name "range" p) [b, d] [] q) = false := by rfl) : DB c X (.Compare a [.NotIn] [.Call (.Name "range" p) [b, d] [] q] pos) (tstB (notInRE fa fb fd)) := by
  obtain ⟨t1, p1, k1⟩ := ha.un
  obtain ⟨t2, p2, k2⟩ := hb.un
  obtain ⟨t3, p3, k3⟩ := hd.un
  exact DB.mk ⟨_, pt_cmpR op_notin_rng p1 (pe_callTy cr_range2 hg hm (by decide +kernel) (pa_cons p2 (pa_cons p3 pa_nil h1) h2) (by decide) (by decide) h2 hp) hk, tst_of (notInR_of k1 k2 k3)⟩
end
/-- a def that calls itself: nothing is promised with no fuel -/
theorem fn_no {P : Program} {w : World} {K : Frag} {mg : Str → Option Value} {base : Heap} {T : List (Addr × Str)} {cl : Xc → Addr} {k : Nat} {f : Addr} {fd : FuncData} {ps : List Str} : FnOk P w K mg base (L2N.CX P w) k f fd ps (spD K T cl (fun _ => .no)) :=
  ⟨fun _ _ _ _ ⟨_, _, _, h⟩ => h.elim, fun _ _ _ _ _ _ _ _ _ _ _ _ _ ⟨_, _, _, h⟩ => h.elim⟩
end DL

set_option maxHeartbeats 4000000
/-! DLt: an int or a bool, more or less an int. -/
namespace L2
open PySem PySem.Spec PyProof.Rows
section
variable {X : Cx}
def iB (k : Bool) : Int := if k = true then 1 else 0
theorem op_add_bi : OpR X (binaryOp .Add) (fun x y H Q => ∃ k i, x = V.bl k ∧ y = V.int i ∧ Q (.int (iB k + i)) H) := by
  intro pins s σ H x y v u Q I rx ry h
  obtain ⟨k, i, rfl, rfl, q⟩ := h
  obtain ⟨t, rfl⟩ := ry
  cases rx
  exact PySem.IntBool.add_bool_int ⟨.int (iB k + i), H, I.tok _, ⟨_, rfl⟩, q⟩
theorem op_sub_bi : OpR X (binaryOp .Sub) (fun x y H Q => ∃ k i, x = V.bl k ∧ y = V.int i ∧ Q (.int (iB k - i)) H) := by
  intro pins s σ H x y v u Q I rx ry h
  obtain ⟨k, i, rfl, rfl, q⟩ := h
  obtain ⟨t, rfl⟩ := ry
  cases rx
  exact PySem.IntBool.sub_bool_int ⟨.int (iB k - i), H, I.tok _, ⟨_, rfl⟩, q⟩
end
end L2
namespace DL
open PySem PySem.Spec PyProof.Rows L2
section
variable {c : Dc} {X : Cx} {a b : Expr} {fa fb : FE} {pos : Pos}
def addBD : D → D → Option D
  | .int i, .int j => some (.int (i + j))
  | .bl k, .int j => some (.int (iB k + j))
  | _, _ => none
def subBD : D → D → Option D
  | .int i, .int j => some (.int (i - j))
  | .bl k, .int j => some (.int (iB k - j))
  | _, _ => none
theorem de_addB (ha : DE c X a fa) (hb : DE c X b fb) : DE c X (.BinOp a .Add b pos) (binE addBD fa fb) := by
  refine de_op (op_add.or op_add_bi) (fun ρ σ G H x y dx dy z Q R hx hy e k => ?_) ha hb
  unfold addBD at e
  split at e
  · cases e
    exact .inl ⟨_, _, dq_int hx, dq_int hy, k _ _ _ (.refl R) (.int _)⟩
  · cases e
    exact .inr ⟨_, _, dq_bl hx, dq_int hy, k _ _ _ (.refl R) (.int _)⟩
  · cases e
theorem de_subB (ha : DE c X a fa) (hb : DE c X b fb) : DE c X (.BinOp a .Sub b pos) (binE subBD fa fb) := by
  refine de_op (op_sub.or op_sub_bi) (fun ρ σ G H x y dx dy z Q R hx hy e k => ?_) ha hb
  unfold subBD at e
  split at e
  · cases e
    exact .inl ⟨_, _, dq_int hx, dq_int hy, k _ _ _ (.refl R) (.int _)⟩
  · cases e
    exact .inr ⟨_, _, dq_bl hx, dq_int hy, k _ _ _ (.refl R) (.int _)⟩
  · cases e
end
end DL

set_option maxHeartbeats 4000000
/-! printed by genpk.py: the defs that the laws share, as functions on data -/
namespace PK
open PySem PySem.Spec PyProof.Rows L2 DL
abbrev K_MOST_PARTS : D := .int 8
abbrev K_LARGEST : D := .int 1000000000
abbrev K_MARKS : D := .tup [.str (PySem.Str.ofString "next"), .str (PySem.Str.ofString "whole")]
abbrev K_MOST_FACTS : D := .int 20
abbrev K_HOUSE : D := .tup [.int 2, .int 2]
def b_is_whole : FS := (retS (andE (isiE "int" (varE 0)) (andE (notE (isiE "bool" (varE 0))) (chainE leD leD (varE 1) (varE 0) (varE 2)))))
def f_is_whole : FD := defF 3 3 b_is_whole
def b_are_marks : FS := (seqS (ifS (orB (notB (tstB (isiE "tuple" (varE 0)))) (notB (tstB (callE allD (consA (lcE (iterS (varE 0)) (nameG 2) yesB (andE (isiE "str" (varE 2)) (binE inE (varE 2) (varE 1))) [2]) nilA))))) (retS (retE (.bl false))) nxS)
  (retS (callE allD (consA (lcE (iterZ (consA (varE 0) (consA (slE (varE 0) (someO (retE (.int 1))) noO) nilA))) (tupG 2 (consG (nameG 3) (consG (nameG 4) nilG))) yesB (binE ltD (varE 3) (varE 4)) [3, 4]) nilA))))
def f_are_marks : FD := defF 2 5 b_are_marks
def b_is_part : FS := (seqS (ifS (orB (notB (tstB (isiE "tuple" (varE 0)))) (orB (tstB (binE eqE (varE 0) (tupE nilA))) (notB (tstB (isiE "str" (binE ixD (varE 0) (retE (.int 0)))))))) (retS (retE (.bl false))) nxS)
  (seqS (ifS (tstB (binE eqE (binE ixD (varE 0) (retE (.int 0))) (retE (.str (PySem.Str.ofString "break"))))) (retS (binE eqE (callE lenD (consA (varE 0) nilA)) (retE (.int 1)))) nxS)
  (seqS (ifS (tstB (binE neE (callE lenD (consA (varE 0) nilA)) (retE (.int 3)))) (retS (retE (.bl false))) nxS)
  (seqS (ifS (tstB (binE eqE (binE ixD (varE 0) (retE (.int 0))) (retE (.str (PySem.Str.ofString "block"))))) (retS (andE (callD f_is_whole (consAr (binE ixD (varE 0) (retE (.int 1))) (consAr (retE (.int 1)) (consAr (retE (.int 9)) nilAr)))) (callD f_are_marks (consAr (binE ixD (varE 0) (retE (.int 2))) (consAr (tupE (consA (retE (.str (PySem.Str.ofString "next"))) nilA)) nilAr))))) nxS)
  (seqS (ifS (orB (tstB (binE neE (binE ixD (varE 0) (retE (.int 0))) (retE (.str (PySem.Str.ofString "text"))))) (orB (notB (tstB (isiE "tuple" (binE ixD (varE 0) (retE (.int 1)))))) (notB (tstB (chainE leD leD (retE (.int 1)) (callE lenD (consA (binE ixD (varE 0) (retE (.int 1))) nilA)) (retE (.int 12))))))) (retS (retE (.bl false))) nxS)
  (retS (andE (callE allD (consA (lcE (iterS (binE ixD (varE 0) (retE (.int 1)))) (nameG 1) yesB (callD f_is_whole (consAr (varE 1) (consAr (retE (.int 1)) (consAr (retE (.int 9)) nilAr)))) [1]) nilA)) (callD f_are_marks (consAr (binE ixD (varE 0) (retE (.int 2))) (consAr (retE (K_MARKS)) nilAr))))))))))
def f_is_part : FD := defF 1 2 b_is_part
def b_is_document : FS := (seqS (ifS (orB (notB (tstB (isiE "tuple" (varE 0)))) (orB (notB (tstB (chainE leD leD (retE (.int 1)) (callE lenD (consA (varE 0) nilA)) (retE (K_MOST_PARTS))))) (notB (tstB (callE allD (consA (lcE (iterS (varE 0)) (nameG 1) yesB (callD f_is_part (consAr (varE 1) nilAr)) [1]) nilA)))))) (retS (retE (.bl false))) nxS)
  (retS (notE (callE allD (consA (lcE (iterS (varE 0)) (nameG 1) yesB (binE eqE (binE ixD (varE 1) (retE (.int 0))) (retE (.str (PySem.Str.ofString "break")))) [1]) nilA)))))
def f_is_document : FD := defF 1 2 b_is_document
def b_is_rules : FS := (retS (andE (isiE "tuple" (varE 0)) (andE (binE eqE (callE lenD (consA (varE 0) nilA)) (retE (.int 2))) (callE allD (consA (lcE (iterS (varE 0)) (nameG 1) yesB (callD f_is_whole (consAr (varE 1) (consAr (retE (.int 1)) (consAr (retE (.int 3)) nilAr)))) [1]) nilA)))))
def f_is_rules : FD := defF 1 2 b_is_rules
def b_need_document : FS := (ifS (notB (tstB (callD f_is_document (consAr (varE 0) nilAr)))) (raiseS .doc) nxS)
def f_need_document : FD := defF 1 1 b_need_document
def b_need_rules : FS := (ifS (notB (tstB (callD f_is_rules (consAr (varE 0) nilAr)))) (raiseS .rules) nxS)
def f_need_rules : FD := defF 1 1 b_need_rules
def b_need_both : FS := (seqS (dropS (callD f_need_document (consAr (varE 0) nilAr)))
  (dropS (callD f_need_rules (consAr (varE 1) nilAr))))
def f_need_both : FD := defF 2 2 b_need_both
def b_words_in : FS := (retS (lcE (iterS (varE 0)) (nameG 1) (tstB (binE eqE (binE ixD (varE 1) (retE (.int 0))) (retE (.str (PySem.Str.ofString "text"))))) (binE ixD (varE 1) (retE (.int 1))) [1]))
def f_words_in : FD := defF 1 2 b_words_in
def b_least_width : FS := (retS (callE maxD (consA (binE addD (lstE (consA (retE (.int 1)) nilA)) (lc2E (iterS (callD f_words_in (consAr (varE 0) nilAr))) (nameG 1) yesB (iterS (varE 1)) (nameG 2) yesB (varE 2) [1, 2] [2])) nilA)))
def f_least_width : FD := defF 1 3 b_least_width
def b_widest_width : FS := (retS (callE maxD (consA (binE addD (lstE (consA (callD f_least_width (consAr (varE 0) nilAr)) nilA)) (lcE (iterS (callD f_words_in (consAr (varE 0) nilAr))) (nameG 1) yesB (binE subD (binE addD (callE sumD (consA (varE 1) nilA)) (callE lenD (consA (varE 1) nilA))) (retE (.int 1))) [1])) nilA)))
def f_widest_width : FD := defF 1 2 b_widest_width
def b_narrowest : FS := (seqS (dropS (callD f_need_document (consAr (varE 0) nilAr)))
  (retS (callD f_least_width (consAr (varE 0) nilAr))))
def f_narrowest : FD := defF 1 1 b_narrowest
def b_widest : FS := (seqS (dropS (callD f_need_document (consAr (varE 0) nilAr)))
  (retS (callD f_widest_width (consAr (varE 0) nilAr))))
def f_widest : FD := defF 1 1 b_widest
def b_need_width : FS := (ifS (notB (tstB (callD f_is_whole (consAr (varE 1) (consAr (callD f_least_width (consAr (varE 0) nilAr)) (consAr (retE (K_LARGEST)) nilAr)))))) (raiseS .size) nxS)
def f_need_width : FD := defF 2 2 b_need_width
def b_need_height : FS := (ifS (notB (tstB (callD f_is_whole (consAr (varE 0) (consAr (retE (.int 1)) (consAr (retE (K_LARGEST)) nilAr)))))) (raiseS .size) nxS)
def f_need_height : FD := defF 1 1 b_need_height
def b_need_part : FS := (ifS (orB (notB (tstB (callD f_is_whole (consAr (varE 1) (consAr (retE (.int 0)) (consAr (binE subD (callE lenD (consA (varE 0) nilA)) (retE (.int 1))) nilAr)))))) (tstB (binE eqE (binE ixD (binE ixD (varE 0) (varE 1)) (retE (.int 0))) (retE (.str (PySem.Str.ofString "break")))))) (raiseS .part) nxS)
def f_need_part : FD := defF 2 2 b_need_part
def b_row_count : FS := (seqS (ifS (tstB (binE neE (binE ixD (varE 0) (retE (.int 0))) (retE (.str (PySem.Str.ofString "text"))))) (retS (ifE (tstB (binE eqE (binE ixD (varE 0) (retE (.int 0))) (retE (.str (PySem.Str.ofString "block"))))) (binE ixD (varE 0) (retE (.int 1))) (retE (.int 0)))) nxS)
  (seqS (asgS (tupE (consA (retE (.int 1)) (consA (retE (.int 0)) nilA))) (tupG 2 (consG (nameG 2) (consG (nameG 3) nilG))))
  (seqS (forS (iterS (binE ixD (varE 0) (retE (.int 1)))) (nameG 4) (ifS (tstB (binE eqE (varE 3) (retE (.int 0)))) (asgS (varE 4) (nameG 3)) (ifS (tstB (binE leD (binE addD (binE addD (varE 3) (retE (.int 1))) (varE 4)) (varE 1))) (asgS (binE addD (binE addD (varE 3) (retE (.int 1))) (varE 4)) (nameG 3)) (parS 2 3 (consA (binE addD (varE 2) (retE (.int 1))) (consA (varE 4) nilA))))))
  (retS (varE 2)))))
def f_row_count : FD := defF 2 5 b_row_count
def b_counts_at : FS := (retS (lcE (iterS (varE 0)) (nameG 2) yesB (callD f_row_count (consAr (varE 2) (consAr (varE 1) nilAr))) [2]))
def f_counts_at : FD := defF 2 3 b_counts_at
def b_rows_with : FS := (retS (lc2E (iterE (consA (varE 0) nilA)) (tupG 2 (consG (nameG 1) (consG (nameG 2) nilG))) yesB (iterR1 (consA (varE 2) nilA)) (nameG 3) yesB (tupE (consA (varE 1) (consA (varE 3) nilA))) [1, 2, 3] [3]))
def f_rows_with : FD := defF 1 4 b_rows_with
def b_rows_at : FS := (seqS (dropS (callD f_need_document (consAr (varE 0) nilAr)))
  (seqS (dropS (callD f_need_width (consAr (varE 0) (consAr (varE 1) nilAr))))
  (retS (callD f_rows_with (consAr (callD f_counts_at (consAr (varE 0) (consAr (varE 1) nilAr))) nilAr)))))
def f_rows_at : FD := defF 2 2 b_rows_at
def b_places_with : FS := (seqS (asgS (callD f_rows_with (consAr (varE 2) nilAr)) (nameG 3))
  (seqS (parS 4 5 (consA (lstE nilA) (consA (lstE nilA) nilA)))
  (seqS (forS (iterR2 (consA (retE (.int 1)) (consA (callE lenD (consA (varE 3) nilA)) nilA))) (nameG 6) (seqS (asgS (tupE (consA (binE ixD (varE 3) (binE subD (varE 6) (retE (.int 1)))) (consA (binE ixD (varE 3) (varE 6)) nilA))) (tupG 2 (consG (tupG 2 (consG (nameG 7) (consG (nameG 8) nilG))) (consG (tupG 2 (consG (nameG 9) (consG (nameG 10) nilG))) nilG))))
  (ifS (tstB (binE eqE (varE 7) (varE 9))) (seqS (parS 11 12 (consA (binE addD (varE 8) (retE (.int 1))) (consA (binE subD (binE subD (binE ixD (varE 2) (varE 7)) (varE 8)) (retE (.int 1))) nilA)))
  (ifS (andB (tstB (binE eqE (binE ixD (binE ixD (varE 0) (varE 7)) (retE (.int 0))) (retE (.str (PySem.Str.ofString "text"))))) (tstB (binE notInE (retE (.str (PySem.Str.ofString "whole"))) (binE ixD (binE ixD (varE 0) (varE 7)) (retE (.int 2)))))) (ifS (andB (tstB (binE geD (varE 11) (binE ixD (varE 1) (retE (.int 0))))) (tstB (binE geD (varE 12) (binE ixD (varE 1) (retE (.int 1)))))) (asgS (binE addD (varE 4) (lstE (consA (varE 6) nilA))) (nameG 4)) nxS) nxS)) (ifS (tstB (binE inE (tupE (consA (retE (.str (PySem.Str.ofString "break"))) nilA)) (slE (varE 0) (someO (binE addD (varE 7) (retE (.int 1)))) (someO (varE 9))))) (asgS (binE addD (varE 5) (lstE (consA (varE 6) nilA))) (nameG 5)) (ifS (tstB (binE notInE (retE (.str (PySem.Str.ofString "next"))) (binE ixD (binE ixD (varE 0) (varE 7)) (retE (.int 2))))) (asgS (binE addD (varE 4) (lstE (consA (varE 6) nilA))) (nameG 4)) nxS)))))
  (retS (tupE (consA (varE 4) (consA (varE 5) nilA)))))))
def f_places_with : FD := defF 3 13 b_places_with
def b_free_places : FS := (seqS (dropS (callD f_need_both (consAr (varE 0) (consAr (varE 1) nilAr))))
  (seqS (dropS (callD f_need_width (consAr (varE 0) (consAr (varE 2) nilAr))))
  (retS (binE ixD (callD f_places_with (consAr (varE 0) (consAr (varE 1) (consAr (callD f_counts_at (consAr (varE 0) (consAr (varE 2) nilAr))) nilAr)))) (retE (.int 0))))))
def f_free_places : FD := defF 3 3 b_free_places
def b_forced_places : FS := (seqS (dropS (callD f_need_document (consAr (varE 0) nilAr)))
  (seqS (dropS (callD f_need_width (consAr (varE 0) (consAr (varE 1) nilAr))))
  (retS (binE ixD (callD f_places_with (consAr (varE 0) (consAr (tupE (consA (retE (.int 1)) (consA (retE (.int 1)) nilA))) (consAr (callD f_counts_at (consAr (varE 0) (consAr (varE 1) nilAr))) nilAr)))) (retE (.int 1))))))
def f_forced_places : FD := defF 2 2 b_forced_places
def b_setting : FS := (seqS (asgS (callD f_counts_at (consAr (varE 0) (consAr (varE 2) nilAr))) (nameG 3))
  (seqS (asgS (callD f_places_with (consAr (varE 0) (consAr (varE 1) (consAr (varE 3) nilAr)))) (tupG 2 (consG (nameG 4) (consG (nameG 5) nilG))))
  (retS (tupE (consA (callE sumD (consA (varE 3) nilA)) (consA (varE 4) (consA (binE addD (varE 5) (lstE (consA (callE sumD (consA (varE 3) nilA)) nilA))) nilA)))))))
def f_setting : FD := defF 3 6 b_setting
def b_filled : FS := (seqS (asgS (varE 0) (tupG 3 (consG (nameG 2) (consG (nameG 3) (consG (nameG 4) nilG)))))
  (seqS (asgS (tupE (consA (lstE nilA) (consA (lstE nilA) (consA (retE (.int 0)) nilA)))) (tupG 3 (consG (nameG 5) (consG (nameG 6) (consG (nameG 7) nilG)))))
  (seqS (whileD (tstB (binE ltD (varE 7) (varE 2))) (seqS (asgS (callE minD (consA (lcE (iterS (varE 4)) (nameG 10) (tstB (binE gtD (varE 10) (varE 7))) (varE 10) [10]) nilA)) (nameG 8))
  (seqS (ifS (tstB (binE gtD (binE subD (varE 8) (varE 7)) (varE 1))) (seqS (asgS (lcE (iterS (varE 3)) (nameG 10) (tstB (chainE ltD leD (varE 7) (varE 10) (binE addD (varE 7) (varE 1)))) (varE 10) [10]) (nameG 9))
  (seqS (asgS (ifE (tstB (binE neE (varE 9) (lstE nilA))) (callE maxD (consA (varE 9) nilA)) (binE addD (varE 7) (varE 1))) (nameG 8))
  (asgS (binE addD (varE 6) (ifE (tstB (binE neE (varE 9) (lstE nilA))) (lstE nilA) (lstE (consA (callE lenD (consA (varE 5) nilA)) nilA)))) (nameG 6)))) nxS)
  (seqS (asgS (binE addD (varE 5) (lstE (consA (varE 8) nilA))) (nameG 5))
  (asgS (varE 8) (nameG 7))))) 1000000)
  (retS (tupE (consA (varE 5) (consA (varE 6) nilA)))))))
def f_filled : FD := defF 2 11 b_filled
def b_sheets : FS := (seqS (asgS (binE ixD (callD f_filled (consAr (varE 0) (consAr (varE 1) nilAr))) (retE (.int 0))) (nameG 2))
  (retS (lcE (iterZ (consA (binE addD (lstE (consA (retE (.int 0)) nilA)) (varE 2)) (consA (varE 2) nilA))) (tupG 2 (consG (nameG 3) (consG (nameG 4) nilG))) yesB (binE subD (varE 4) (varE 3)) [3, 4])))
def f_sheets : FD := defF 2 5 b_sheets
def b_need_all : FS := (seqS (dropS (callD f_need_both (consAr (varE 0) (consAr (varE 1) nilAr))))
  (seqS (dropS (callD f_need_width (consAr (varE 0) (consAr (varE 2) nilAr))))
  (dropS (callD f_need_height (consAr (varE 3) nilAr)))))
def f_need_all : FD := defF 4 4 b_need_all
def b_pages : FS := (seqS (dropS (callD f_need_all (consAr (varE 0) (consAr (varE 1) (consAr (varE 2) (consAr (varE 3) nilAr))))))
  (retS (callD f_sheets (consAr (callD f_setting (consAr (varE 0) (consAr (varE 1) (consAr (varE 2) nilAr)))) (consAr (varE 3) nilAr)))))
def f_pages : FD := defF 4 4 b_pages
def b_begins : FS := (seqS (dropS (callD f_need_all (consAr (varE 0) (consAr (varE 1) (consAr (varE 2) (consAr (varE 3) nilAr))))))
  (seqS (asgS (callD f_rows_with (consAr (callD f_counts_at (consAr (varE 0) (consAr (varE 2) nilAr))) nilAr)) (nameG 4))
  (retS (lcE (iterS (binE addD (lstE (consA (retE (.int 0)) nilA)) (slE (binE ixD (callD f_filled (consAr (callD f_setting (consAr (varE 0) (consAr (varE 1) (consAr (varE 2) nilAr)))) (consAr (varE 3) nilAr))) (retE (.int 0))) noO (someO (unE negD (retE (.int 1))))))) (nameG 5) yesB (binE ixD (varE 4) (varE 5)) [5]))))
def f_begins : FD := defF 4 6 b_begins
def b_torn : FS := (seqS (dropS (callD f_need_all (consAr (varE 0) (consAr (varE 1) (consAr (varE 2) (consAr (varE 3) nilAr))))))
  (retS (binE ixD (callD f_filled (consAr (callD f_setting (consAr (varE 0) (consAr (varE 1) (consAr (varE 2) nilAr)))) (consAr (varE 3) nilAr))) (retE (.int 1)))))
def f_torn : FD := defF 4 4 b_torn
def b_page_at : FS := (retS (callE lenD (consA (lcE (iterS (varE 0)) (nameG 2) (tstB (binE leD (varE 2) (varE 1))) (varE 2) [2]) nilA)))
def f_page_at : FD := defF 2 3 b_page_at
def b_first_row : FS := (retS (callE sumD (consA (slE (varE 0) noO (someO (varE 1))) nilA)))
def f_first_row : FD := defF 2 2 b_first_row
def b_page_of : FS := (seqS (dropS (callD f_need_all (consAr (varE 0) (consAr (varE 1) (consAr (varE 2) (consAr (varE 3) nilAr))))))
  (seqS (dropS (callD f_need_part (consAr (varE 0) (consAr (varE 4) nilAr))))
  (seqS (asgS (binE ixD (callD f_filled (consAr (callD f_setting (consAr (varE 0) (consAr (varE 1) (consAr (varE 2) nilAr)))) (consAr (varE 3) nilAr))) (retE (.int 0))) (nameG 5))
  (retS (callD f_page_at (consAr (varE 5) (consAr (callD f_first_row (consAr (callD f_counts_at (consAr (varE 0) (consAr (varE 2) nilAr))) (consAr (varE 4) nilAr))) nilAr)))))))
def f_page_of : FD := defF 5 6 b_page_of
def b_numbers_of : FS := (retS (lcE (iterR2 (consA (retE (.int 1)) (consA (binE addD (binE ixD (varE 0) (retE (.int 0))) (retE (.int 1))) nilA))) (nameG 1) yesB (callE lenD (consA (binE ixD (callD f_filled (consAr (varE 0) (consAr (varE 1) nilAr))) (retE (.int 0))) nilA)) [1]))
def f_numbers_of : FD := defF 1 2 b_numbers_of
def b_page_counts : FS := (seqS (dropS (callD f_need_both (consAr (varE 0) (consAr (varE 1) nilAr))))
  (seqS (dropS (callD f_need_width (consAr (varE 0) (consAr (varE 2) nilAr))))
  (seqS (asgS (callD f_numbers_of (consAr (callD f_setting (consAr (varE 0) (consAr (varE 1) (consAr (varE 2) nilAr)))) nilAr)) (nameG 3))
  (seqS (setF 4 (lstF nilA))
  (seqS (forS (iterE (consA (varE 3) nilA)) (tupG 2 (consG (nameG 5) (consG (nameG 6) nilG))) (ifS (orB (tstB (binE eqE (varE 5) (retE (.int 0)))) (tstB (binE neE (binE ixD (varE 3) (binE subD (varE 5) (retE (.int 1)))) (varE 6)))) (appS 4 (tupE (consA (binE addD (varE 5) (retE (.int 1))) (consA (varE 6) nilA)))) nxS))
  (retS (moveE 4)))))))
def f_page_counts : FD := defF 3 7 b_page_counts
def b_whole_height : FS := (seqS (asgS (binE ixD (varE 0) (retE (.int 0))) (nameG 1))
  (seqS (whileD (andB (tstB (binE gtD (varE 1) (retE (.int 1)))) (tstB (binE eqE (binE ixD (callD f_filled (consAr (varE 0) (consAr (binE subD (varE 1) (retE (.int 1))) nilAr))) (retE (.int 1))) (lstE nilA)))) (asgS (binE subD (varE 1) (retE (.int 1))) (nameG 1)) 1000000)
  (retS (varE 1))))
def f_whole_height : FD := defF 1 2 b_whole_height
def b_whole_from : FS := (seqS (dropS (callD f_need_both (consAr (varE 0) (consAr (varE 1) nilAr))))
  (seqS (dropS (callD f_need_width (consAr (varE 0) (consAr (varE 2) nilAr))))
  (retS (callD f_whole_height (consAr (callD f_setting (consAr (varE 0) (consAr (varE 1) (consAr (varE 2) nilAr)))) nilAr)))))
def f_whole_from : FD := defF 3 3 b_whole_from
def b_heights_for : FS := (seqS (dropS (callD f_need_both (consAr (varE 0) (consAr (varE 1) nilAr))))
  (seqS (dropS (callD f_need_width (consAr (varE 0) (consAr (varE 2) nilAr))))
  (seqS (ifS (notB (tstB (callD f_is_whole (consAr (varE 3) (consAr (retE (.int 1)) (consAr (retE (.int 1000)) nilAr)))))) (raiseS .size) nxS)
  (seqS (asgS (binE addD (callD f_numbers_of (consAr (callD f_setting (consAr (varE 0) (consAr (varE 1) (consAr (varE 2) nilAr)))) nilAr)) (lstE (consA (retE .non) nilA))) (nameG 4))
  (seqS (parS 5 6 (consA (lstE nilA) (consA (retE .non) nilA)))
  (seqS (forS (iterE (consA (varE 4) nilA)) (tupG 2 (consG (nameG 7) (consG (nameG 8) nilG))) (ifS (tstB (binE eqE (varE 8) (varE 3))) (asgS (ifE (tstB (binE isE (varE 6) (retE .non))) (binE addD (varE 7) (retE (.int 1))) (varE 6)) (nameG 6)) (ifS (tstB (binE isNotE (varE 6) (retE .non))) (seqS (asgS (binE addD (varE 5) (lstE (consA (tupE (consA (varE 6) (consA (ifE (tstB (binE isE (varE 8) (retE .non))) (retE .non) (varE 7)) nilA))) nilA))) (nameG 5))
  (asgS (retE .non) (nameG 6))) nxS)))
  (retS (varE 5))))))))
def f_heights_for : FD := defF 4 9 b_heights_for
def b_all_widths : FS := (retS (listRgE (callD f_least_width (consAr (varE 0) nilAr)) (binE addD (callD f_widest_width (consAr (varE 0) nilAr)) (retE (.int 1)))))
def f_all_widths : FD := defF 1 1 b_all_widths
def b_safe_height : FS := (seqS (dropS (callD f_need_both (consAr (varE 0) (consAr (varE 1) nilAr))))
  (retS (callE maxD (consA (lcE (iterS (callD f_all_widths (consAr (varE 0) nilAr))) (nameG 2) yesB (callD f_whole_height (consAr (callD f_setting (consAr (varE 0) (consAr (varE 1) (consAr (varE 2) nilAr)))) nilAr)) [2]) nilA))))
def f_safe_height : FD := defF 2 3 b_safe_height
def b_numbers_at : FS := (retS (lcE (iterS (callD f_all_widths (consAr (varE 0) nilAr))) (nameG 3) yesB (callE lenD (consA (binE ixD (callD f_filled (consAr (callD f_setting (consAr (varE 0) (consAr (varE 1) (consAr (varE 3) nilAr)))) (consAr (varE 2) nilAr))) (retE (.int 0))) nilA)) [3]))
def f_numbers_at : FD := defF 3 4 b_numbers_at
def b_most_pages : FS := (seqS (dropS (callD f_need_both (consAr (varE 0) (consAr (varE 1) nilAr))))
  (seqS (dropS (callD f_need_height (consAr (varE 2) nilAr)))
  (retS (callE maxD (consA (callD f_numbers_at (consAr (varE 0) (consAr (varE 1) (consAr (varE 2) nilAr)))) nilA)))))
def f_most_pages : FD := defF 3 3 b_most_pages
def b_fewest_pages : FS := (seqS (dropS (callD f_need_both (consAr (varE 0) (consAr (varE 1) nilAr))))
  (seqS (dropS (callD f_need_height (consAr (varE 2) nilAr)))
  (retS (callE minD (consA (callD f_numbers_at (consAr (varE 0) (consAr (varE 1) (consAr (varE 2) nilAr)))) nilA)))))
def f_fewest_pages : FD := defF 3 3 b_fewest_pages
def b_first_wider : FS := (seqS (forS (iterS (slE (callD f_all_widths (consAr (varE 0) nilAr)) noO (someO (unE negD (retE (.int 1)))))) (nameG 2) (seqS (parS 3 4 (consA (callD f_setting (consAr (varE 0) (consAr (varE 1) (consAr (varE 2) nilAr)))) (consA (callD f_setting (consAr (varE 0) (consAr (varE 1) (consAr (binE addD (varE 2) (retE (.int 1))) nilAr)))) nilA)))
  (forS (iterR2 (consA (retE (.int 1)) (consA (binE addD (callE maxD (consA (binE ixD (varE 3) (retE (.int 0))) (consA (binE ixD (varE 4) (retE (.int 0))) nilA))) (retE (.int 1))) nilA))) (nameG 5) (seqS (asgS (tupE (consA (callD f_filled (consAr (varE 3) (consAr (varE 5) nilAr))) (consA (callD f_filled (consAr (varE 4) (consAr (varE 5) nilAr))) nilA))) (tupG 2 (consG (tupG 2 (consG (nameG 6) (consG (nameG 7) nilG))) (consG (tupG 2 (consG (nameG 8) (consG (nameG 9) nilG))) nilG))))
  (ifS (andB (tstB (binE gtD (callE lenD (consA (varE 8) nilA)) (callE lenD (consA (varE 6) nilA)))) (andB (tstB (binE eqE (varE 7) (lstE nilA))) (tstB (binE eqE (varE 9) (lstE nilA))))) (retS (tupE (consA (varE 2) (consA (varE 5) nilA)))) nxS)))))
  (retS (retE .non)))
def f_first_wider : FD := defF 2 10 b_first_wider
def b_wider_more : FS := (seqS (dropS (callD f_need_both (consAr (varE 0) (consAr (varE 1) nilAr))))
  (retS (callD f_first_wider (consAr (varE 0) (consAr (varE 1) nilAr)))))
def f_wider_more : FD := defF 2 2 b_wider_more
def b_wider_later : FS := (seqS (dropS (callD f_need_both (consAr (varE 0) (consAr (varE 1) nilAr))))
  (seqS (dropS (callD f_need_part (consAr (varE 0) (consAr (varE 2) nilAr))))
  (seqS (forS (iterS (slE (callD f_all_widths (consAr (varE 0) nilAr)) noO (someO (unE negD (retE (.int 1)))))) (nameG 3) (seqS (parS 4 5 (consA (callD f_setting (consAr (varE 0) (consAr (varE 1) (consAr (varE 3) nilAr)))) (consA (callD f_setting (consAr (varE 0) (consAr (varE 1) (consAr (binE addD (varE 3) (retE (.int 1))) nilAr)))) nilA)))
  (seqS (asgS (lcE (iterS (tupE (consA (varE 3) (consA (binE addD (varE 3) (retE (.int 1))) nilA)))) (nameG 13) yesB (callD f_first_row (consAr (callD f_counts_at (consAr (varE 0) (consAr (varE 13) nilAr))) (consAr (varE 2) nilAr))) [13]) (lstG 2 (consG (nameG 6) (consG (nameG 7) nilG))))
  (forS (iterR2 (consA (retE (.int 1)) (consA (binE addD (callE maxD (consA (binE ixD (varE 4) (retE (.int 0))) (consA (binE ixD (varE 5) (retE (.int 0))) nilA))) (retE (.int 1))) nilA))) (nameG 8) (seqS (asgS (tupE (consA (callD f_filled (consAr (varE 4) (consAr (varE 8) nilAr))) (consA (callD f_filled (consAr (varE 5) (consAr (varE 8) nilAr))) nilA))) (tupG 2 (consG (tupG 2 (consG (nameG 9) (consG (nameG 10) nilG))) (consG (tupG 2 (consG (nameG 11) (consG (nameG 12) nilG))) nilG))))
  (ifS (andB (tstB (binE gtD (callD f_page_at (consAr (varE 11) (consAr (varE 7) nilAr))) (callD f_page_at (consAr (varE 9) (consAr (varE 6) nilAr))))) (andB (tstB (binE eqE (varE 10) (lstE nilA))) (tstB (binE eqE (varE 12) (lstE nilA))))) (retS (tupE (consA (varE 3) (consA (varE 8) nilA)))) nxS))))))
  (retS (retE .non)))))
def f_wider_later : FD := defF 3 14 b_wider_later
def b_first_size : FS := (seqS (asgS (callE maxD (consA (callD f_least_width (consAr (varE 0) nilAr)) (consA (callD f_least_width (consAr (varE 2) nilAr)) nilA))) (nameG 4))
  (seqS (forS (iterR2 (consA (varE 4) (consA (binE addD (callE max3D (consA (varE 4) (consA (callD f_widest_width (consAr (varE 0) nilAr)) (consA (callD f_widest_width (consAr (varE 2) nilAr)) nilA)))) (retE (.int 1))) nilA))) (nameG 5) (seqS (parS 6 7 (consA (callD f_setting (consAr (varE 0) (consAr (varE 1) (consAr (varE 5) nilAr)))) (consA (callD f_setting (consAr (varE 2) (consAr (varE 3) (consAr (varE 5) nilAr)))) nilA)))
  (forS (iterR2 (consA (retE (.int 1)) (consA (binE addD (callE maxD (consA (binE ixD (varE 6) (retE (.int 0))) (consA (binE ixD (varE 7) (retE (.int 0))) nilA))) (retE (.int 1))) nilA))) (nameG 8) (ifS (tstB (binE neE (callD f_sheets (consAr (varE 6) (consAr (varE 8) nilAr))) (callD f_sheets (consAr (varE 7) (consAr (varE 8) nilAr))))) (retS (tupE (consA (varE 5) (consA (varE 8) nilA)))) nxS))))
  (retS (retE .non))))
def f_first_size : FD := defF 4 9 b_first_size
def b_need_three : FS := (seqS (dropS (callD f_need_document (consAr (varE 0) nilAr)))
  (seqS (dropS (callD f_need_document (consAr (varE 1) nilAr)))
  (dropS (callD f_need_rules (consAr (varE 2) nilAr)))))
def f_need_three : FD := defF 3 3 b_need_three
def b_set_alike : FS := (seqS (dropS (callD f_need_three (consAr (varE 0) (consAr (varE 1) (consAr (varE 2) nilAr)))))
  (retS (binE isE (callD f_first_size (consAr (varE 0) (consAr (varE 2) (consAr (varE 1) (consAr (varE 2) nilAr))))) (retE .non))))
def f_set_alike : FD := defF 3 3 b_set_alike
def b_parting_size : FS := (seqS (dropS (callD f_need_three (consAr (varE 0) (consAr (varE 1) (consAr (varE 2) nilAr)))))
  (retS (callD f_first_size (consAr (varE 0) (consAr (varE 2) (consAr (varE 1) (consAr (varE 2) nilAr)))))))
def f_parting_size : FD := defF 3 3 b_parting_size
def b_same_rules : FS := (seqS (dropS (callD f_need_both (consAr (varE 0) (consAr (varE 1) nilAr))))
  (seqS (asgS (lc2E (iterS (tupE (consA (retE (.int 1)) (consA (retE (.int 2)) (consA (retE (.int 3)) nilA))))) (nameG 3) yesB (iterS (tupE (consA (retE (.int 1)) (consA (retE (.int 2)) (consA (retE (.int 3)) nilA))))) (nameG 4) yesB (tupE (consA (varE 3) (consA (varE 4) nilA))) [3, 4] [4]) (nameG 2))
  (retS (lcE (iterS (varE 2)) (nameG 5) (tstB (binE isE (callD f_first_size (consAr (varE 0) (consAr (varE 1) (consAr (varE 0) (consAr (varE 5) nilAr))))) (retE .non))) (varE 5) [5]))))
def f_same_rules : FD := defF 2 6 b_same_rules
def b_less_marked : FS := (seqS (asgS (binE ixD (varE 0) (varE 1)) (tupG 3 (consG (nameG 3) (consG (nameG 4) (consG (nameG 5) nilG)))))
  (seqS (asgS (tupE (consA (varE 3) (consA (varE 4) (consA (callE tupleD (consA (lcE (iterS (varE 5)) (nameG 7) (tstB (binE neE (varE 7) (varE 2))) (varE 7) [7]) nilA)) nilA)))) (nameG 6))
  (retS (binE addD (binE addD (slE (varE 0) noO (someO (varE 1))) (tupE (consA (varE 6) nilA))) (slE (varE 0) (someO (binE addD (varE 1) (retE (.int 1)))) noO)))))
def f_less_marked : FD := defF 3 8 b_less_marked
def b_needless_marks : FS := (seqS (dropS (callD f_need_both (consAr (varE 0) (consAr (varE 1) nilAr))))
  (seqS (setF 2 (lstF nilA))
  (seqS (forS (iterE (consA (varE 0) nilA)) (tupG 2 (consG (nameG 3) (consG (nameG 4) nilG))) (forS (iterS (ifE (tstB (binE neE (binE ixD (varE 4) (retE (.int 0))) (retE (.str (PySem.Str.ofString "break"))))) (binE ixD (varE 4) (retE (.int 2))) (tupE nilA))) (nameG 5) (ifS (tstB (binE isE (callD f_first_size (consAr (varE 0) (consAr (varE 1) (consAr (callD f_less_marked (consAr (varE 0) (consAr (varE 3) (consAr (varE 5) nilAr)))) (consAr (varE 1) nilAr))))) (retE .non))) (appS 2 (tupE (consA (varE 3) (consA (varE 5) nilA)))) nxS)))
  (retS (moveE 2)))))
def f_needless_marks : FD := defF 2 6 b_needless_marks
def b_is_fact : FS := (seqS (ifS (orB (notB (tstB (isiE "tuple" (varE 1)))) (orB (tstB (binE neE (callE lenD (consA (varE 1) nilA)) (retE (.int 3)))) (notB (tstB (callD f_is_whole (consAr (binE ixD (varE 1) (retE (.int 0))) (consAr (retE (.int 0)) (consAr (binE subD (callE lenD (consA (varE 0) nilA)) (retE (.int 1))) nilAr)))))))) (retS (retE (.bl false))) nxS)
  (retS (andE (binE neE (binE ixD (binE ixD (varE 0) (binE ixD (varE 1) (retE (.int 0)))) (retE (.int 0))) (retE (.str (PySem.Str.ofString "break")))) (andE (callD f_is_whole (consAr (binE ixD (varE 1) (retE (.int 1))) (consAr (retE (.int 0)) (consAr (retE (.int 11)) nilAr)))) (callD f_is_whole (consAr (binE ixD (varE 1) (retE (.int 2))) (consAr (retE (.int 0)) (consAr (retE (.int 200)) nilAr))))))))
def f_is_fact : FD := defF 2 2 b_is_fact
def b_are_facts : FS := (retS (andE (isiE "tuple" (varE 1)) (andE (binE leD (callE lenD (consA (varE 1) nilA)) (retE (K_MOST_FACTS))) (callE allD (consA (lcE (iterS (varE 1)) (nameG 2) yesB (callD f_is_fact (consAr (varE 0) (consAr (varE 2) nilAr))) [2]) nilA)))))
def f_are_facts : FD := defF 2 3 b_are_facts
def b_need_facts : FS := (ifS (notB (tstB (callD f_are_facts (consAr (varE 0) (consAr (varE 1) nilAr))))) (raiseS .facts) nxS)
def f_need_facts : FD := defF 2 2 b_need_facts
def b_need_seen : FS := (seqS (dropS (callD f_need_both (consAr (varE 0) (consAr (varE 1) nilAr))))
  (dropS (callD f_need_facts (consAr (varE 0) (consAr (varE 2) nilAr)))))
def f_need_seen : FD := defF 3 3 b_need_seen
def b_is_so : FS := (seqS (asgS (varE 2) (tupG 3 (consG (nameG 3) (consG (nameG 4) (consG (nameG 5) nilG)))))
  (retS (andE (binE ltD (varE 4) (binE ixD (varE 0) (varE 3))) (binE eqE (callD f_page_at (consAr (varE 1) (consAr (binE addD (callD f_first_row (consAr (varE 0) (consAr (varE 3) nilAr))) (varE 4)) nilAr))) (varE 5)))))
def f_is_so : FD := defF 3 6 b_is_so
def b_fitting : FS := (seqS (setF 3 (lstF nilA))
  (seqS (forS (iterS (callD f_all_widths (consAr (varE 0) nilAr))) (nameG 4) (seqS (asgS (tupE (consA (callD f_counts_at (consAr (varE 0) (consAr (varE 4) nilAr))) (consA (callD f_setting (consAr (varE 0) (consAr (varE 1) (consAr (varE 4) nilAr)))) nilA))) (tupG 2 (consG (nameG 5) (consG (nameG 6) nilG))))
  (forS (iterR2 (consA (retE (.int 1)) (consA (binE addD (binE ixD (varE 6) (retE (.int 0))) (retE (.int 1))) nilA))) (nameG 7) (seqS (asgS (callD f_filled (consAr (varE 6) (consAr (varE 7) nilAr))) (tupG 2 (consG (nameG 8) (consG (nameG 9) nilG))))
  (ifS (tstB (callE allD (consA (lcE (iterS (varE 2)) (nameG 10) yesB (callD f_is_so (consAr (varE 5) (consAr (varE 8) (consAr (varE 10) nilAr)))) [10]) nilA))) (appS 3 (tupE (consA (tupE (consA (varE 4) (consA (varE 7) nilA))) (consA (varE 5) (consA (varE 8) (consA (varE 9) nilA)))))) nxS)))))
  (retS (moveE 3))))
def f_fitting : FD := defF 3 11 b_fitting
def b_sizes_with : FS := (seqS (dropS (callD f_need_seen (consAr (varE 0) (consAr (varE 1) (consAr (varE 2) nilAr)))))
  (retS (lcE (iterS (callD f_fitting (consAr (varE 0) (consAr (varE 1) (consAr (varE 2) nilAr))))) (tupG 4 (consG (nameG 3) (consG (nameG 4) (consG (nameG 5) (consG (nameG 6) nilG))))) yesB (varE 3) [3, 4, 5, 6])))
def f_sizes_with : FD := defF 3 7 b_sizes_with
def b_part_line : FS := (seqS (ifS (tstB (binE eqE (binE ixD (varE 0) (retE (.int 0))) (retE (.str (PySem.Str.ofString "break"))))) (retS (retE (.str (PySem.Str.ofString "break")))) nxS)
  (seqS (asgS (ifE (tstB (binE eqE (binE ixD (varE 0) (retE (.int 0))) (retE (.str (PySem.Str.ofString "text"))))) (binE ixD (varE 0) (retE (.int 1))) (tupE (consA (binE ixD (varE 0) (retE (.int 1))) nilA))) (nameG 1))
  (retS (mt1E joinD (retE (.str (PySem.Str.ofString " "))) (binE addD (binE addD (lstE (consA (binE ixD (varE 0) (retE (.int 0))) nilA)) (lcE (iterS (varE 1)) (nameG 2) yesB (callE strD (consA (varE 2) nilA)) [2])) (callE listD (consA (binE ixD (varE 0) (retE (.int 2))) nilA)))))))
def f_part_line : FD := defF 1 3 b_part_line
def b_written : FS := (retS (mt1E joinD (retE (.str (PySem.Str.ofString "\n"))) (lcE (iterS (varE 0)) (nameG 1) yesB (callD f_part_line (consAr (varE 1) nilAr)) [1])))
def f_written : FD := defF 1 2 b_written
def b_document_text : FS := (seqS (dropS (callD f_need_document (consAr (varE 0) nilAr)))
  (retS (callD f_written (consAr (varE 0) nilAr))))
def f_document_text : FD := defF 1 1 b_document_text
def b_part_in : FS := (seqS (asgS (mt1E splitD (varE 0) (retE (.str (PySem.Str.ofString " ")))) (nameG 1))
  (seqS (ifS (tstB (binE eqE (varE 1) (lstE (consA (retE (.str (PySem.Str.ofString "break"))) nilA)))) (retS (tupE (consA (retE (.str (PySem.Str.ofString "break"))) nilA))) nxS)
  (seqS (asgS (callE tupleD (consA (lcE (iterS (slE (varE 1) (someO (retE (.int 1))) noO)) (nameG 4) (tstB (binE inE (varE 4) (retE (K_MARKS)))) (varE 4) [4]) nilA)) (nameG 2))
  (seqS (asgS (callE tupleD (consA (lcE (iterS (slE (varE 1) (someO (retE (.int 1))) noO)) (nameG 4) (andB (tstB (binE eqE (callE lenD (consA (varE 4) nilA)) (retE (.int 1)))) (tstB (binE inE (varE 4) (retE (.str (PySem.Str.ofString "123456789")))))) (callE intD (consA (varE 4) nilA)) [4]) nilA)) (nameG 3))
  (seqS (ifS (tstB (binE eqE (binE ixD (varE 1) (retE (.int 0))) (retE (.str (PySem.Str.ofString "text"))))) (retS (tupE (consA (retE (.str (PySem.Str.ofString "text"))) (consA (varE 3) (consA (varE 2) nilA))))) nxS)
  (seqS (ifS (andB (tstB (binE eqE (binE ixD (varE 1) (retE (.int 0))) (retE (.str (PySem.Str.ofString "block"))))) (tstB (binE eqE (callE lenD (consA (varE 3) nilA)) (retE (.int 1))))) (retS (tupE (consA (retE (.str (PySem.Str.ofString "block"))) (consA (binE ixD (varE 3) (retE (.int 0))) (consA (varE 2) nilA))))) nxS)
  (retS (retE .non))))))))
def f_part_in : FD := defF 1 5 b_part_in
def b_read_document : FS := (seqS (ifS (notB (tstB (isiE "str" (varE 0)))) (raiseS .text) nxS)
  (seqS (asgS (callE tupleD (consA (lcE (iterS (mt1E splitD (varE 0) (retE (.str (PySem.Str.ofString "\n"))))) (nameG 2) yesB (callD f_part_in (consAr (varE 2) nilAr)) [2]) nilA)) (nameG 1))
  (seqS (ifS (orB (notB (tstB (callD f_is_document (consAr (varE 1) nilAr)))) (tstB (binE neE (callD f_written (consAr (varE 1) nilAr)) (varE 0)))) (raiseS .text) nxS)
  (retS (varE 1)))))
def f_read_document : FD := defF 1 3 b_read_document
def b_need_number : FS := (ifS (notB (tstB (callD f_is_whole (consAr (varE 1) (consAr (retE (.int 0)) (consAr (binE subD (callE lenD (consA (varE 0) nilA)) (retE (.int 1))) nilAr)))))) (raiseS .part) nxS)
def f_need_number : FD := defF 2 2 b_need_number
def b_need_result : FS := (ifS (notB (tstB (callD f_is_document (consAr (varE 0) nilAr)))) (raiseS .doc) nxS)
def f_need_result : FD := defF 1 1 b_need_result
def b_parts_without : FS := (seqS (dropS (callD f_need_number (consAr (varE 0) (consAr (varE 1) nilAr))))
  (seqS (dropS (callD f_need_result (consAr (binE addD (slE (varE 0) noO (someO (varE 1))) (slE (varE 0) (someO (binE addD (varE 1) (retE (.int 1)))) noO)) nilAr)))
  (retS (binE addD (slE (varE 0) noO (someO (varE 1))) (slE (varE 0) (someO (binE addD (varE 1) (retE (.int 1)))) noO)))))
def f_parts_without : FD := defF 2 2 b_parts_without
def b__law_cell : FS := (seqS (ifS (tstB (binE ltD (varE 1) (callE lenD (consA (varE 0) nilA)))) (retS (binE ixD (varE 0) (varE 1))) nxS)
  (seqS (ifS (tstB (binE eqE (callE lenD (consA (varE 0) nilA)) (retE (.int 0)))) (retS (binE addD (binE mulD (retE (.int 7919)) (varE 1)) (retE (.int 101)))) nxS)
  (retS (binE addD (binE modD (binE ixD (varE 0) (binE modD (varE 1) (callE lenD (consA (varE 0) nilA)))) (retE (.int 1000003))) (binE mulD (retE (.int 7919)) (varE 1))))))
def f__law_cell : FD := defF 2 2 b__law_cell
def b__law_draws : FS := (seqS (asgS (tupE (consA (retE (.int 2147483647)) (consA (retE (.int 2147483629)) (consA (retE (.int 2147483587)) (consA (retE (.int 2147483579)) (consA (retE (.int 2147483563)) (consA (retE (.int 2147483549)) (consA (retE (.int 2147483543)) (consA (retE (.int 2147483497)) nilA))))))))) (nameG 4))
  (seqS (asgS (callD f__law_cell (consAr (varE 0) (consAr (varE 1) nilAr))) (nameG 5))
  (seqS (asgS (retE (.int 0)) (nameG 6))
  (seqS (ifS (tstB (binE geD (varE 5) (binE powD (retE (.int 10)) (retE (.int 18))))) (asgS (varE 5) (nameG 6)) nxS)
  (seqS (setF 7 (lstF nilA))
  (seqS (forS (iterR1 (consA (varE 2) nilA)) (nameG 8) (seqS (asgS (binE mulD (binE modD (varE 5) (binE ixD (varE 4) (binE modD (varE 8) (retE (.int 8))))) (binE addD (retE (.int 48271)) (binE mulD (binE mulD (retE (.int 2)) (varE 8)) (varE 8)))) (nameG 9))
  (seqS (asgS (binE addD (binE addD (varE 9) (binE mulD (binE mulD (retE (.int 7919)) (binE addD (varE 8) (retE (.int 1)))) (binE addD (varE 8) (retE (.int 1))))) (binE mulD (retE (.int 104729)) (varE 1))) (nameG 9))
  (seqS (asgS (binE modD (varE 9) (binE ixD (varE 4) (binE modD (binE addD (binE mulD (retE (.int 3)) (varE 8)) (varE 1)) (retE (.int 8))))) (nameG 9))
  (seqS (asgS (binE modD (binE mulD (binE mulD (varE 9) (varE 9)) (varE 9)) (binE ixD (varE 4) (binE modD (binE addD (varE 8) (retE (.int 5))) (retE (.int 8))))) (nameG 9))
  (seqS (ifS (tstB (binE gtD (varE 6) (retE (.int 0)))) (asgS (varE 6) (nameG 9)) nxS)
  (seqS (appS 7 (binE modD (varE 9) (varE 3)))
  (asgS (binE fdivD (varE 6) (varE 3)) (nameG 6)))))))))
  (retF (moveF 7))))))))
def f__law_draws : FD := defF 4 10 b__law_draws
def b__law_bag : FS := (retF (callN f__law_draws (consAr (varE 0) (consAr (varE 1) (consAr (retE (.int 150)) (consAr (retE (.int 27720)) nilAr))))))
def f__law_bag : FD := defF 2 2 b__law_bag
def b__law_take : FS := (seqS (asgS (ifE (ownNeNil 0) (pop0E 0) (retE (.int 0))) (nameG 2))
  (retS (binE modD (callE intD (consA (varE 2) nilA)) (varE 1))))
def f__law_take : FD := defF 2 3 b__law_take
def b__law_part : FS := (seqS (asgS (callD f__law_take (ownAr 0 (consAr (retE (.int 10)) nilAr))) (nameG 1))
  (seqS (ifS (tstB (binE eqE (varE 1) (retE (.int 0)))) (retS (tupE (consA (retE (.str (PySem.Str.ofString "break"))) nilA))) nxS)
  (seqS (ifS (tstB (binE ltD (varE 1) (retE (.int 4)))) (retS (tupE (consA (retE (.str (PySem.Str.ofString "block"))) (consA (binE addD (retE (.int 1)) (callD f__law_take (ownAr 0 (consAr (retE (.int 4)) nilAr)))) (consA (ifE (tstB (binE eqE (callD f__law_take (ownAr 0 (consAr (retE (.int 4)) nilAr))) (retE (.int 0)))) (tupE (consA (retE (.str (PySem.Str.ofString "next"))) nilA)) (tupE nilA)) nilA))))) nxS)
  (seqS (asgS (callE tupleD (consA (lcE (iterR1 (consA (binE addD (retE (.int 1)) (callD f__law_take (ownAr 0 (consAr (retE (.int 7)) nilAr)))) nilA)) (nameG 4) yesB (binE addD (retE (.int 1)) (callD f__law_take (ownAr 0 (consAr (retE (.int 5)) nilAr)))) [4]) nilA)) (nameG 2))
  (seqS (asgS (binE ixD (lstE (consA (tupE (consA (retE (.str (PySem.Str.ofString "next"))) nilA)) (consA (tupE (consA (retE (.str (PySem.Str.ofString "whole"))) nilA)) (consA (tupE (consA (retE (.str (PySem.Str.ofString "next"))) (consA (retE (.str (PySem.Str.ofString "whole"))) nilA))) (consA (tupE nilA) (consA (tupE nilA) (consA (tupE nilA) nilA))))))) (callD f__law_take (ownAr 0 (consAr (retE (.int 6)) nilAr)))) (nameG 3))
  (retS (tupE (consA (retE (.str (PySem.Str.ofString "text"))) (consA (varE 2) (consA (varE 3) nilA))))))))))
def f__law_part : FD := defF 1 5 b__law_part
def b__law_document : FS := (seqS (asgS (callE tupleD (consA (lcE (iterR1 (consA (binE addD (retE (.int 1)) (callD f__law_take (ownAr 0 (consAr (varE 1) nilAr)))) nilA)) (nameG 3) yesB (callD f__law_part (ownAr 0 nilAr)) [3]) nilA)) (nameG 2))
  (seqS (ifS (tstB (binE eqE (lcE (iterS (varE 2)) (nameG 4) (tstB (binE neE (binE ixD (varE 4) (retE (.int 0))) (retE (.str (PySem.Str.ofString "break"))))) (varE 4) [4]) (lstE nilA))) (retS (tupE (consA (tupE (consA (retE (.str (PySem.Str.ofString "block"))) (consA (retE (.int 2)) (consA (tupE nilA) nilA)))) nilA))) nxS)
  (retS (varE 2))))
def f__law_document : FD := defF 2 5 b__law_document
def b__law_texts : FS := (retS (lcE (iterS (varE 0)) (nameG 1) (tstB (binE eqE (binE ixD (varE 1) (retE (.int 0))) (retE (.str (PySem.Str.ofString "text"))))) (binE ixD (varE 1) (retE (.int 1))) [1]))
def f__law_texts : FD := defF 1 2 b__law_texts
def b__law_low : FS := (seqS (asgS (retE (.int 1)) (nameG 1))
  (seqS (forS (iterS (callD f__law_texts (consAr (varE 0) nilAr))) (nameG 2) (asgS (callE maxD (consA (binE addD (lstE (consA (varE 1) nilA)) (lcE (iterS (varE 2)) (nameG 3) yesB (callE intD (consA (varE 3) nilA)) [3])) nilA)) (nameG 1)))
  (retS (varE 1))))
def f__law_low : FD := defF 1 4 b__law_low
def b__law_high : FS := (seqS (asgS (callD f__law_low (consAr (varE 0) nilAr)) (nameG 1))
  (seqS (forS (iterS (callD f__law_texts (consAr (varE 0) nilAr))) (nameG 2) (asgS (callE maxD (consA (varE 1) (consA (callE lenD (consA (mt1E joinD (retE (.str (PySem.Str.ofString " "))) (lcE (iterS (varE 2)) (nameG 3) yesB (binE mulD (retE (.str (PySem.Str.ofString "x"))) (varE 3)) [3])) nilA)) nilA))) (nameG 1)))
  (retS (varE 1))))
def f__law_high : FD := defF 1 4 b__law_high
def b__law_truly : FS := (retS (andE (isiE "bool" (varE 0)) (binE eqE (varE 0) (varE 1))))
def f__law_truly : FD := defF 2 2 b__law_truly
def b__law_rules : FS := (retS (tupE (consA (binE addD (retE (.int 1)) (callD f__law_take (ownAr 0 (consAr (retE (.int 3)) nilAr)))) (consA (binE addD (retE (.int 1)) (callD f__law_take (ownAr 0 (consAr (retE (.int 3)) nilAr)))) nilA))))
def f__law_rules : FD := defF 1 1 b__law_rules
def b__law_lines : FS := (seqS (asgS (lstE nilA) (nameG 2))
  (seqS (forS (iterS (varE 0)) (nameG 3) (ifS (andB (tstB (binE neE (varE 2) (lstE nilA))) (tstB (binE leD (callE lenD (consA (binE addD (binE addD (binE ixD (varE 2) (unE negD (retE (.int 1)))) (retE (.str (PySem.Str.ofString " ")))) (binE mulD (retE (.str (PySem.Str.ofString "x"))) (varE 3))) nilA)) (varE 1)))) (asgS (binE addD (slE (varE 2) noO (someO (unE negD (retE (.int 1))))) (lstE (consA (binE addD (binE addD (binE ixD (varE 2) (unE negD (retE (.int 1)))) (retE (.str (PySem.Str.ofString " ")))) (binE mulD (retE (.str (PySem.Str.ofString "x"))) (varE 3))) nilA))) (nameG 2)) (asgS (binE addD (varE 2) (lstE (consA (binE mulD (retE (.str (PySem.Str.ofString "x"))) (varE 3)) nilA))) (nameG 2))))
  (retS (varE 2))))
def f__law_lines : FD := defF 2 4 b__law_lines
def b__law_rows : FS := (seqS (asgS (lstE nilA) (nameG 2))
  (seqS (forS (iterR1 (consA (callE lenD (consA (varE 0) nilA)) nilA)) (nameG 3) (seqS (asgS (retE (.int 0)) (nameG 4))
  (seqS (ifS (tstB (binE eqE (binE ixD (binE ixD (varE 0) (varE 3)) (retE (.int 0))) (retE (.str (PySem.Str.ofString "text"))))) (asgS (callE lenD (consA (callD f__law_lines (consAr (binE ixD (binE ixD (varE 0) (varE 3)) (retE (.int 1))) (consAr (varE 1) nilAr))) nilA)) (nameG 4)) (ifS (tstB (binE eqE (binE ixD (binE ixD (varE 0) (varE 3)) (retE (.int 0))) (retE (.str (PySem.Str.ofString "block"))))) (asgS (binE ixD (binE ixD (varE 0) (varE 3)) (retE (.int 1))) (nameG 4)) nxS))
  (asgS (binE addD (varE 2) (lcE (iterR1 (consA (varE 4) nilA)) (nameG 5) yesB (tupE (consA (varE 3) (consA (varE 5) (consA (varE 4) nilA)))) [5])) (nameG 2)))))
  (retS (varE 2))))
def f__law_rows : FD := defF 2 6 b__law_rows
def b__law_kind : FS := (seqS (ifS (tstB (binE eqE (binE ixD (varE 2) (retE (.int 0))) (binE ixD (varE 3) (retE (.int 0))))) (seqS (ifS (orB (tstB (binE eqE (binE ixD (binE ixD (varE 0) (binE ixD (varE 2) (retE (.int 0)))) (retE (.int 0))) (retE (.str (PySem.Str.ofString "block"))))) (tstB (binE inE (retE (.str (PySem.Str.ofString "whole"))) (binE ixD (binE ixD (varE 0) (binE ixD (varE 2) (retE (.int 0)))) (retE (.int 2)))))) (retS (retE (.str (PySem.Str.ofString "shut")))) nxS)
  (retS (ifE (andB (tstB (binE geD (binE ixD (varE 3) (retE (.int 1))) (binE ixD (varE 1) (retE (.int 0))))) (tstB (binE geD (binE subD (binE ixD (varE 3) (retE (.int 2))) (binE ixD (varE 3) (retE (.int 1)))) (binE ixD (varE 1) (retE (.int 1)))))) (retE (.str (PySem.Str.ofString "free"))) (retE (.str (PySem.Str.ofString "shut")))))) nxS)
  (seqS (ifS (tstB (binE neE (lcE (iterS (slE (varE 0) (someO (binE ixD (varE 2) (retE (.int 0)))) (someO (binE ixD (varE 3) (retE (.int 0)))))) (nameG 4) (tstB (binE eqE (binE ixD (varE 4) (retE (.int 0))) (retE (.str (PySem.Str.ofString "break"))))) (varE 4) [4]) (lstE nilA))) (retS (retE (.str (PySem.Str.ofString "forced")))) nxS)
  (retS (ifE (tstB (binE inE (retE (.str (PySem.Str.ofString "next"))) (binE ixD (binE ixD (varE 0) (binE ixD (varE 2) (retE (.int 0)))) (retE (.int 2))))) (retE (.str (PySem.Str.ofString "shut"))) (retE (.str (PySem.Str.ofString "free")))))))
def f__law_kind : FD := defF 4 5 b__law_kind
def b__law_kinds : FS := (seqS (setF 3 (lstF (consA (retE (.str (PySem.Str.ofString "forced"))) nilA)))
  (seqS (forS (iterR2 (consA (retE (.int 1)) (consA (callE lenD (consA (varE 2) nilA)) nilA))) (nameG 4) (appS 3 (callD f__law_kind (consAr (varE 0) (consAr (varE 1) (consAr (binE ixD (varE 2) (binE subD (varE 4) (retE (.int 1)))) (consAr (binE ixD (varE 2) (varE 4)) nilAr)))))))
  (retS (binE addD (moveE 3) (lstE (consA (retE (.str (PySem.Str.ofString "forced"))) nilA))))))
def f__law_kinds : FD := defF 3 5 b__law_kinds
def b__law_scene : FS := (seqS (asgS (callD f__law_rows (consAr (varE 0) (consAr (varE 2) nilAr))) (nameG 3))
  (retS (tupE (consA (varE 3) (consA (callD f__law_kinds (consAr (varE 0) (consAr (varE 1) (consAr (varE 3) nilAr)))) nilA)))))
def f__law_scene : FD := defF 3 4 b__law_scene
def b__law_choice : FS := (retS (binE ixD (varE 1) (callD f__law_take (ownAr 0 (consAr (callE lenD (consA (varE 1) nilA)) nilAr)))))
def f__law_choice : FD := defF 2 2 b__law_choice
def b__law_filled : FS := (seqS (par3S 2 3 4 (consA (lstE nilA) (consA (lstE nilA) (consA (retE (.int 0)) nilA))))
  (seqS (whileD (tstB (binE ltD (varE 4) (binE subD (callE lenD (consA (varE 0) nilA)) (retE (.int 1))))) (seqS (parS 5 6 (consA (varE 4) (consA (retE .non) nilA)))
  (seqS (whileD (andB (tstB (binE ltD (varE 5) (binE subD (callE lenD (consA (varE 0) nilA)) (retE (.int 1))))) (andB (tstB (binE ltD (varE 5) (binE addD (varE 4) (varE 1)))) (orB (tstB (binE eqE (varE 5) (varE 4))) (tstB (binE neE (binE ixD (varE 0) (varE 5)) (retE (.str (PySem.Str.ofString "forced")))))))) (seqS (asgS (binE addD (varE 5) (retE (.int 1))) (nameG 5))
  (asgS (ifE (tstB (binE eqE (binE ixD (varE 0) (varE 5)) (retE (.str (PySem.Str.ofString "free"))))) (varE 5) (varE 6)) (nameG 6))) 1000000)
  (seqS (ifS (tstB (binE neE (binE ixD (varE 0) (varE 5)) (retE (.str (PySem.Str.ofString "forced"))))) (seqS (asgS (binE addD (varE 3) (ifE (tstB (binE isE (varE 6) (retE .non))) (lstE (consA (callE lenD (consA (varE 2) nilA)) nilA)) (lstE nilA))) (nameG 3))
  (asgS (ifE (tstB (binE isE (varE 6) (retE .non))) (varE 5) (varE 6)) (nameG 5))) nxS)
  (parS 2 4 (consA (binE addD (varE 2) (lstE (consA (varE 5) nilA))) (consA (varE 5) nilA)))))) 1000000)
  (retS (tupE (consA (varE 2) (consA (varE 3) nilA))))))
def f__law_filled : FD := defF 2 7 b__law_filled
def b__law_sheets : FS := (retS (lcE (iterR1 (consA (callE lenD (consA (varE 0) nilA)) nilA)) (nameG 1) yesB (binE subD (binE ixD (varE 0) (varE 1)) (ifE (tstB (binE gtD (varE 1) (retE (.int 0)))) (binE ixD (varE 0) (binE subD (varE 1) (retE (.int 1)))) (retE (.int 0)))) [1]))
def f__law_sheets : FD := defF 1 2 b__law_sheets
def b__law_widths : FS := (retS (listRgE (callD f__law_low (consAr (varE 0) nilAr)) (binE addD (callD f__law_high (consAr (varE 0) nilAr)) (retE (.int 1)))))
def f__law_widths : FD := defF 1 1 b__law_widths
def b__law_page : FS := (seqS (asgS (lcE (iterR1 (consA (callE lenD (consA (varE 1) nilA)) nilA)) (nameG 5) (tstB (binE eqE (slE (binE ixD (varE 1) (varE 5)) noO (someO (retE (.int 2)))) (tupE (consA (varE 2) (consA (varE 3) nilA))))) (varE 5) [5]) (nameG 4))
  (retS (ifE (tstB (binE neE (varE 4) (lstE nilA))) (callE lenD (consA (lcE (iterS (varE 0)) (nameG 6) (tstB (binE leD (varE 6) (binE ixD (varE 4) (retE (.int 0))))) (varE 6) [6]) nilA)) (retE .non))))
def f__law_page : FD := defF 4 7 b__law_page
def b__law_wider : FS := (seqS (forS (iterR1 (consA (binE subD (callE lenD (consA (varE 0) nilA)) (retE (.int 1))) nilA)) (nameG 3) (forS (iterR2 (consA (retE (.int 1)) (consA (binE addD (callE maxD (consA (callE lenD (consA (binE ixD (binE ixD (varE 0) (varE 3)) (retE (.int 0))) nilA)) (consA (callE lenD (consA (binE ixD (binE ixD (varE 0) (binE addD (varE 3) (retE (.int 1)))) (retE (.int 0))) nilA)) nilA))) (retE (.int 1))) nilA))) (nameG 4) (seqS (asgS (callD f__law_filled (consAr (binE ixD (binE ixD (varE 0) (varE 3)) (retE (.int 1))) (consAr (varE 4) nilAr))) (tupG 2 (consG (nameG 5) (consG (nameG 6) nilG))))
  (seqS (asgS (callD f__law_filled (consAr (binE ixD (binE ixD (varE 0) (binE addD (varE 3) (retE (.int 1)))) (retE (.int 1))) (consAr (varE 4) nilAr))) (tupG 2 (consG (nameG 7) (consG (nameG 8) nilG))))
  (ifS (tstB (binE eqE (binE addD (varE 6) (varE 8)) (lstE nilA))) (seqS (parS 9 10 (consA (callE lenD (consA (varE 5) nilA)) (consA (callE lenD (consA (varE 7) nilA)) nilA)))
  (seqS (ifS (tstB (binE isNotE (varE 2) (retE .non))) (seqS (asgS (callD f__law_page (consAr (varE 5) (consAr (binE ixD (binE ixD (varE 0) (varE 3)) (retE (.int 0))) (consAr (varE 2) (consAr (retE (.int 0)) nilAr))))) (nameG 9))
  (asgS (callD f__law_page (consAr (varE 7) (consAr (binE ixD (binE ixD (varE 0) (binE addD (varE 3) (retE (.int 1)))) (retE (.int 0))) (consAr (varE 2) (consAr (retE (.int 0)) nilAr))))) (nameG 10))) nxS)
  (ifS (tstB (binE gtD (varE 10) (varE 9))) (retS (tupE (consA (binE addD (varE 1) (varE 3)) (consA (varE 4) nilA)))) nxS))) nxS)))))
  (retS (retE .non)))
def f__law_wider : FD := defF 3 11 b__law_wider
def b__law_taller_right : FS := (seqS (parS 3 4 (consA (callD f__law_low (consAr (varE 1) nilAr)) (consA (callD f__law_high (consAr (varE 1) nilAr)) nilA)))
  (seqS (forS (iterR1 (consA (retE (.int 4)) nilA)) (nameG 5) (seqS (parS 6 7 (consA (binE addD (varE 3) (callD f__law_take (ownAr 0 (consAr (binE addD (binE subD (varE 4) (varE 3)) (retE (.int 1))) nilAr)))) (consA (binE addD (retE (.int 1)) (callD f__law_take (ownAr 0 (consAr (retE (.int 9)) nilAr)))) nilA)))
  (seqS (ifS (tstB (binE gtD (callE lenD (consA (callD f_pages (consAr (varE 1) (consAr (varE 2) (consAr (varE 6) (consAr (binE addD (varE 7) (retE (.int 1))) nilAr))))) nilA)) (callE lenD (consA (callD f_pages (consAr (varE 1) (consAr (varE 2) (consAr (varE 6) (consAr (varE 7) nilAr))))) nilA)))) (retS (retE (.bl false))) nxS)
  (forS (iterR1 (consA (callE lenD (consA (varE 1) nilA)) nilA)) (nameG 8) (ifS (tstB (binE neE (binE ixD (binE ixD (varE 1) (varE 8)) (retE (.int 0))) (retE (.str (PySem.Str.ofString "break"))))) (ifS (tstB (binE gtD (callD f_page_of (consAr (varE 1) (consAr (varE 2) (consAr (varE 6) (consAr (binE addD (varE 7) (retE (.int 1))) (consAr (varE 8) nilAr)))))) (callD f_page_of (consAr (varE 1) (consAr (varE 2) (consAr (varE 6) (consAr (varE 7) (consAr (varE 8) nilAr)))))))) (retS (retE (.bl false))) nxS) nxS)))))
  (retS (retE (.bl true)))))
def f__law_taller_right : FD := defF 3 9 b__law_taller_right
def b__law_parting : FS := (seqS (asgS (callE maxD (consA (callD f__law_low (consAr (varE 0) nilAr)) (consA (callD f__law_low (consAr (varE 2) nilAr)) nilA))) (nameG 4))
  (seqS (forS (iterR2 (consA (varE 4) (consA (binE addD (callE max3D (consA (varE 4) (consA (callD f__law_high (consAr (varE 0) nilAr)) (consA (callD f__law_high (consAr (varE 2) nilAr)) nilA)))) (retE (.int 1))) nilA))) (nameG 5) (seqS (parS 6 7 (consA (binE ixD (callD f__law_scene (consAr (varE 0) (consAr (varE 1) (consAr (varE 5) nilAr)))) (retE (.int 1))) (consA (binE ixD (callD f__law_scene (consAr (varE 2) (consAr (varE 3) (consAr (varE 5) nilAr)))) (retE (.int 1))) nilA)))
  (forS (iterR2 (consA (retE (.int 1)) (consA (callE maxD (consA (callE lenD (consA (varE 6) nilA)) (consA (callE lenD (consA (varE 7) nilA)) nilA))) nilA))) (nameG 8) (ifS (tstB (binE neE (binE ixD (callD f__law_filled (consAr (varE 6) (consAr (varE 8) nilAr))) (retE (.int 0))) (binE ixD (callD f__law_filled (consAr (varE 7) (consAr (varE 8) nilAr))) (retE (.int 0))))) (retS (tupE (consA (varE 5) (consA (varE 8) nilA)))) nxS))))
  (retS (retE .non))))
def f__law_parting : FD := defF 4 9 b__law_parting
def b__law_less : FS := (seqS (asgS (binE ixD (varE 0) (varE 1)) (nameG 3))
  (seqS (asgS (binE addD (slE (varE 3) noO (someO (retE (.int 2)))) (tupE (consA (callE tupleD (consA (lcE (iterS (binE ixD (varE 3) (retE (.int 2)))) (nameG 4) (tstB (binE neE (varE 4) (varE 2))) (varE 4) [4]) nilA)) nilA))) (nameG 3))
  (retS (binE addD (binE addD (slE (varE 0) noO (someO (varE 1))) (tupE (consA (varE 3) nilA))) (slE (varE 0) (someO (binE addD (varE 1) (retE (.int 1)))) noO)))))
def f__law_less : FD := defF 3 5 b__law_less
def b__law_every : FS := (seqS (asgS (lstE nilA) (nameG 0))
  (seqS (forS (iterR2 (consA (retE (.int 1)) (consA (retE (.int 4)) nilA))) (nameG 1) (asgS (binE addD (varE 0) (lcE (iterR2 (consA (retE (.int 1)) (consA (retE (.int 4)) nilA))) (nameG 2) yesB (tupE (consA (varE 1) (consA (varE 2) nilA))) [2])) (nameG 0)))
  (retS (varE 0))))
def f__law_every : FD := defF 0 3 b__law_every
def b__law_great_right : FS := (seqS (forS (iterS (lstE (consA (binE addD (varE 3) (retE (.int 1))) (consA (binE powD (retE (.int 10)) (retE (.int 9))) nilA)))) (nameG 4) (seqS (ifS (tstB (binE neE (callD f_rows_at (consAr (varE 0) (consAr (varE 4) nilAr))) (callD f_rows_at (consAr (varE 0) (consAr (varE 3) nilAr))))) (retS (retE (.bl false))) nxS)
  (ifS (tstB (binE neE (callD f_page_counts (consAr (varE 0) (consAr (varE 1) (consAr (varE 4) nilAr)))) (callD f_page_counts (consAr (varE 0) (consAr (varE 1) (consAr (varE 3) nilAr)))))) (retS (retE (.bl false))) nxS)))
  (seqS (asgS (callE lenD (consA (callD f_rows_at (consAr (varE 0) (consAr (varE 2) nilAr))) nilA)) (nameG 5))
  (retS (binE eqE (callD f_pages (consAr (varE 0) (consAr (varE 1) (consAr (varE 2) (consAr (binE powD (retE (.int 10)) (retE (.int 9))) nilAr))))) (callD f_pages (consAr (varE 0) (consAr (varE 1) (consAr (varE 2) (consAr (varE 5) nilAr)))))))))
def f__law_great_right : FD := defF 4 6 b__law_great_right
def b__law_plain : FS := (seqS (asgS (callE tupleD (consA (lcE (iterS (callD f__law_document (ownAr 0 (consAr (retE (.int 4)) nilAr)))) (nameG 2) (tstB (binE neE (binE ixD (varE 2) (retE (.int 0))) (retE (.str (PySem.Str.ofString "break"))))) (varE 2) [2]) nilA)) (nameG 1))
  (retS (ifE (tstB (binE neE (varE 1) (tupE nilA))) (varE 1) (tupE (consA (tupE (consA (retE (.str (PySem.Str.ofString "block"))) (consA (retE (.int 1)) (consA (tupE nilA) nilA)))) nilA)))))
def f__law_plain : FD := defF 1 3 b__law_plain
def b__law_where : FS := (seqS (asgS (lcE (iterS (varE 0)) (tupG 4 (consG (nameG 4) (consG (nameG 5) (consG (nameG 6) (consG (nameG 7) nilG))))) yesB (callD f__law_page (consAr (varE 5) (consAr (varE 7) (consAr (varE 1) (consAr (varE 2) nilAr))))) [4, 5, 6, 7]) (nameG 3))
  (retS (ifE (tstB (binE eqE (lcE (iterS (varE 3)) (nameG 8) (tstB (binE neE (varE 8) (binE ixD (varE 3) (retE (.int 0))))) (varE 8) [8]) (lstE nilA))) (binE ixD (varE 3) (retE (.int 0))) (retE .non))))
def f__law_where : FD := defF 3 9 b__law_where
def b__law_rows_of : FS := (seqS (asgS (tupE (consA (binE ixD (varE 0) (retE (.int 0))) (consA (binE addD (binE ixD (varE 0) (retE (.int 1))) (tupE (consA (varE 1) nilA))) nilA))) (nameG 3))
  (seqS (asgS (tupE (consA (varE 2) (consA (binE ixD (varE 3) (retE (.int 1))) nilA))) (nameG 4))
  (retS (lstE (consA (varE 3) (consA (varE 4) (consA (tupE (consA (varE 2) (consA (binE addD (binE ixD (varE 4) (retE (.int 1))) (tupE (consA (varE 1) nilA))) nilA))) nilA)))))))
def f__law_rows_of : FD := defF 3 5 b__law_rows_of
def b__law_text : FS := (seqS (setF 1 (lstF nilA))
  (seqS (forS (iterS (varE 0)) (nameG 2) (seqS (asgS (lstE (consA (binE ixD (varE 2) (retE (.int 0))) nilA)) (nameG 3))
  (seqS (ifS (tstB (binE eqE (binE ixD (varE 2) (retE (.int 0))) (retE (.str (PySem.Str.ofString "text"))))) (asgS (binE addD (binE addD (varE 3) (lcE (iterS (binE ixD (varE 2) (retE (.int 1)))) (nameG 4) yesB (callE strD (consA (varE 4) nilA)) [4])) (callE listD (consA (binE ixD (varE 2) (retE (.int 2))) nilA))) (nameG 3)) (ifS (tstB (binE eqE (binE ixD (varE 2) (retE (.int 0))) (retE (.str (PySem.Str.ofString "block"))))) (asgS (binE addD (binE addD (varE 3) (lstE (consA (callE strD (consA (binE ixD (varE 2) (retE (.int 1))) nilA)) nilA))) (callE listD (consA (binE ixD (varE 2) (retE (.int 2))) nilA))) (nameG 3)) nxS))
  (appS 1 (mt1E joinD (retE (.str (PySem.Str.ofString " "))) (varE 3))))))
  (retS (mt1E joinD (retE (.str (PySem.Str.ofString "\n"))) (moveE 1)))))
def f__law_text : FD := defF 1 5 b__law_text
end PK

set_option maxHeartbeats 4000000
/-! printed by gen.py: the functions on data -/
namespace K01
open PySem PySem.Spec PyProof.Rows L2 DL PK
def b__law_number : FS := (retS (andE (isiE "int" (varE 0)) (andE (notE (isiE "bool" (varE 0))) (chainE leD leD (varE 1) (varE 0) (varE 2)))))
def f__law_number : FD := defF 3 3 b__law_number
def b__law_good_part : FS := (seqS (ifS (orB (notB (tstB (isiE "tuple" (varE 0)))) (orB (tstB (binE notInE (callE lenD (consA (varE 0) nilA)) (lstE (consA (retE (.int 1)) (consA (retE (.int 3)) nilA))))) (notB (tstB (isiE "str" (binE ixD (varE 0) (retE (.int 0)))))))) (retS (retE (.bl false))) nxS)
  (seqS (ifS (tstB (binE eqE (callE lenD (consA (varE 0) nilA)) (retE (.int 1)))) (retS (binE eqE (binE ixD (varE 0) (retE (.int 0))) (retE (.str (PySem.Str.ofString "break"))))) nxS)
  (seqS (ifS (tstB (binE eqE (binE ixD (varE 0) (retE (.int 0))) (retE (.str (PySem.Str.ofString "block"))))) (retS (andE (callD f__law_number (consAr (binE ixD (varE 0) (retE (.int 1))) (consAr (retE (.int 1)) (consAr (retE (.int 9)) nilAr)))) (andE (isiE "tuple" (binE ixD (varE 0) (retE (.int 2)))) (binE inE (binE ixD (varE 0) (retE (.int 2))) (lstE (consA (tupE nilA) (consA (tupE (consA (retE (.str (PySem.Str.ofString "next"))) nilA)) nilA))))))) nxS)
  (seqS (ifS (orB (tstB (binE neE (binE ixD (varE 0) (retE (.int 0))) (retE (.str (PySem.Str.ofString "text"))))) (orB (notB (tstB (isiE "tuple" (binE ixD (varE 0) (retE (.int 1)))))) (tstB (notInRE (callE lenD (consA (binE ixD (varE 0) (retE (.int 1))) nilA)) (retE (.int 1)) (retE (.int 13)))))) (retS (retE (.bl false))) nxS)
  (seqS (ifS (orB (tstB (binE neE (lcE (iterS (binE ixD (varE 0) (retE (.int 1)))) (nameG 1) (notB (tstB (callD f__law_number (consAr (varE 1) (consAr (retE (.int 1)) (consAr (retE (.int 9)) nilAr)))))) (varE 1) [1]) (lstE nilA))) (notB (tstB (isiE "tuple" (binE ixD (varE 0) (retE (.int 2))))))) (retS (retE (.bl false))) nxS)
  (retS (binE inE (binE ixD (varE 0) (retE (.int 2))) (lstE (consA (tupE nilA) (consA (tupE (consA (retE (.str (PySem.Str.ofString "next"))) nilA)) (consA (tupE (consA (retE (.str (PySem.Str.ofString "whole"))) nilA)) (consA (tupE (consA (retE (.str (PySem.Str.ofString "next"))) (consA (retE (.str (PySem.Str.ofString "whole"))) nilA))) nilA))))))))))))
def f__law_good_part : FD := defF 1 2 b__law_good_part
def b__law_good : FS := (seqS (ifS (orB (notB (tstB (isiE "tuple" (varE 0)))) (tstB (notInRE (callE lenD (consA (varE 0) nilA)) (retE (.int 1)) (retE (.int 9))))) (retS (retE (.bl false))) nxS)
  (seqS (ifS (tstB (binE neE (lcE (iterS (varE 0)) (nameG 1) (notB (tstB (callD f__law_good_part (consAr (varE 1) nilAr)))) (varE 1) [1]) (lstE nilA))) (retS (retE (.bl false))) nxS)
  (retS (binE neE (lcE (iterS (varE 0)) (nameG 1) (tstB (binE neE (varE 1) (tupE (consA (retE (.str (PySem.Str.ofString "break"))) nilA)))) (varE 1) [1]) (lstE nilA)))))
def f__law_good : FD := defF 1 2 b__law_good
def b__law_spoilt (r : FD) : FS := (seqS (ifS (tstB (isiE "list" (varE 1))) (retS (callE tupleD (consA (varE 1) nilA))) nxS)
  (seqS (ifS (andB (tstB (isiE "tuple" (varE 1))) (andB (tstB (binE neE (varE 1) (tupE nilA))) (tstB (binE gtD (callD f__law_take (ownAr 0 (consAr (retE (.int 5)) nilAr))) (retE (.int 0)))))) (seqS (asgS (callD f__law_take (ownAr 0 (consAr (callE lenD (consA (varE 1) nilA)) nilAr))) (nameG 2))
  (retS (binE addD (binE addD (slE (varE 1) noO (someO (varE 2))) (tupE (consA (callD r (ownAr 0 (consAr (binE ixD (varE 1) (varE 2)) nilAr))) nilA))) (slE (varE 1) (someO (binE addBD (varE 2) (retE (.int 1)))) noO)))) nxS)
  (seqS (asgS (callD f__law_take (ownAr 0 (consAr (retE (.int 7)) nilAr))) (nameG 3))
  (seqS (ifS (tstB (isiE "tuple" (varE 1))) (seqS (asgS (binE ixD (lstE (consA (tupE (consA (retE (.str (PySem.Str.ofString "break"))) nilA)) (consA (retE (.str (PySem.Str.ofString "next"))) (consA (retE (.str (PySem.Str.ofString "whole"))) (consA (retE (.int 9)) nilA))))) (callD f__law_take (ownAr 0 (consAr (retE (.int 4)) nilAr)))) (nameG 4))
  (retS (binE ixD (lstE (consA (callE listD (consA (varE 1) nilA)) (consA (slE (varE 1) (someO (retE (.int 1))) noO) (consA (binE addD (varE 1) (slE (varE 1) (someO (unE negD (retE (.int 1)))) noO)) (consA (unE revTD (varE 1)) (consA (tupE nilA) (consA (binE addD (varE 1) (tupE (consA (varE 4) nilA))) (consA (retE .non) nilA)))))))) (varE 3)))) nxS)
  (seqS (ifS (tstB (isiE "int" (varE 1))) (retS (binE ixD (lstE (consA (binE addBD (varE 1) (retE (.int 1))) (consA (binE subBD (varE 1) (retE (.int 1))) (consA (binE addBD (varE 1) (retE (.int 8))) (consA (retE (.bl true)) (consA (retE .non) (consA (retE (.int 0)) (consA (retE (.str (PySem.Str.ofString "5"))) nilA)))))))) (varE 3))) nxS)
  (retS (binE ixD (lstE (consA (retE (.str (PySem.Str.ofString "text"))) (consA (retE (.str (PySem.Str.ofString "block"))) (consA (retE (.str (PySem.Str.ofString "break"))) (consA (retE (.str (PySem.Str.ofString "next"))) (consA (retE (.str (PySem.Str.ofString "whole"))) (consA (retE .non) (consA (retE (.str (PySem.Str.ofString ""))) nilA)))))))) (varE 3))))))))
def f__law_spoilt : Nat → FD
  | 0 => fun _ => .no
  | n + 1 => defF 2 5 (b__law_spoilt (f__law_spoilt n))
def b_law : FS := (seqS (forS (iterR1 (consA (retE (.int 8)) nilA)) (nameG 1) (seqS (setF 2 (callN f__law_bag (consAr (varE 0) (consAr (varE 1) nilAr))))
  (seqS (asgS (callD f__law_document (ownAr 2 (consAr (retE (.int 6)) nilAr))) (nameG 3))
  (seqS (ifS (tstB (binE isNotE (callD f_is_document (consAr (varE 3) nilAr)) (retE (.bl true)))) (retS (retE (.bl false))) nxS)
  (seqS (ifS (tstB (binE neE (lstE (consA (callD f_narrowest (consAr (varE 3) nilAr)) (consA (callD f_widest (consAr (varE 3) nilAr)) nilA))) (lstE (consA (callD f__law_low (consAr (varE 3) nilAr)) (consA (callD f__law_high (consAr (varE 3) nilAr)) nilA))))) (retS (retE (.bl false))) nxS)
  (seqS (asgS (varE 3) (nameG 4))
  (forS (iterR1 (consA (retE (.int 18)) nilA)) (nameG 5) (seqS (asgS (callD (f__law_spoilt 12) (ownAr 2 (consAr (ifE (tstB (binE eqE (binE modD (varE 5) (retE (.int 3))) (retE (.int 0)))) (varE 3) (varE 4)) nilAr))) (nameG 4))
  (seqS (ifS (notB (tstB (callD f__law_truly (consAr (callD f_is_document (consAr (varE 4) nilAr)) (consAr (callD f__law_good (consAr (varE 4) nilAr)) nilAr))))) (retS (retE (.bl false))) nxS)
  (seqS (asgS (ifE (tstB (callD f__law_good (consAr (varE 4) nilAr))) (retE (.str (PySem.Str.ofString ""))) (retE (.str (PySem.Str.ofString "document value")))) (nameG 6))
  (seqS (ifS (tstB (binE neE (errF (fun x => some (xword x)) (callD f_narrowest (consAr (varE 4) nilAr))) (varE 6))) (retS (retE (.bl false))) nxS)
  (ifS (tstB (binE neE (errF (fun x => some (xword x)) (callD f_widest (consAr (varE 4) nilAr))) (varE 6))) (retS (retE (.bl false))) nxS))))))))))))
  (seqS (forS (iterS (lstE (consA (tupE (consA (retE (.int 1)) (consA (retE (.int 1)) nilA))) (consA (tupE (consA (retE (.int 3)) (consA (retE (.int 3)) nilA))) (consA (tupE (consA (retE (.int 0)) (consA (retE (.int 1)) nilA))) (consA (tupE (consA (retE (.int 4)) (consA (retE (.int 1)) nilA))) (consA (tupE (consA (retE (.int 1)) nilA)) (consA (tupE (consA (retE (.int 1)) (consA (retE (.int 1)) (consA (retE (.int 1)) nilA)))) (consA (lstE (consA (retE (.int 1)) (consA (retE (.int 1)) nilA))) (consA (tupE (consA (retE (.bl true)) (consA (retE (.int 1)) nilA))) (consA (tupE (consA (retE (.int 1)) (consA (retE .non) nilA))) (consA (retE .non) (consA (retE (.str (PySem.Str.ofString "22"))) nilA))))))))))))) (nameG 4) (ifS (notB (tstB (callD f__law_truly (consAr (callD f_is_rules (consAr (varE 4) nilAr)) (consAr (andE (binE inE (varE 4) (lstE (consA (tupE (consA (retE (.int 1)) (consA (retE (.int 1)) nilA))) (consA (tupE (consA (retE (.int 3)) (consA (retE (.int 3)) nilA))) nilA)))) (binE isNotE (binE ixD (varE 4) (retE (.int 0))) (retE (.bl true)))) nilAr))))) (retS (retE (.bl false))) nxS))
  (seqS (asgS (tupE (consA (retE (.str (PySem.Str.ofString "text"))) (consA (binE mulD (tupE (consA (retE (.int 9)) nilA)) (retE (.int 12))) (consA (tupE (consA (retE (.str (PySem.Str.ofString "next"))) (consA (retE (.str (PySem.Str.ofString "whole"))) nilA))) nilA)))) (nameG 7))
  (seqS (asgS (lstE (consA (callD f_is_document (consAr (binE mulD (tupE (consA (varE 7) nilA)) (retE (.int 8))) nilAr)) (consA (callD f_is_document (consAr (binE mulD (tupE (consA (varE 7) nilA)) (retE (.int 9))) nilAr)) (consA (callD f_is_document (consAr (tupE (consA (tupE (consA (retE (.str (PySem.Str.ofString "text"))) (consA (binE mulD (tupE (consA (retE (.int 9)) nilA)) (retE (.int 13))) (consA (tupE nilA) nilA)))) nilA)) nilAr)) nilA)))) (nameG 8))
  (seqS (asgS (binE addD (varE 8) (lstE (consA (callD f_is_document (consAr (binE mulD (tupE (consA (tupE (consA (retE (.str (PySem.Str.ofString "break"))) nilA)) nilA)) (retE (.int 3))) nilAr)) (consA (callD f_is_document (consAr (tupE nilA) nilAr)) (consA (callD f_is_document (consAr (tupE (consA (tupE (consA (retE (.str (PySem.Str.ofString "break"))) nilA)) (consA (tupE (consA (retE (.str (PySem.Str.ofString "block"))) (consA (retE (.int 9)) (consA (tupE (consA (retE (.str (PySem.Str.ofString "next"))) nilA)) nilA)))) nilA))) nilAr)) nilA))))) (nameG 8))
  (retS (andE (binE eqE (varE 8) (lstE (consA (retE (.bl true)) (consA (retE (.bl false)) (consA (retE (.bl false)) (consA (retE (.bl false)) (consA (retE (.bl false)) (consA (retE (.bl true)) nilA)))))))) (binE eqE (lstE (consA (callD f_narrowest (consAr (tupE (consA (varE 7) nilA)) nilAr)) (consA (callD f_widest (consAr (tupE (consA (varE 7) nilA)) nilAr)) nilA))) (lstE (consA (retE (.int 9)) (consA (retE (.int 119)) nilA)))))))))))
def f_law : FD := defF 1 9 b_law
end K01

set_option maxHeartbeats 4000000
/-! printed by gen.py: each def of the text as a function on data -/
namespace K01
open PySem PySem.Spec PyProof.Rows L2 DL
open PK
def topS (i : Nat) : Stmt := PySem.Challenge.pw_anypages_k01_documents_and_rules_known.main.body.getD i (.Pass ⟨0, 0, 0, 0⟩)
abbrev s_is_whole : Stmt := topS 13
abbrev N_is_whole : List Str := ["value", "low", "high"]
abbrev p_is_whole : List Str := ["value", "low", "high"]
abbrev s_are_marks : Stmt := topS 14
abbrev N_are_marks : List Str := ["value", "known", "mark", "one", "other"]
abbrev p_are_marks : List Str := ["value", "known"]
abbrev s_is_part : Stmt := topS 15
abbrev N_is_part : List Str := ["value", "word"]
abbrev p_is_part : List Str := ["value"]
abbrev s_is_document : Stmt := topS 16
abbrev N_is_document : List Str := ["value", "part"]
abbrev p_is_document : List Str := ["value"]
abbrev s_is_rules : Stmt := topS 17
abbrev N_is_rules : List Str := ["value", "number"]
abbrev p_is_rules : List Str := ["value"]
abbrev s_need_document : Stmt := topS 18
abbrev N_need_document : List Str := ["document"]
abbrev p_need_document : List Str := ["document"]
abbrev s_words_in : Stmt := topS 19
abbrev N_words_in : List Str := ["document", "part"]
abbrev p_words_in : List Str := ["document"]
abbrev s_least_width : Stmt := topS 20
abbrev N_least_width : List Str := ["document", "words", "word"]
abbrev p_least_width : List Str := ["document"]
abbrev s_widest_width : Stmt := topS 21
abbrev N_widest_width : List Str := ["document", "words"]
abbrev p_widest_width : List Str := ["document"]
abbrev s_narrowest : Stmt := topS 22
abbrev N_narrowest : List Str := ["document"]
abbrev p_narrowest : List Str := ["document"]
abbrev s_widest : Stmt := topS 23
abbrev N_widest : List Str := ["document"]
abbrev p_widest : List Str := ["document"]
abbrev s__law_cell : Stmt := topS 25
abbrev N__law_cell : List Str := ["script", "k"]
abbrev p__law_cell : List Str := ["script", "k"]
abbrev s__law_draws : Stmt := topS 26
abbrev N__law_draws : List Str := ["script", "k", "many", "base", "primes", "cell", "rest", "row", "j", "mash"]
abbrev p__law_draws : List Str := ["script", "k", "many", "base"]
abbrev s__law_bag : Stmt := topS 27
abbrev N__law_bag : List Str := ["script", "k"]
abbrev p__law_bag : List Str := ["script", "k"]
abbrev s__law_take : Stmt := topS 28
abbrev N__law_take : List Str := ["bag", "many", "draw"]
abbrev p__law_take : List Str := ["bag", "many"]
abbrev s__law_part : Stmt := topS 29
abbrev N__law_part : List Str := ["bag", "way", "words", "marks", "turn"]
abbrev p__law_part : List Str := ["bag"]
abbrev s__law_document : Stmt := topS 30
abbrev N__law_document : List Str := ["bag", "most", "parts", "turn", "part"]
abbrev p__law_document : List Str := ["bag", "most"]
abbrev s__law_texts : Stmt := topS 31
abbrev N__law_texts : List Str := ["document", "part"]
abbrev p__law_texts : List Str := ["document"]
abbrev s__law_low : Stmt := topS 32
abbrev N__law_low : List Str := ["document", "longest", "words", "word"]
abbrev p__law_low : List Str := ["document"]
abbrev s__law_high : Stmt := topS 33
abbrev N__law_high : List Str := ["document", "longest", "words", "word"]
abbrev p__law_high : List Str := ["document"]
abbrev s__law_named_error : Stmt := topS 34
abbrev N__law_named_error : List Str := ["e", "some", "words", "word", "good"]
abbrev p__law_named_error : List Str := ["e"]
abbrev s__law_truly : Stmt := topS 36
abbrev N__law_truly : List Str := ["found", "due"]
abbrev p__law_truly : List Str := ["found", "due"]
abbrev s__law_number : Stmt := topS 37
abbrev N__law_number : List Str := ["value", "low", "high"]
abbrev p__law_number : List Str := ["value", "low", "high"]
abbrev s__law_good_part : Stmt := topS 38
abbrev N__law_good_part : List Str := ["value", "word"]
abbrev p__law_good_part : List Str := ["value"]
abbrev s__law_good : Stmt := topS 39
abbrev N__law_good : List Str := ["value", "part"]
abbrev p__law_good : List Str := ["value"]
abbrev s__law_spoilt : Stmt := topS 40
abbrev N__law_spoilt : List Str := ["bag", "value", "at", "way", "more"]
abbrev p__law_spoilt : List Str := ["bag", "value"]
abbrev s_law : Stmt := topS 41
abbrev N_law : List Str := ["script", "k", "bag", "document", "value", "turn", "word", "long_so", "some"]
abbrev p_law : List Str := ["script"]
abbrev s__law_error : Stmt := topS 35
abbrev N__law_error : List Str := ["call", "e"]
abbrev p__law_error : List Str := ["call"]
/-- what the top has written -/
structure Tx (K : PySem.W.Frag) (mg : Str → Option Value) where
  cl : Xc → Addr
  T : List (Addr × Str)
  EK : ErrK K mg cl
  e_InvalidDocument : ErrC K mg "InvalidDocument" (cl .doc)
  z_ValueError : mg "ValueError" = none
  z_all : mg "all" = none
  z_bool : mg "bool" = none
  z_int : mg "int" = none
  z_isinstance : mg "isinstance" = none
  z_len : mg "len" = none
  z_list : mg "list" = none
  z_max : mg "max" = none
  z_range : mg "range" = none
  z_str : mg "str" = none
  z_sum : mg "sum" = none
  z_tuple : mg "tuple" = none
  z_zip : mg "zip" = none
  v_MOST_PARTS : V
  u_MOST_PARTS : Value
  c_MOST_PARTS : mg "MOST_PARTS" = some u_MOST_PARTS ∧ RelV v_MOST_PARTS u_MOST_PARTS
  d_MOST_PARTS : ∀ G : Hp, Dq K G v_MOST_PARTS K_MOST_PARTS
  v_MARKS : V
  u_MARKS : Value
  c_MARKS : mg "MARKS" = some u_MARKS ∧ RelV v_MARKS u_MARKS
  d_MARKS : ∀ G : Hp, Dq K G v_MARKS K_MARKS
  a_is_whole : Addr
  D_is_whole : FuncData
  F_is_whole : Fun K "is_whole" "is_whole" s_is_whole a_is_whole D_is_whole
  b_is_whole : Binds K D_is_whole p_is_whole []
  g_is_whole : mg "is_whole" = some (.ref a_is_whole)
  a_are_marks : Addr
  D_are_marks : FuncData
  F_are_marks : Fun K "are_marks" "are_marks" s_are_marks a_are_marks D_are_marks
  b_are_marks : Binds K D_are_marks p_are_marks []
  g_are_marks : mg "are_marks" = some (.ref a_are_marks)
  a_is_part : Addr
  D_is_part : FuncData
  F_is_part : Fun K "is_part" "is_part" s_is_part a_is_part D_is_part
  b_is_part : Binds K D_is_part p_is_part []
  g_is_part : mg "is_part" = some (.ref a_is_part)
  a_is_document : Addr
  D_is_document : FuncData
  F_is_document : Fun K "is_document" "is_document" s_is_document a_is_document D_is_document
  b_is_document : Binds K D_is_document p_is_document []
  g_is_document : mg "is_document" = some (.ref a_is_document)
  a_is_rules : Addr
  D_is_rules : FuncData
  F_is_rules : Fun K "is_rules" "is_rules" s_is_rules a_is_rules D_is_rules
  b_is_rules : Binds K D_is_rules p_is_rules []
  g_is_rules : mg "is_rules" = some (.ref a_is_rules)
  a_need_document : Addr
  D_need_document : FuncData
  F_need_document : Fun K "need_document" "need_document" s_need_document a_need_document D_need_document
  b_need_document : Binds K D_need_document p_need_document []
  g_need_document : mg "need_document" = some (.ref a_need_document)
  a_words_in : Addr
  D_words_in : FuncData
  F_words_in : Fun K "words_in" "words_in" s_words_in a_words_in D_words_in
  b_words_in : Binds K D_words_in p_words_in []
  g_words_in : mg "words_in" = some (.ref a_words_in)
  a_least_width : Addr
  D_least_width : FuncData
  F_least_width : Fun K "least_width" "least_width" s_least_width a_least_width D_least_width
  b_least_width : Binds K D_least_width p_least_width []
  g_least_width : mg "least_width" = some (.ref a_least_width)
  a_widest_width : Addr
  D_widest_width : FuncData
  F_widest_width : Fun K "widest_width" "widest_width" s_widest_width a_widest_width D_widest_width
  b_widest_width : Binds K D_widest_width p_widest_width []
  g_widest_width : mg "widest_width" = some (.ref a_widest_width)
  a_narrowest : Addr
  D_narrowest : FuncData
  F_narrowest : Fun K "narrowest" "narrowest" s_narrowest a_narrowest D_narrowest
  b_narrowest : Binds K D_narrowest p_narrowest []
  g_narrowest : mg "narrowest" = some (.ref a_narrowest)
  a_widest : Addr
  D_widest : FuncData
  F_widest : Fun K "widest" "widest" s_widest a_widest D_widest
  b_widest : Binds K D_widest p_widest []
  g_widest : mg "widest" = some (.ref a_widest)
  a__law_cell : Addr
  D__law_cell : FuncData
  F__law_cell : Fun K "_law_cell" "_law_cell" s__law_cell a__law_cell D__law_cell
  b__law_cell : Binds K D__law_cell p__law_cell []
  g__law_cell : mg "_law_cell" = some (.ref a__law_cell)
  a__law_draws : Addr
  D__law_draws : FuncData
  F__law_draws : Fun K "_law_draws" "_law_draws" s__law_draws a__law_draws D__law_draws
  b__law_draws : Binds K D__law_draws p__law_draws []
  g__law_draws : mg "_law_draws" = some (.ref a__law_draws)
  a__law_bag : Addr
  D__law_bag : FuncData
  F__law_bag : Fun K "_law_bag" "_law_bag" s__law_bag a__law_bag D__law_bag
  b__law_bag : Binds K D__law_bag p__law_bag []
  g__law_bag : mg "_law_bag" = some (.ref a__law_bag)
  a__law_take : Addr
  D__law_take : FuncData
  F__law_take : Fun K "_law_take" "_law_take" s__law_take a__law_take D__law_take
  b__law_take : Binds K D__law_take p__law_take []
  g__law_take : mg "_law_take" = some (.ref a__law_take)
  a__law_part : Addr
  D__law_part : FuncData
  F__law_part : Fun K "_law_part" "_law_part" s__law_part a__law_part D__law_part
  b__law_part : Binds K D__law_part p__law_part []
  g__law_part : mg "_law_part" = some (.ref a__law_part)
  a__law_document : Addr
  D__law_document : FuncData
  F__law_document : Fun K "_law_document" "_law_document" s__law_document a__law_document D__law_document
  b__law_document : Binds K D__law_document p__law_document []
  g__law_document : mg "_law_document" = some (.ref a__law_document)
  a__law_texts : Addr
  D__law_texts : FuncData
  F__law_texts : Fun K "_law_texts" "_law_texts" s__law_texts a__law_texts D__law_texts
  b__law_texts : Binds K D__law_texts p__law_texts []
  g__law_texts : mg "_law_texts" = some (.ref a__law_texts)
  a__law_low : Addr
  D__law_low : FuncData
  F__law_low : Fun K "_law_low" "_law_low" s__law_low a__law_low D__law_low
  b__law_low : Binds K D__law_low p__law_low []
  g__law_low : mg "_law_low" = some (.ref a__law_low)
  a__law_high : Addr
  D__law_high : FuncData
  F__law_high : Fun K "_law_high" "_law_high" s__law_high a__law_high D__law_high
  b__law_high : Binds K D__law_high p__law_high []
  g__law_high : mg "_law_high" = some (.ref a__law_high)
  a__law_named_error : Addr
  D__law_named_error : FuncData
  F__law_named_error : Fun K "_law_named_error" "_law_named_error" s__law_named_error a__law_named_error D__law_named_error
  b__law_named_error : Binds K D__law_named_error p__law_named_error []
  g__law_named_error : mg "_law_named_error" = some (.ref a__law_named_error)
  a__law_truly : Addr
  D__law_truly : FuncData
  F__law_truly : Fun K "_law_truly" "_law_truly" s__law_truly a__law_truly D__law_truly
  b__law_truly : Binds K D__law_truly p__law_truly []
  g__law_truly : mg "_law_truly" = some (.ref a__law_truly)
  a__law_number : Addr
  D__law_number : FuncData
  F__law_number : Fun K "_law_number" "_law_number" s__law_number a__law_number D__law_number
  b__law_number : Binds K D__law_number p__law_number []
  g__law_number : mg "_law_number" = some (.ref a__law_number)
  a__law_good_part : Addr
  D__law_good_part : FuncData
  F__law_good_part : Fun K "_law_good_part" "_law_good_part" s__law_good_part a__law_good_part D__law_good_part
  b__law_good_part : Binds K D__law_good_part p__law_good_part []
  g__law_good_part : mg "_law_good_part" = some (.ref a__law_good_part)
  a__law_good : Addr
  D__law_good : FuncData
  F__law_good : Fun K "_law_good" "_law_good" s__law_good a__law_good D__law_good
  b__law_good : Binds K D__law_good p__law_good []
  g__law_good : mg "_law_good" = some (.ref a__law_good)
  a__law_spoilt : Addr
  D__law_spoilt : FuncData
  F__law_spoilt : Fun K "_law_spoilt" "_law_spoilt" s__law_spoilt a__law_spoilt D__law_spoilt
  b__law_spoilt : Binds K D__law_spoilt p__law_spoilt []
  g__law_spoilt : mg "_law_spoilt" = some (.ref a__law_spoilt)
  a_law : Addr
  D_law : FuncData
  F_law : Fun K "law" "law" s_law a_law D_law
  b_law : Binds K D_law p_law []
  g_law : mg "law" = some (.ref a_law)
  a__law_error : Addr
  D__law_error : FuncData
  F__law_error : Fun K "_law_error" "_law_error" s__law_error a__law_error D__law_error
  b__law_error : Binds K D__law_error p__law_error []
  g__law_error : mg "_law_error" = some (.ref a__law_error)
  cc_law : Addr
  P_law : Addr
  q_law : D_law.code = .ref cc_law
  m_law : (P_law, ((envOfC "law" (defScope s_law) 0 0 .none).qual ++ "<lambda>")) ∈ T
  u_law : ∀ p ∈ T, p.1 = P_law → p.2 = ((envOfC "law" (defScope s_law) 0 0 .none).qual ++ "<lambda>")
/-- the tables of the defs that make lambdas -/
structure TBs {K : PySem.W.Frag} {mg : Str → Option Value} (t : Tx K mg) (base : Heap) : Prop where
  law : LamX.TabB base mg t.cc_law t.P_law
theorem sc_is_whole : FnScope N_is_whole p_is_whole (defScope s_is_whole) := ⟨rfl, rfl, rfl, by decide +kernel, rfl, by decide +kernel, by decide +kernel⟩
theorem sc_are_marks : FnScope N_are_marks p_are_marks (defScope s_are_marks) := ⟨rfl, rfl, rfl, by decide +kernel, rfl, by decide +kernel, by decide +kernel⟩
theorem sc_is_part : FnScope N_is_part p_is_part (defScope s_is_part) := ⟨rfl, rfl, rfl, by decide +kernel, rfl, by decide +kernel, by decide +kernel⟩
theorem sc_is_document : FnScope N_is_document p_is_document (defScope s_is_document) := ⟨rfl, rfl, rfl, by decide +kernel, rfl, by decide +kernel, by decide +kernel⟩
theorem sc_is_rules : FnScope N_is_rules p_is_rules (defScope s_is_rules) := ⟨rfl, rfl, rfl, by decide +kernel, rfl, by decide +kernel, by decide +kernel⟩
theorem sc_need_document : FnScope N_need_document p_need_document (defScope s_need_document) := ⟨rfl, rfl, rfl, by decide +kernel, rfl, by decide +kernel, by decide +kernel⟩
theorem sc_words_in : FnScope N_words_in p_words_in (defScope s_words_in) := ⟨rfl, rfl, rfl, by decide +kernel, rfl, by decide +kernel, by decide +kernel⟩
theorem sc_least_width : FnScope N_least_width p_least_width (defScope s_least_width) := ⟨rfl, rfl, rfl, by decide +kernel, rfl, by decide +kernel, by decide +kernel⟩
theorem sc_widest_width : FnScope N_widest_width p_widest_width (defScope s_widest_width) := ⟨rfl, rfl, rfl, by decide +kernel, rfl, by decide +kernel, by decide +kernel⟩
theorem sc_narrowest : FnScope N_narrowest p_narrowest (defScope s_narrowest) := ⟨rfl, rfl, rfl, by decide +kernel, rfl, by decide +kernel, by decide +kernel⟩
theorem sc_widest : FnScope N_widest p_widest (defScope s_widest) := ⟨rfl, rfl, rfl, by decide +kernel, rfl, by decide +kernel, by decide +kernel⟩
theorem sc__law_cell : FnScope N__law_cell p__law_cell (defScope s__law_cell) := ⟨rfl, rfl, rfl, by decide +kernel, rfl, by decide +kernel, by decide +kernel⟩
theorem sc__law_draws : FnScope N__law_draws p__law_draws (defScope s__law_draws) := ⟨rfl, rfl, rfl, by decide +kernel, rfl, by decide +kernel, by decide +kernel⟩
theorem sc__law_bag : FnScope N__law_bag p__law_bag (defScope s__law_bag) := ⟨rfl, rfl, rfl, by decide +kernel, rfl, by decide +kernel, by decide +kernel⟩
theorem sc__law_take : FnScope N__law_take p__law_take (defScope s__law_take) := ⟨rfl, rfl, rfl, by decide +kernel, rfl, by decide +kernel, by decide +kernel⟩
theorem sc__law_part : FnScope N__law_part p__law_part (defScope s__law_part) := ⟨rfl, rfl, rfl, by decide +kernel, rfl, by decide +kernel, by decide +kernel⟩
theorem sc__law_document : FnScope N__law_document p__law_document (defScope s__law_document) := ⟨rfl, rfl, rfl, by decide +kernel, rfl, by decide +kernel, by decide +kernel⟩
theorem sc__law_texts : FnScope N__law_texts p__law_texts (defScope s__law_texts) := ⟨rfl, rfl, rfl, by decide +kernel, rfl, by decide +kernel, by decide +kernel⟩
theorem sc__law_low : FnScope N__law_low p__law_low (defScope s__law_low) := ⟨rfl, rfl, rfl, by decide +kernel, rfl, by decide +kernel, by decide +kernel⟩
theorem sc__law_high : FnScope N__law_high p__law_high (defScope s__law_high) := ⟨rfl, rfl, rfl, by decide +kernel, rfl, by decide +kernel, by decide +kernel⟩
theorem sc__law_named_error : FnScope N__law_named_error p__law_named_error (defScope s__law_named_error) := ⟨rfl, rfl, rfl, by decide +kernel, rfl, by decide +kernel, by decide +kernel⟩
theorem sc__law_truly : FnScope N__law_truly p__law_truly (defScope s__law_truly) := ⟨rfl, rfl, rfl, by decide +kernel, rfl, by decide +kernel, by decide +kernel⟩
theorem sc__law_number : FnScope N__law_number p__law_number (defScope s__law_number) := ⟨rfl, rfl, rfl, by decide +kernel, rfl, by decide +kernel, by decide +kernel⟩
theorem sc__law_good_part : FnScope N__law_good_part p__law_good_part (defScope s__law_good_part) := ⟨rfl, rfl, rfl, by decide +kernel, rfl, by decide +kernel, by decide +kernel⟩
theorem sc__law_good : FnScope N__law_good p__law_good (defScope s__law_good) := ⟨rfl, rfl, rfl, by decide +kernel, rfl, by decide +kernel, by decide +kernel⟩
theorem sc__law_spoilt : FnScope N__law_spoilt p__law_spoilt (defScope s__law_spoilt) := ⟨rfl, rfl, rfl, by decide +kernel, rfl, by decide +kernel, by decide +kernel⟩
theorem sc_law : FnScope N_law p_law (defScope s_law) := ⟨rfl, rfl, rfl, by decide +kernel, rfl, by decide +kernel, by decide +kernel⟩
theorem sc__law_error : FnScope N__law_error p__law_error (defScope s__law_error) := ⟨rfl, rfl, rfl, by decide +kernel, rfl, by decide +kernel, by decide +kernel⟩
section
variable {P : Program} {w : World} {K : PySem.W.Frag} {mg : Str → Option Value} {base : Heap}
theorem O_is_whole (t : Tx K mg) : FnOk P w K mg base (L2N.CX P w) 2 t.a_is_whole t.D_is_whole p_is_whole (spD K t.T t.cl f_is_whole) :=
  fn_data t.F_is_whole sc_is_whole fun cdv A outer s H E hr =>
  (dss_one (ds_ret (de_and (de_isi t.z_isinstance t.z_int (by decide +kernel) (de_of (pv 0))) (de_and (de_not (de_isi t.z_isinstance t.z_bool (by decide +kernel) (de_of (pv 0)))) (de_one (de_leLe (de_of (pv 1)) (de_of (pv 0)) (de_of (pv 2))))))))
theorem O_are_marks (t : Tx K mg) : FnOk P w K mg base (L2N.CX P w) 2 t.a_are_marks t.D_are_marks p_are_marks (spD K t.T t.cl f_are_marks) :=
  fn_data t.F_are_marks sc_are_marks fun cdv A outer s H E hr =>
  (dss_cons (ds_if (db_w (dw_or (db_not (db_val (de_isi t.z_isinstance t.z_tuple (by decide +kernel) (de_of (pv 0))))) (dw_or1 (db_not (db_val (de_all rfl t.z_all (da_cons (de_lc (own := [("mark", 2)]) rfl sc_are_marks.nd (di_seq (de_of (pv 0))) (blkOk_by (own := [("mark", 2)]) (N := N_are_marks) (sc := defScope s_are_marks) (by decide +kernel)) (fun _ _ _ _ _ => (dg_name (pg_name (i := 2) sc_are_marks.nd rfl (by first | exact Or.inl rfl | exact Or.inr rfl)))) (fun _ _ _ _ _ => dts_nil) (fun _ _ _ _ _ => (de_and (de_isi t.z_isinstance t.z_str (by decide +kernel) (de_of (pv 2))) (de_one (de_in (hu_room hr) (de_of (pv 2)) (de_of (pv 1)))))) (by decide)) da_nil))))))) (dss_one (ds_ret de_bl)) dss_nil)
  (dss_one (ds_ret (de_all rfl t.z_all (da_cons (de_lc (own := [("one", 3), ("other", 4)]) rfl sc_are_marks.nd (di_zip t.z_zip (da_cons (de_of (pv 0)) (da_cons (de_slice (de_of (pv 0)) (do_some de_int) do_none) da_nil))) (blkOk_by (own := [("one", 3), ("other", 4)]) (N := N_are_marks) (sc := defScope s_are_marks) (by decide +kernel)) (fun _ _ _ _ _ => (dg_tup (n := 2) rfl (dgs_cons (dg_name (pg_name (i := 3) sc_are_marks.nd rfl (by first | exact Or.inl rfl | exact Or.inr rfl))) (dgs_cons (dg_name (pg_name (i := 4) sc_are_marks.nd rfl (by first | exact Or.inl rfl | exact Or.inr rfl))) dgs_nil)))) (fun _ _ _ _ _ => dts_nil) (fun _ _ _ _ _ => (de_lt (de_of (pv 3)) (de_of (pv 4)))) (by decide)) da_nil)))))
theorem O_is_part (t : Tx K mg) : FnOk P w K mg base (L2N.CX P w) 3 t.a_is_part t.D_is_part p_is_part (spD K t.T t.cl f_is_part) :=
  fn_data t.F_is_part sc_is_part fun cdv A outer s H E hr =>
  (dss_cons (ds_if (db_w (dw_or (db_not (db_val (de_isi t.z_isinstance t.z_tuple (by decide +kernel) (de_of (pv 0))))) (dw_or (db_eq (hu_room hr) (de_of (pv 0)) (de_tup da_nil)) (dw_or1 (db_not (db_val (de_isi t.z_isinstance t.z_str (by decide +kernel) (de_ix (de_of (pv 0)) de_int)))))))) (dss_one (ds_ret de_bl)) dss_nil)
  (dss_cons (ds_if (db_eq (hu_room hr) (de_ix (de_of (pv 0)) de_int) de_str) (dss_one (ds_ret (de_eq (hu_room hr) (de_len t.z_len (da_cons (de_of (pv 0)) da_nil)) de_int))) dss_nil)
  (dss_cons (ds_if (db_ne (hu_room hr) (de_len t.z_len (da_cons (de_of (pv 0)) da_nil)) de_int) (dss_one (ds_ret de_bl)) dss_nil)
  (dss_cons (ds_if (db_eq (hu_room hr) (de_ix (de_of (pv 0)) de_int) de_str) (dss_one (ds_ret (de_and (de_call (O_is_whole t) (hr.mono (by decide)) t.g_is_whole t.F_is_whole.kp t.b_is_whole (L2N.passes_call (L2N.takes_of rfl rfl rfl rfl) (fun _ _ _ _ h => h)) (dr_cons (de_ix (de_of (pv 0)) de_int) (dr_cons de_int (dr_cons de_int dr_nil)))) (de_one (de_call (O_are_marks t) (hr.mono (by decide)) t.g_are_marks t.F_are_marks.kp t.b_are_marks (L2N.passes_call (L2N.takes_of rfl rfl rfl rfl) (fun _ _ _ _ h => h)) (dr_cons (de_ix (de_of (pv 0)) de_int) (dr_cons (de_tup (da_cons de_str da_nil)) dr_nil))))))) dss_nil)
  (dss_cons (ds_if (db_w (dw_or (db_ne (hu_room hr) (de_ix (de_of (pv 0)) de_int) de_str) (dw_or (db_not (db_val (de_isi t.z_isinstance t.z_tuple (by decide +kernel) (de_ix (de_of (pv 0)) de_int)))) (dw_or1 (db_not (db_leLe de_int (de_len t.z_len (da_cons (de_ix (de_of (pv 0)) de_int) da_nil)) de_int)))))) (dss_one (ds_ret de_bl)) dss_nil)
  (dss_one (ds_ret (de_and (de_all rfl t.z_all (da_cons (de_lc (own := [("word", 1)]) rfl sc_is_part.nd (di_seq (de_ix (de_of (pv 0)) de_int)) (blkOk_by (own := [("word", 1)]) (N := N_is_part) (sc := defScope s_is_part) (by decide +kernel)) (fun _ _ _ _ _ => (dg_name (pg_name (i := 1) sc_is_part.nd rfl (by first | exact Or.inl rfl | exact Or.inr rfl)))) (fun _ _ _ _ _ => dts_nil) (fun _ _ _ _ _ => (de_call (O_is_whole t) (hr.mono (by decide)) t.g_is_whole t.F_is_whole.kp t.b_is_whole passN (dr_cons (de_of (pv 1)) (dr_cons de_int (dr_cons de_int dr_nil))))) (by decide)) da_nil)) (de_one (de_call (O_are_marks t) (hr.mono (by decide)) t.g_are_marks t.F_are_marks.kp t.b_are_marks (L2N.passes_call (L2N.takes_of rfl rfl rfl rfl) (fun _ _ _ _ h => h)) (dr_cons (de_ix (de_of (pv 0)) de_int) (dr_cons (de_glob t.c_MARKS.1 t.c_MARKS.2 (fun _ => t.d_MARKS _)) dr_nil))))))))))))
theorem O_is_document (t : Tx K mg) : FnOk P w K mg base (L2N.CX P w) 4 t.a_is_document t.D_is_document p_is_document (spD K t.T t.cl f_is_document) :=
  fn_data t.F_is_document sc_is_document fun cdv A outer s H E hr =>
  (dss_cons (ds_if (db_w (dw_or (db_not (db_val (de_isi t.z_isinstance t.z_tuple (by decide +kernel) (de_of (pv 0))))) (dw_or (db_not (db_leLe de_int (de_len t.z_len (da_cons (de_of (pv 0)) da_nil)) (de_glob t.c_MOST_PARTS.1 t.c_MOST_PARTS.2 (fun _ => t.d_MOST_PARTS _)))) (dw_or1 (db_not (db_val (de_all rfl t.z_all (da_cons (de_lc (own := [("part", 1)]) rfl sc_is_document.nd (di_seq (de_of (pv 0))) (blkOk_by (own := [("part", 1)]) (N := N_is_document) (sc := defScope s_is_document) (by decide +kernel)) (fun _ _ _ _ _ => (dg_name (pg_name (i := 1) sc_is_document.nd rfl (by first | exact Or.inl rfl | exact Or.inr rfl)))) (fun _ _ _ _ _ => dts_nil) (fun _ _ _ _ _ => (de_call (O_is_part t) (hr.mono (by decide)) t.g_is_part t.F_is_part.kp t.b_is_part passN (dr_cons (de_of (pv 1)) dr_nil))) (by decide)) da_nil)))))))) (dss_one (ds_ret de_bl)) dss_nil)
  (dss_one (ds_ret (de_not (de_all rfl t.z_all (da_cons (de_lc (own := [("part", 1)]) rfl sc_is_document.nd (di_seq (de_of (pv 0))) (blkOk_by (own := [("part", 1)]) (N := N_is_document) (sc := defScope s_is_document) (by decide +kernel)) (fun _ _ _ _ _ => (dg_name (pg_name (i := 1) sc_is_document.nd rfl (by first | exact Or.inl rfl | exact Or.inr rfl)))) (fun _ _ _ _ _ => dts_nil) (fun _ _ _ _ _ => (de_eq (hu_room hr) (de_ix (de_of (pv 1)) de_int) de_str)) (by decide)) da_nil))))))
theorem O_is_rules (t : Tx K mg) : FnOk P w K mg base (L2N.CX P w) 3 t.a_is_rules t.D_is_rules p_is_rules (spD K t.T t.cl f_is_rules) :=
  fn_data t.F_is_rules sc_is_rules fun cdv A outer s H E hr =>
  (dss_one (ds_ret (de_and (de_isi t.z_isinstance t.z_tuple (by decide +kernel) (de_of (pv 0))) (de_and (de_eq (hu_room hr) (de_len t.z_len (da_cons (de_of (pv 0)) da_nil)) de_int) (de_one (de_all rfl t.z_all (da_cons (de_lc (own := [("number", 1)]) rfl sc_is_rules.nd (di_seq (de_of (pv 0))) (blkOk_by (own := [("number", 1)]) (N := N_is_rules) (sc := defScope s_is_rules) (by decide +kernel)) (fun _ _ _ _ _ => (dg_name (pg_name (i := 1) sc_is_rules.nd rfl (by first | exact Or.inl rfl | exact Or.inr rfl)))) (fun _ _ _ _ _ => dts_nil) (fun _ _ _ _ _ => (de_call (O_is_whole t) (hr.mono (by decide)) t.g_is_whole t.F_is_whole.kp t.b_is_whole passN (dr_cons (de_of (pv 1)) (dr_cons de_int (dr_cons de_int dr_nil))))) (by decide)) da_nil)))))))
theorem O_need_document (t : Tx K mg) : FnOk P w K mg base (L2N.CX P w) 5 t.a_need_document t.D_need_document p_need_document (spD K t.T t.cl f_need_document) :=
  fn_data t.F_need_document sc_need_document fun cdv A outer s H E hr =>
  (dss_one (ds_if (db_not (db_val (de_call (O_is_document t) (hr.mono (by decide)) t.g_is_document t.F_is_document.kp t.b_is_document (L2N.passes_call (L2N.takes_of rfl rfl rfl rfl) (fun _ _ _ _ h => h)) (dr_cons (de_of (pv 0)) dr_nil)))) (dss_one (ds_raise rfl (L2N.takes_of rfl rfl rfl rfl) (fun _ _ _ _ h => h) t.e_InvalidDocument)) dss_nil))
theorem O_words_in (t : Tx K mg) : FnOk P w K mg base (L2N.CX P w) 2 t.a_words_in t.D_words_in p_words_in (spD K t.T t.cl f_words_in) :=
  fn_data t.F_words_in sc_words_in fun cdv A outer s H E hr =>
  (dss_one (ds_ret (de_lc (own := [("part", 1)]) rfl sc_words_in.nd (di_seq (de_of (pv 0))) (blkOk_by (own := [("part", 1)]) (N := N_words_in) (sc := defScope s_words_in) (by decide +kernel)) (fun _ _ _ _ _ => (dg_name (pg_name (i := 1) sc_words_in.nd rfl (by first | exact Or.inl rfl | exact Or.inr rfl)))) (fun _ _ _ _ _ => (dts_one (db_eq (hu_room hr) (de_ix (de_of (pv 1)) de_int) de_str))) (fun _ _ _ _ _ => (de_ix (de_of (pv 1)) de_int)) (by decide))))
theorem O_least_width (t : Tx K mg) : FnOk P w K mg base (L2N.CX P w) 3 t.a_least_width t.D_least_width p_least_width (spD K t.T t.cl f_least_width) :=
  fn_data t.F_least_width sc_least_width fun cdv A outer s H E hr =>
  (dss_one (ds_ret (de_max rfl t.z_max (da_cons (de_add (de_lst (da_cons de_int da_nil)) (de_lc2 (own := [("words", 1), ("word", 2)]) (vs1 := [2]) rfl sc_least_width.nd (di_seq (de_call (O_words_in t) (hr.mono (by decide)) t.g_words_in t.F_words_in.kp t.b_words_in (L2N.passes_call (L2N.takes_of rfl rfl rfl rfl) (fun _ _ _ _ h => h)) (dr_cons (de_of (pv 0)) dr_nil))) (blkOk_by (own := [("words", 1), ("word", 2)]) (N := N_least_width) (sc := defScope s_least_width) (by decide +kernel)) (by decide) (fun _ _ _ _ _ => (dg_name (pg_name (i := 1) sc_least_width.nd rfl (by first | exact Or.inl rfl | exact Or.inr rfl)))) (fun _ _ _ _ _ => dts_nil) (fun _ _ _ _ _ => (di_seq (de_of (pv 1)))) (fun _ _ _ _ _ => (dg_name (pg_name (i := 2) sc_least_width.nd rfl (by first | exact Or.inl rfl | exact Or.inr rfl)))) (fun _ _ _ _ _ => dts_nil) (fun _ _ _ _ _ => (de_of (pv 2))) (by decide) (by decide))) da_nil))))
theorem O_widest_width (t : Tx K mg) : FnOk P w K mg base (L2N.CX P w) 4 t.a_widest_width t.D_widest_width p_widest_width (spD K t.T t.cl f_widest_width) :=
  fn_data t.F_widest_width sc_widest_width fun cdv A outer s H E hr =>
  (dss_one (ds_ret (de_max rfl t.z_max (da_cons (de_add (de_lst (da_cons (de_call (O_least_width t) (hr.mono (by decide)) t.g_least_width t.F_least_width.kp t.b_least_width (L2N.passes_call (L2N.takes_of rfl rfl rfl rfl) (fun _ _ _ _ h => h)) (dr_cons (de_of (pv 0)) dr_nil)) da_nil)) (de_lc (own := [("words", 1)]) rfl sc_widest_width.nd (di_seq (de_call (O_words_in t) (hr.mono (by decide)) t.g_words_in t.F_words_in.kp t.b_words_in (L2N.passes_call (L2N.takes_of rfl rfl rfl rfl) (fun _ _ _ _ h => h)) (dr_cons (de_of (pv 0)) dr_nil))) (blkOk_by (own := [("words", 1)]) (N := N_widest_width) (sc := defScope s_widest_width) (by decide +kernel)) (fun _ _ _ _ _ => (dg_name (pg_name (i := 1) sc_widest_width.nd rfl (by first | exact Or.inl rfl | exact Or.inr rfl)))) (fun _ _ _ _ _ => dts_nil) (fun _ _ _ _ _ => (de_sub (de_add (de_sum rfl t.z_sum (da_cons (de_of (pv 1)) da_nil)) (de_len t.z_len (da_cons (de_of (pv 1)) da_nil))) de_int)) (by decide))) da_nil))))
theorem O_narrowest (t : Tx K mg) : FnOk P w K mg base (L2N.CX P w) 6 t.a_narrowest t.D_narrowest p_narrowest (spD K t.T t.cl f_narrowest) :=
  fn_data t.F_narrowest sc_narrowest fun cdv A outer s H E hr =>
  (dss_cons (ds_expr (de_call (O_need_document t) (hr.mono (by decide)) t.g_need_document t.F_need_document.kp t.b_need_document (L2N.passes_call (L2N.takes_of rfl rfl rfl rfl) (fun _ _ _ _ h => h)) (dr_cons (de_of (pv 0)) dr_nil)))
  (dss_one (ds_ret (de_call (O_least_width t) (hr.mono (by decide)) t.g_least_width t.F_least_width.kp t.b_least_width (L2N.passes_call (L2N.takes_of rfl rfl rfl rfl) (fun _ _ _ _ h => h)) (dr_cons (de_of (pv 0)) dr_nil)))))
theorem O_widest (t : Tx K mg) : FnOk P w K mg base (L2N.CX P w) 6 t.a_widest t.D_widest p_widest (spD K t.T t.cl f_widest) :=
  fn_data t.F_widest sc_widest fun cdv A outer s H E hr =>
  (dss_cons (ds_expr (de_call (O_need_document t) (hr.mono (by decide)) t.g_need_document t.F_need_document.kp t.b_need_document (L2N.passes_call (L2N.takes_of rfl rfl rfl rfl) (fun _ _ _ _ h => h)) (dr_cons (de_of (pv 0)) dr_nil)))
  (dss_one (ds_ret (de_call (O_widest_width t) (hr.mono (by decide)) t.g_widest_width t.F_widest_width.kp t.b_widest_width (L2N.passes_call (L2N.takes_of rfl rfl rfl rfl) (fun _ _ _ _ h => h)) (dr_cons (de_of (pv 0)) dr_nil)))))
theorem O__law_cell (t : Tx K mg) : FnOk P w K mg base (L2N.CX P w) 2 t.a__law_cell t.D__law_cell p__law_cell (spD K t.T t.cl f__law_cell) :=
  fn_data t.F__law_cell sc__law_cell fun cdv A outer s H E hr =>
  (dss_cons (ds_if (db_lt (de_of (pv 1)) (de_len t.z_len (da_cons (de_of (pv 0)) da_nil))) (dss_one (ds_ret (de_ix (de_of (pv 0)) (de_of (pv 1))))) dss_nil)
  (dss_cons (ds_if (db_eq (hu_room hr) (de_len t.z_len (da_cons (de_of (pv 0)) da_nil)) de_int) (dss_one (ds_ret (de_add (de_mul de_int (de_of (pv 1))) de_int))) dss_nil)
  (dss_one (ds_ret (de_add (de_mod (de_ix (de_of (pv 0)) (de_mod (de_of (pv 1)) (de_len t.z_len (da_cons (de_of (pv 0)) da_nil)))) de_int) (de_mul de_int (de_of (pv 1))))))))
theorem O__law_draws (t : Tx K mg) : FnOk P w K mg base (L2N.CX P w) 3 t.a__law_draws t.D__law_draws p__law_draws (spD K t.T t.cl f__law_draws) :=
  fn_data t.F__law_draws sc__law_draws fun cdv A outer s H E hr =>
  (dss_cons (ds_set (i := 4) sc__law_draws.nd rfl (by first | exact Or.inl rfl | exact Or.inr rfl) (de_tup (da_cons de_int (da_cons de_int (da_cons de_int (da_cons de_int (da_cons de_int (da_cons de_int (da_cons de_int (da_cons de_int da_nil))))))))))
  (dss_cons (ds_set (i := 5) sc__law_draws.nd rfl (by first | exact Or.inl rfl | exact Or.inr rfl) (de_call (O__law_cell t) (hr.mono (by decide)) t.g__law_cell t.F__law_cell.kp t.b__law_cell (L2N.passes_call (L2N.takes_of rfl rfl rfl rfl) (fun _ _ _ _ h => h)) (dr_cons (de_of (pv 0)) (dr_cons (de_of (pv 1)) dr_nil))))
  (dss_cons (ds_set (i := 6) sc__law_draws.nd rfl (by first | exact Or.inl rfl | exact Or.inr rfl) de_int)
  (dss_cons (ds_if (db_ge (de_of (pv 5)) (de_pow de_int de_int)) (dss_one (ds_set (i := 6) sc__law_draws.nd rfl (by first | exact Or.inl rfl | exact Or.inr rfl) (de_of (pv 5)))) dss_nil)
  (dss_cons (ds_setF (i := 7) sc__law_draws.nd rfl (by first | exact Or.inl rfl | exact Or.inr rfl) (show 4 ≤ 7 by decide) (df_lst da_nil))
  (dss_cons (ds_for (passes_of rfl) rfl (di_range1 t.z_range (da_cons (de_of (pv 2)) da_nil)) (dg_name (pg_name (i := 8) sc__law_draws.nd rfl (by first | exact Or.inl rfl | exact Or.inr rfl))) (dss_cons (ds_set (i := 9) sc__law_draws.nd rfl (by first | exact Or.inl rfl | exact Or.inr rfl) (de_mul (de_mod (de_of (pv 5)) (de_ix (de_of (pv 4)) (de_mod (de_of (pv 8)) de_int))) (de_add de_int (de_mul (de_mul de_int (de_of (pv 8))) (de_of (pv 8))))))
  (dss_cons (ds_set (i := 9) sc__law_draws.nd rfl (by first | exact Or.inl rfl | exact Or.inr rfl) (de_add (de_add (de_of (pv 9)) (de_mul (de_mul de_int (de_add (de_of (pv 8)) de_int)) (de_add (de_of (pv 8)) de_int))) (de_mul de_int (de_of (pv 1)))))
  (dss_cons (ds_set (i := 9) sc__law_draws.nd rfl (by first | exact Or.inl rfl | exact Or.inr rfl) (de_mod (de_of (pv 9)) (de_ix (de_of (pv 4)) (de_mod (de_add (de_mul de_int (de_of (pv 8))) (de_of (pv 1))) de_int))))
  (dss_cons (ds_set (i := 9) sc__law_draws.nd rfl (by first | exact Or.inl rfl | exact Or.inr rfl) (de_mod (de_mul (de_mul (de_of (pv 9)) (de_of (pv 9))) (de_of (pv 9))) (de_ix (de_of (pv 4)) (de_mod (de_add (de_of (pv 8)) de_int) de_int))))
  (dss_cons (ds_if (db_gt (de_of (pv 6)) de_int) (dss_one (ds_set (i := 9) sc__law_draws.nd rfl (by first | exact Or.inl rfl | exact Or.inr rfl) (de_of (pv 6)))) dss_nil)
  (dss_cons (ds_append (pe_bm PySem.F.plainAttrs_list PySem.F.slot_list_append PySem.F.type_list_append mt_append (pv 7) (pa_cons (de_mod (de_of (pv 9)) (de_of (pv 3))) pa_nil)))
  (dss_one (ds_set (i := 6) sc__law_draws.nd rfl (by first | exact Or.inl rfl | exact Or.inr rfl) (de_fdiv (de_of (pv 6)) (de_of (pv 3))))))))))))
  (dss_one (ds_retF (df_move (pv 7))))))))))
theorem O__law_bag (t : Tx K mg) : FnOk P w K mg base (L2N.CX P w) 4 t.a__law_bag t.D__law_bag p__law_bag (spD K t.T t.cl f__law_bag) :=
  fn_data t.F__law_bag sc__law_bag fun cdv A outer s H E hr =>
  (dss_one (ds_retF (df_call (O__law_draws t) (hr.mono (by decide)) t.g__law_draws t.F__law_draws.kp t.b__law_draws (L2N.passes_call (L2N.takes_of rfl rfl rfl rfl) (fun _ _ _ _ h => h)) (dr_cons (de_of (pv 0)) (dr_cons (de_of (pv 1)) (dr_cons de_int (dr_cons de_int dr_nil)))))))
theorem O__law_take (t : Tx K mg) : FnOk P w K mg base (L2N.CX P w) 2 t.a__law_take t.D__law_take p__law_take (spD K t.T t.cl f__law_take) :=
  fn_data t.F__law_take sc__law_take fun cdv A outer s H E hr =>
  (dss_cons (ds_set (i := 2) sc__law_take.nd rfl (by first | exact Or.inl rfl | exact Or.inr rfl) (de_if (db_ownNe (hu_room hr) (pv 0)) (de_pop0 (pe_bm PySem.F.plainAttrs_list PySem.F.slot_list_pop PySem.F.type_list_pop mt_popAt (pv 0) (pa_cons pe_int pa_nil))) de_int))
  (dss_one (ds_ret (de_mod (de_intC t.z_int (da_cons (de_of (pv 2)) da_nil)) (de_of (pv 1))))))
theorem O__law_part (t : Tx K mg) : FnOk P w K mg base (L2N.CX P w) 3 t.a__law_part t.D__law_part p__law_part (spD K t.T t.cl f__law_part) :=
  fn_data t.F__law_part sc__law_part fun cdv A outer s H E hr =>
  (dss_cons (ds_set (i := 1) sc__law_part.nd rfl (by first | exact Or.inl rfl | exact Or.inr rfl) (de_call (O__law_take t) (hr.mono (by decide)) t.g__law_take t.F__law_take.kp t.b__law_take (L2N.passes_call (L2N.takes_of rfl rfl rfl rfl) (fun _ _ _ _ h => h)) (dr_own (pv 0) (dr_cons de_int dr_nil))))
  (dss_cons (ds_if (db_eq (hu_room hr) (de_of (pv 1)) de_int) (dss_one (ds_ret (de_tup (da_cons de_str da_nil)))) dss_nil)
  (dss_cons (ds_if (db_lt (de_of (pv 1)) de_int) (dss_one (ds_ret (de_tup (da_cons de_str (da_cons (de_add de_int (de_call (O__law_take t) (hr.mono (by decide)) t.g__law_take t.F__law_take.kp t.b__law_take (L2N.passes_call (L2N.takes_of rfl rfl rfl rfl) (fun _ _ _ _ h => h)) (dr_own (pv 0) (dr_cons de_int dr_nil)))) (da_cons (de_if (db_eq (hu_room hr) (de_call (O__law_take t) (hr.mono (by decide)) t.g__law_take t.F__law_take.kp t.b__law_take (L2N.passes_call (L2N.takes_of rfl rfl rfl rfl) (fun _ _ _ _ h => h)) (dr_own (pv 0) (dr_cons de_int dr_nil))) de_int) (de_tup (da_cons de_str da_nil)) (de_tup da_nil)) da_nil)))))) dss_nil)
  (dss_cons (ds_set (i := 2) sc__law_part.nd rfl (by first | exact Or.inl rfl | exact Or.inr rfl) (de_tuple t.z_tuple (da_cons (de_lc (own := [("turn", 4)]) rfl sc__law_part.nd (di_range1 t.z_range (da_cons (de_add de_int (de_call (O__law_take t) (hr.mono (by decide)) t.g__law_take t.F__law_take.kp t.b__law_take (L2N.passes_call (L2N.takes_of rfl rfl rfl rfl) (fun _ _ _ _ h => h)) (dr_own (pv 0) (dr_cons de_int dr_nil)))) da_nil)) (blkOk_by (own := [("turn", 4)]) (N := N__law_part) (sc := defScope s__law_part) (by decide +kernel)) (fun _ _ _ _ _ => (dg_name (pg_name (i := 4) sc__law_part.nd rfl (by first | exact Or.inl rfl | exact Or.inr rfl)))) (fun _ _ _ _ _ => dts_nil) (fun _ _ _ _ _ => (de_add de_int (de_call (O__law_take t) (hr.mono (by decide)) t.g__law_take t.F__law_take.kp t.b__law_take passN (dr_own (pv 0) (dr_cons de_int dr_nil))))) (by decide)) da_nil)))
  (dss_cons (ds_set (i := 3) sc__law_part.nd rfl (by first | exact Or.inl rfl | exact Or.inr rfl) (de_ix (de_lst (da_cons (de_tup (da_cons de_str da_nil)) (da_cons (de_tup (da_cons de_str da_nil)) (da_cons (de_tup (da_cons de_str (da_cons de_str da_nil))) (da_cons (de_tup da_nil) (da_cons (de_tup da_nil) (da_cons (de_tup da_nil) da_nil))))))) (de_call (O__law_take t) (hr.mono (by decide)) t.g__law_take t.F__law_take.kp t.b__law_take (L2N.passes_call (L2N.takes_of rfl rfl rfl rfl) (fun _ _ _ _ h => h)) (dr_own (pv 0) (dr_cons de_int dr_nil)))))
  (dss_one (ds_ret (de_tup (da_cons de_str (da_cons (de_of (pv 2)) (da_cons (de_of (pv 3)) da_nil)))))))))))
theorem O__law_document (t : Tx K mg) : FnOk P w K mg base (L2N.CX P w) 4 t.a__law_document t.D__law_document p__law_document (spD K t.T t.cl f__law_document) :=
  fn_data t.F__law_document sc__law_document fun cdv A outer s H E hr =>
  (dss_cons (ds_set (i := 2) sc__law_document.nd rfl (by first | exact Or.inl rfl | exact Or.inr rfl) (de_tuple t.z_tuple (da_cons (de_lc (own := [("turn", 3)]) rfl sc__law_document.nd (di_range1 t.z_range (da_cons (de_add de_int (de_call (O__law_take t) (hr.mono (by decide)) t.g__law_take t.F__law_take.kp t.b__law_take (L2N.passes_call (L2N.takes_of rfl rfl rfl rfl) (fun _ _ _ _ h => h)) (dr_own (pv 0) (dr_cons (de_of (pv 1)) dr_nil)))) da_nil)) (blkOk_by (own := [("turn", 3)]) (N := N__law_document) (sc := defScope s__law_document) (by decide +kernel)) (fun _ _ _ _ _ => (dg_name (pg_name (i := 3) sc__law_document.nd rfl (by first | exact Or.inl rfl | exact Or.inr rfl)))) (fun _ _ _ _ _ => dts_nil) (fun _ _ _ _ _ => (de_call (O__law_part t) (hr.mono (by decide)) t.g__law_part t.F__law_part.kp t.b__law_part passN (dr_own (pv 0) dr_nil))) (by decide)) da_nil)))
  (dss_cons (ds_if (db_eq (hu_room hr) (de_lc (own := [("part", 4)]) rfl sc__law_document.nd (di_seq (de_of (pv 2))) (blkOk_by (own := [("part", 4)]) (N := N__law_document) (sc := defScope s__law_document) (by decide +kernel)) (fun _ _ _ _ _ => (dg_name (pg_name (i := 4) sc__law_document.nd rfl (by first | exact Or.inl rfl | exact Or.inr rfl)))) (fun _ _ _ _ _ => (dts_one (db_ne (hu_room hr) (de_ix (de_of (pv 4)) de_int) de_str))) (fun _ _ _ _ _ => (de_of (pv 4))) (by decide)) (de_lst da_nil)) (dss_one (ds_ret (de_tup (da_cons (de_tup (da_cons de_str (da_cons de_int (da_cons (de_tup da_nil) da_nil)))) da_nil)))) dss_nil)
  (dss_one (ds_ret (de_of (pv 2))))))
theorem O__law_texts (t : Tx K mg) : FnOk P w K mg base (L2N.CX P w) 2 t.a__law_texts t.D__law_texts p__law_texts (spD K t.T t.cl f__law_texts) :=
  fn_data t.F__law_texts sc__law_texts fun cdv A outer s H E hr =>
  (dss_one (ds_ret (de_lc (own := [("part", 1)]) rfl sc__law_texts.nd (di_seq (de_of (pv 0))) (blkOk_by (own := [("part", 1)]) (N := N__law_texts) (sc := defScope s__law_texts) (by decide +kernel)) (fun _ _ _ _ _ => (dg_name (pg_name (i := 1) sc__law_texts.nd rfl (by first | exact Or.inl rfl | exact Or.inr rfl)))) (fun _ _ _ _ _ => (dts_one (db_eq (hu_room hr) (de_ix (de_of (pv 1)) de_int) de_str))) (fun _ _ _ _ _ => (de_ix (de_of (pv 1)) de_int)) (by decide))))
theorem O__law_low (t : Tx K mg) : FnOk P w K mg base (L2N.CX P w) 3 t.a__law_low t.D__law_low p__law_low (spD K t.T t.cl f__law_low) :=
  fn_data t.F__law_low sc__law_low fun cdv A outer s H E hr =>
  (dss_cons (ds_set (i := 1) sc__law_low.nd rfl (by first | exact Or.inl rfl | exact Or.inr rfl) de_int)
  (dss_cons (ds_for (passes_of rfl) rfl (di_seq (de_call (O__law_texts t) (hr.mono (by decide)) t.g__law_texts t.F__law_texts.kp t.b__law_texts (L2N.passes_call (L2N.takes_of rfl rfl rfl rfl) (fun _ _ _ _ h => h)) (dr_cons (de_of (pv 0)) dr_nil))) (dg_name (pg_name (i := 2) sc__law_low.nd rfl (by first | exact Or.inl rfl | exact Or.inr rfl))) (dss_one (ds_set (i := 1) sc__law_low.nd rfl (by first | exact Or.inl rfl | exact Or.inr rfl) (de_max rfl t.z_max (da_cons (de_add (de_lst (da_cons (de_of (pv 1)) da_nil)) (de_lc (own := [("word", 3)]) rfl sc__law_low.nd (di_seq (de_of (pv 2))) (blkOk_by (own := [("word", 3)]) (N := N__law_low) (sc := defScope s__law_low) (by decide +kernel)) (fun _ _ _ _ _ => (dg_name (pg_name (i := 3) sc__law_low.nd rfl (by first | exact Or.inl rfl | exact Or.inr rfl)))) (fun _ _ _ _ _ => dts_nil) (fun _ _ _ _ _ => (de_intC t.z_int (da_cons (de_of (pv 3)) da_nil))) (by decide))) da_nil)))))
  (dss_one (ds_ret (de_of (pv 1))))))
theorem O__law_high (t : Tx K mg) : FnOk P w K mg base (L2N.CX P w) 4 t.a__law_high t.D__law_high p__law_high (spD K t.T t.cl f__law_high) :=
  fn_data t.F__law_high sc__law_high fun cdv A outer s H E hr =>
  (dss_cons (ds_set (i := 1) sc__law_high.nd rfl (by first | exact Or.inl rfl | exact Or.inr rfl) (de_call (O__law_low t) (hr.mono (by decide)) t.g__law_low t.F__law_low.kp t.b__law_low (L2N.passes_call (L2N.takes_of rfl rfl rfl rfl) (fun _ _ _ _ h => h)) (dr_cons (de_of (pv 0)) dr_nil)))
  (dss_cons (ds_for (passes_of rfl) rfl (di_seq (de_call (O__law_texts t) (hr.mono (by decide)) t.g__law_texts t.F__law_texts.kp t.b__law_texts (L2N.passes_call (L2N.takes_of rfl rfl rfl rfl) (fun _ _ _ _ h => h)) (dr_cons (de_of (pv 0)) dr_nil))) (dg_name (pg_name (i := 2) sc__law_high.nd rfl (by first | exact Or.inl rfl | exact Or.inr rfl))) (dss_one (ds_set (i := 1) sc__law_high.nd rfl (by first | exact Or.inl rfl | exact Or.inr rfl) (de_max rfl t.z_max (da_cons (de_of (pv 1)) (da_cons (de_len t.z_len (da_cons (de_join de_str (de_lc (own := [("word", 3)]) rfl sc__law_high.nd (di_seq (de_of (pv 2))) (blkOk_by (own := [("word", 3)]) (N := N__law_high) (sc := defScope s__law_high) (by decide +kernel)) (fun _ _ _ _ _ => (dg_name (pg_name (i := 3) sc__law_high.nd rfl (by first | exact Or.inl rfl | exact Or.inr rfl)))) (fun _ _ _ _ _ => dts_nil) (fun _ _ _ _ _ => (de_mul de_str (de_of (pv 3)))) (by decide))) da_nil)) da_nil))))))
  (dss_one (ds_ret (de_of (pv 1))))))
theorem H_ne (t : Tx K mg) (x : Xc) (p : Addr × Obj) (hz : L2N.Zn (.ref (t.cl x)) none p.2) (hf : ∃ vs, p.2.data = .fields vs) : HZ.FnP P w K mg base (L2N.CX P w) 2 t.a__law_named_error t.D__law_named_error p__law_named_error p (spD K t.T t.cl (DL.f_ne (kb K t.cl (t.cl x)) p.1)) :=
  fnP_data t.F__law_named_error sc__law_named_error fun cdv A outer s H E hot hr =>
  have EK := t.EK
  have hcx : L2H.HotC (L2H.cxH (L2N.CX P w) P w K mg base N__law_named_error "_law_named_error" (defScope s__law_named_error) t.a__law_named_error cdv A outer s H E p) := ⟨p, hot, List.mem_cons_self⟩
  (dss_cons (ds_set (i := 1) sc__law_named_error.nd rfl (by first | exact Or.inl rfl | exact Or.inr rfl) (de_lst (da_cons (de_isO (y := .doc) EK (by decide) rfl List.mem_cons_self hz hf t.z_isinstance (pv 0)) (da_cons (de_isO (y := .rules) EK (by decide) rfl List.mem_cons_self hz hf t.z_isinstance (pv 0)) (da_cons (de_isO (y := .size) EK (by decide) rfl List.mem_cons_self hz hf t.z_isinstance (pv 0)) da_nil)))))
  (dss_cons (ds_set (i := 1) sc__law_named_error.nd rfl (by first | exact Or.inl rfl | exact Or.inr rfl) (de_add (de_of (pv 1)) (de_lst (da_cons (de_isO (y := .part) EK (by decide) rfl List.mem_cons_self hz hf t.z_isinstance (pv 0)) (da_cons (de_isO (y := .facts) EK (by decide) rfl List.mem_cons_self hz hf t.z_isinstance (pv 0)) (da_cons (de_isO (y := .text) EK (by decide) rfl List.mem_cons_self hz hf t.z_isinstance (pv 0)) da_nil))))))
  (dss_cons (ds_set (i := 1) sc__law_named_error.nd rfl (by first | exact Or.inl rfl | exact Or.inr rfl) (de_add (de_of (pv 1)) (de_lst (da_cons (de_isO (y := .none) EK (by decide) rfl List.mem_cons_self hz hf t.z_isinstance (pv 0)) (da_cons (de_isO (y := .undo) EK (by decide) rfl List.mem_cons_self hz hf t.z_isinstance (pv 0)) (da_cons (de_isV EK List.mem_cons_self hz hf t.z_isinstance t.z_ValueError (pv 0)) da_nil))))))
  (dss_cons (ds_set (i := 2) sc__law_named_error.nd rfl (by first | exact Or.inl rfl | exact Or.inr rfl) de_str)
  (dss_one (ds_ret (de_join de_str (de_lcH (own := [("word", 3), ("good", 4)]) hcx sc__law_named_error.nd (di_zipH t.z_zip (da_cons (de_split (de_of (pv 2)) de_str) (da_cons (de_of (pv 1)) da_nil))) (blkOk_by (own := [("word", 3), ("good", 4)]) (N := N__law_named_error) (sc := defScope s__law_named_error) (by decide +kernel)) (fun _ _ _ _ _ => (dg_tupH (HZ.blkH_hot hcx) (n := 2) (dgs_cons (dg_name (pg_name (i := 3) sc__law_named_error.nd rfl (by first | exact Or.inl rfl | exact Or.inr rfl))) (dgs_cons (dg_name (pg_name (i := 4) sc__law_named_error.nd rfl (by first | exact Or.inl rfl | exact Or.inr rfl))) dgs_nil)))) (fun _ _ _ _ _ => (dts_one (db_val (de_of (pv 4))))) (fun _ _ _ _ _ => (de_of (pv 3))) (by decide)))))))))
theorem wf_ne : True := trivial
example : DL.b_ne = fun kk a => (seqS (asgS (lstE (consA (isPx a 0 (kk .doc)) (consA (isPx a 0 (kk .rules)) (consA (isPx a 0 (kk .size)) nilA)))) (nameG 1))
  (seqS (asgS (binE addD (varE 1) (lstE (consA (isPx a 0 (kk .part)) (consA (isPx a 0 (kk .facts)) (consA (isPx a 0 (kk .text)) nilA))))) (nameG 1))
  (seqS (asgS (binE addD (varE 1) (lstE (consA (isPx a 0 (kk .none)) (consA (isPx a 0 (kk .undo)) (consA (isPx a 0 true) nilA))))) (nameG 1))
  (seqS (asgS (retE (.str (PySem.Str.ofString "document rules size part facts text none undo value"))) (nameG 2))
  (retS (mt1E joinD (retE (.str (PySem.Str.ofString " "))) (lcE (iterZH (consA (mt1E splitD (varE 2) (retE (.str (PySem.Str.ofString " ")))) (consA (varE 1) nilA))) (tupG 2 (consG (nameG 3) (consG (nameG 4) nilG))) (tstB (varE 4)) (varE 3) [3, 4]))))))) := rfl
def LE (t : Tx K mg) : LErr P w K mg base t.T t.cl 2 s__law_error := ⟨t.EK, fun D a => DL.f_ne (kb K t.cl D) a, t.a__law_named_error, t.D__law_named_error, p__law_named_error, fun p x hz hf => H_ne t x p hz hf, fun x a => DL.ne_word t.EK x a, t.g__law_named_error, t.F__law_named_error.kp, t.b__law_named_error, t.a__law_error, t.D__law_error, t.F__law_error, t.g__law_error, t.b__law_error⟩
theorem O__law_truly (t : Tx K mg) : FnOk P w K mg base (L2N.CX P w) 2 t.a__law_truly t.D__law_truly p__law_truly (spD K t.T t.cl f__law_truly) :=
  fn_data t.F__law_truly sc__law_truly fun cdv A outer s H E hr =>
  (dss_one (ds_ret (de_and (de_isi t.z_isinstance t.z_bool (by decide +kernel) (de_of (pv 0))) (de_one (de_eq (hu_room hr) (de_of (pv 0)) (de_of (pv 1)))))))
theorem O__law_number (t : Tx K mg) : FnOk P w K mg base (L2N.CX P w) 2 t.a__law_number t.D__law_number p__law_number (spD K t.T t.cl f__law_number) :=
  fn_data t.F__law_number sc__law_number fun cdv A outer s H E hr =>
  (dss_one (ds_ret (de_and (de_isi t.z_isinstance t.z_int (by decide +kernel) (de_of (pv 0))) (de_and (de_not (de_isi t.z_isinstance t.z_bool (by decide +kernel) (de_of (pv 0)))) (de_one (de_leLe (de_of (pv 1)) (de_of (pv 0)) (de_of (pv 2))))))))
theorem O__law_good_part (t : Tx K mg) : FnOk P w K mg base (L2N.CX P w) 3 t.a__law_good_part t.D__law_good_part p__law_good_part (spD K t.T t.cl f__law_good_part) :=
  fn_data t.F__law_good_part sc__law_good_part fun cdv A outer s H E hr =>
  (dss_cons (ds_if (db_w (dw_or (db_not (db_val (de_isi t.z_isinstance t.z_tuple (by decide +kernel) (de_of (pv 0))))) (dw_or (db_notIn (hu_room hr) (de_len t.z_len (da_cons (de_of (pv 0)) da_nil)) (de_lst (da_cons de_int (da_cons de_int da_nil)))) (dw_or1 (db_not (db_val (de_isi t.z_isinstance t.z_str (by decide +kernel) (de_ix (de_of (pv 0)) de_int)))))))) (dss_one (ds_ret de_bl)) dss_nil)
  (dss_cons (ds_if (db_eq (hu_room hr) (de_len t.z_len (da_cons (de_of (pv 0)) da_nil)) de_int) (dss_one (ds_ret (de_eq (hu_room hr) (de_ix (de_of (pv 0)) de_int) de_str))) dss_nil)
  (dss_cons (ds_if (db_eq (hu_room hr) (de_ix (de_of (pv 0)) de_int) de_str) (dss_one (ds_ret (de_and (de_call (O__law_number t) (hr.mono (by decide)) t.g__law_number t.F__law_number.kp t.b__law_number (L2N.passes_call (L2N.takes_of rfl rfl rfl rfl) (fun _ _ _ _ h => h)) (dr_cons (de_ix (de_of (pv 0)) de_int) (dr_cons de_int (dr_cons de_int dr_nil)))) (de_and (de_isi t.z_isinstance t.z_tuple (by decide +kernel) (de_ix (de_of (pv 0)) de_int)) (de_one (de_in (hu_room hr) (de_ix (de_of (pv 0)) de_int) (de_lst (da_cons (de_tup da_nil) (da_cons (de_tup (da_cons de_str da_nil)) da_nil))))))))) dss_nil)
  (dss_cons (ds_if (db_w (dw_or (db_ne (hu_room hr) (de_ix (de_of (pv 0)) de_int) de_str) (dw_or (db_not (db_val (de_isi t.z_isinstance t.z_tuple (by decide +kernel) (de_ix (de_of (pv 0)) de_int)))) (dw_or1 (db_notInR t.z_range (de_len t.z_len (da_cons (de_ix (de_of (pv 0)) de_int) da_nil)) de_int de_int))))) (dss_one (ds_ret de_bl)) dss_nil)
  (dss_cons (ds_if (db_w (dw_or (db_ne (hu_room hr) (de_lc (own := [("word", 1)]) rfl sc__law_good_part.nd (di_seq (de_ix (de_of (pv 0)) de_int)) (blkOk_by (own := [("word", 1)]) (N := N__law_good_part) (sc := defScope s__law_good_part) (by decide +kernel)) (fun _ _ _ _ _ => (dg_name (pg_name (i := 1) sc__law_good_part.nd rfl (by first | exact Or.inl rfl | exact Or.inr rfl)))) (fun _ _ _ _ _ => (dts_one (db_not (db_val (de_call (O__law_number t) (hr.mono (by decide)) t.g__law_number t.F__law_number.kp t.b__law_number passN (dr_cons (de_of (pv 1)) (dr_cons de_int (dr_cons de_int dr_nil)))))))) (fun _ _ _ _ _ => (de_of (pv 1))) (by decide)) (de_lst da_nil)) (dw_or1 (db_not (db_val (de_isi t.z_isinstance t.z_tuple (by decide +kernel) (de_ix (de_of (pv 0)) de_int))))))) (dss_one (ds_ret de_bl)) dss_nil)
  (dss_one (ds_ret (de_in (hu_room hr) (de_ix (de_of (pv 0)) de_int) (de_lst (da_cons (de_tup da_nil) (da_cons (de_tup (da_cons de_str da_nil)) (da_cons (de_tup (da_cons de_str da_nil)) (da_cons (de_tup (da_cons de_str (da_cons de_str da_nil))) da_nil)))))))))))))
theorem O__law_good (t : Tx K mg) : FnOk P w K mg base (L2N.CX P w) 4 t.a__law_good t.D__law_good p__law_good (spD K t.T t.cl f__law_good) :=
  fn_data t.F__law_good sc__law_good fun cdv A outer s H E hr =>
  (dss_cons (ds_if (db_w (dw_or (db_not (db_val (de_isi t.z_isinstance t.z_tuple (by decide +kernel) (de_of (pv 0))))) (dw_or1 (db_notInR t.z_range (de_len t.z_len (da_cons (de_of (pv 0)) da_nil)) de_int de_int)))) (dss_one (ds_ret de_bl)) dss_nil)
  (dss_cons (ds_if (db_ne (hu_room hr) (de_lc (own := [("part", 1)]) rfl sc__law_good.nd (di_seq (de_of (pv 0))) (blkOk_by (own := [("part", 1)]) (N := N__law_good) (sc := defScope s__law_good) (by decide +kernel)) (fun _ _ _ _ _ => (dg_name (pg_name (i := 1) sc__law_good.nd rfl (by first | exact Or.inl rfl | exact Or.inr rfl)))) (fun _ _ _ _ _ => (dts_one (db_not (db_val (de_call (O__law_good_part t) (hr.mono (by decide)) t.g__law_good_part t.F__law_good_part.kp t.b__law_good_part passN (dr_cons (de_of (pv 1)) dr_nil)))))) (fun _ _ _ _ _ => (de_of (pv 1))) (by decide)) (de_lst da_nil)) (dss_one (ds_ret de_bl)) dss_nil)
  (dss_one (ds_ret (de_ne (hu_room hr) (de_lc (own := [("part", 1)]) rfl sc__law_good.nd (di_seq (de_of (pv 0))) (blkOk_by (own := [("part", 1)]) (N := N__law_good) (sc := defScope s__law_good) (by decide +kernel)) (fun _ _ _ _ _ => (dg_name (pg_name (i := 1) sc__law_good.nd rfl (by first | exact Or.inl rfl | exact Or.inr rfl)))) (fun _ _ _ _ _ => (dts_one (db_ne (hu_room hr) (de_of (pv 1)) (de_tup (da_cons de_str da_nil))))) (fun _ _ _ _ _ => (de_of (pv 1))) (by decide)) (de_lst da_nil))))))
theorem O__law_spoilt (t : Tx K mg) : ∀ n : Nat, FnOk P w K mg base (L2N.CX P w) (2 + n) t.a__law_spoilt t.D__law_spoilt p__law_spoilt (spD K t.T t.cl (f__law_spoilt n))
  | 0 => fn_no
  | n + 1 => fn_data t.F__law_spoilt sc__law_spoilt fun cdv A outer s H E hr =>
  (dss_cons (ds_if (db_val (de_isi t.z_isinstance t.z_list (by decide +kernel) (de_of (pv 1)))) (dss_one (ds_ret (de_tuple t.z_tuple (da_cons (de_of (pv 1)) da_nil)))) dss_nil)
  (dss_cons (ds_if (db_w (dw_and (db_val (de_isi t.z_isinstance t.z_tuple (by decide +kernel) (de_of (pv 1)))) (dw_and (db_ne (hu_room hr) (de_of (pv 1)) (de_tup da_nil)) (dw_and1 (db_gt (de_call (O__law_take t) (hr.mono (Nat.le_trans (m := 2) (by decide) (Nat.le_add_right _ n))) t.g__law_take t.F__law_take.kp t.b__law_take (L2N.passes_call (L2N.takes_of rfl rfl rfl rfl) (fun _ _ _ _ h => h)) (dr_own (pv 0) (dr_cons de_int dr_nil))) de_int))))) (dss_cons (ds_set (i := 2) sc__law_spoilt.nd rfl (by first | exact Or.inl rfl | exact Or.inr rfl) (de_call (O__law_take t) (hr.mono (Nat.le_trans (m := 2) (by decide) (Nat.le_add_right _ n))) t.g__law_take t.F__law_take.kp t.b__law_take (L2N.passes_call (L2N.takes_of rfl rfl rfl rfl) (fun _ _ _ _ h => h)) (dr_own (pv 0) (dr_cons (de_len t.z_len (da_cons (de_of (pv 1)) da_nil)) dr_nil))))
  (dss_one (ds_ret (de_add (de_add (de_slice (de_of (pv 1)) do_none (do_some (de_of (pv 2)))) (de_tup (da_cons (de_call (O__law_spoilt t n) hr t.g__law_spoilt t.F__law_spoilt.kp t.b__law_spoilt (L2N.passes_call (L2N.takes_of rfl rfl rfl rfl) (fun _ _ _ _ h => h)) (dr_own (pv 0) (dr_cons (de_ix (de_of (pv 1)) (de_of (pv 2))) dr_nil))) da_nil))) (de_slice (de_of (pv 1)) (do_some (de_addB (de_of (pv 2)) de_int)) do_none))))) dss_nil)
  (dss_cons (ds_set (i := 3) sc__law_spoilt.nd rfl (by first | exact Or.inl rfl | exact Or.inr rfl) (de_call (O__law_take t) (hr.mono (Nat.le_trans (m := 2) (by decide) (Nat.le_add_right _ n))) t.g__law_take t.F__law_take.kp t.b__law_take (L2N.passes_call (L2N.takes_of rfl rfl rfl rfl) (fun _ _ _ _ h => h)) (dr_own (pv 0) (dr_cons de_int dr_nil))))
  (dss_cons (ds_if (db_val (de_isi t.z_isinstance t.z_tuple (by decide +kernel) (de_of (pv 1)))) (dss_cons (ds_set (i := 4) sc__law_spoilt.nd rfl (by first | exact Or.inl rfl | exact Or.inr rfl) (de_ix (de_lst (da_cons (de_tup (da_cons de_str da_nil)) (da_cons de_str (da_cons de_str (da_cons de_int da_nil))))) (de_call (O__law_take t) (hr.mono (Nat.le_trans (m := 2) (by decide) (Nat.le_add_right _ n))) t.g__law_take t.F__law_take.kp t.b__law_take (L2N.passes_call (L2N.takes_of rfl rfl rfl rfl) (fun _ _ _ _ h => h)) (dr_own (pv 0) (dr_cons de_int dr_nil)))))
  (dss_one (ds_ret (de_ix (de_lst (da_cons (de_list t.z_list (da_cons (de_of (pv 1)) da_nil)) (da_cons (de_slice (de_of (pv 1)) (do_some de_int) do_none) (da_cons (de_add (de_of (pv 1)) (de_slice (de_of (pv 1)) (do_some (de_neg de_int)) do_none)) (da_cons (de_revT (de_of (pv 1))) (da_cons (de_tup da_nil) (da_cons (de_add (de_of (pv 1)) (de_tup (da_cons (de_of (pv 4)) da_nil))) (da_cons de_non da_nil)))))))) (de_of (pv 3)))))) dss_nil)
  (dss_cons (ds_if (db_val (de_isi t.z_isinstance t.z_int (by decide +kernel) (de_of (pv 1)))) (dss_one (ds_ret (de_ix (de_lst (da_cons (de_addB (de_of (pv 1)) de_int) (da_cons (de_subB (de_of (pv 1)) de_int) (da_cons (de_addB (de_of (pv 1)) de_int) (da_cons de_bl (da_cons de_non (da_cons de_int (da_cons de_str da_nil)))))))) (de_of (pv 3))))) dss_nil)
  (dss_one (ds_ret (de_ix (de_lst (da_cons de_str (da_cons de_str (da_cons de_str (da_cons de_str (da_cons de_str (da_cons de_non (da_cons de_str da_nil)))))))) (de_of (pv 3))))))))))
theorem O_law (t : Tx K mg) (hTB : TBs t base) : FnOk P w K mg base (L2N.CX P w) 16 t.a_law t.D_law p_law (spD K t.T t.cl f_law) :=
  fn_dataL t.F_law sc_law t.q_law fun A outer s H E hr =>
  (dss_cons (ds_for (passes_of rfl) rfl (di_range1 t.z_range (da_cons de_int da_nil)) (dg_name (pg_name (i := 1) sc_law.nd rfl (by first | exact Or.inl rfl | exact Or.inr rfl))) (dss_cons (ds_setF (i := 2) sc_law.nd rfl (by first | exact Or.inl rfl | exact Or.inr rfl) (show 1 ≤ 2 by decide) (df_call (O__law_bag t) (hr.mono (by decide)) t.g__law_bag t.F__law_bag.kp t.b__law_bag (L2N.passes_call (L2N.takes_of rfl rfl rfl rfl) (fun _ _ _ _ h => h)) (dr_cons (de_of (pv 0)) (dr_cons (de_of (pv 1)) dr_nil))))
  (dss_cons (ds_set (i := 3) sc_law.nd rfl (by first | exact Or.inl rfl | exact Or.inr rfl) (de_call (O__law_document t) (hr.mono (by decide)) t.g__law_document t.F__law_document.kp t.b__law_document (L2N.passes_call (L2N.takes_of rfl rfl rfl rfl) (fun _ _ _ _ h => h)) (dr_own (pv 2) (dr_cons de_int dr_nil))))
  (dss_cons (ds_if (db_isNot (de_call (O_is_document t) (hr.mono (by decide)) t.g_is_document t.F_is_document.kp t.b_is_document (L2N.passes_call (L2N.takes_of rfl rfl rfl rfl) (fun _ _ _ _ h => h)) (dr_cons (de_of (pv 3)) dr_nil)) de_bl) (dss_one (ds_ret de_bl)) dss_nil)
  (dss_cons (ds_if (db_ne (hu_room hr) (de_lst (da_cons (de_call (O_narrowest t) (hr.mono (by decide)) t.g_narrowest t.F_narrowest.kp t.b_narrowest (L2N.passes_call (L2N.takes_of rfl rfl rfl rfl) (fun _ _ _ _ h => h)) (dr_cons (de_of (pv 3)) dr_nil)) (da_cons (de_call (O_widest t) (hr.mono (by decide)) t.g_widest t.F_widest.kp t.b_widest (L2N.passes_call (L2N.takes_of rfl rfl rfl rfl) (fun _ _ _ _ h => h)) (dr_cons (de_of (pv 3)) dr_nil)) da_nil))) (de_lst (da_cons (de_call (O__law_low t) (hr.mono (by decide)) t.g__law_low t.F__law_low.kp t.b__law_low (L2N.passes_call (L2N.takes_of rfl rfl rfl rfl) (fun _ _ _ _ h => h)) (dr_cons (de_of (pv 3)) dr_nil)) (da_cons (de_call (O__law_high t) (hr.mono (by decide)) t.g__law_high t.F__law_high.kp t.b__law_high (L2N.passes_call (L2N.takes_of rfl rfl rfl rfl) (fun _ _ _ _ h => h)) (dr_cons (de_of (pv 3)) dr_nil)) da_nil)))) (dss_one (ds_ret de_bl)) dss_nil)
  (dss_cons (ds_set (i := 4) sc_law.nd rfl (by first | exact Or.inl rfl | exact Or.inr rfl) (de_of (pv 3)))
  (dss_one (ds_for (passes_of rfl) rfl (di_range1 t.z_range (da_cons de_int da_nil)) (dg_name (pg_name (i := 5) sc_law.nd rfl (by first | exact Or.inl rfl | exact Or.inr rfl))) (dss_cons (ds_set (i := 4) sc_law.nd rfl (by first | exact Or.inl rfl | exact Or.inr rfl) (de_call (O__law_spoilt t 12) (hr.mono (by decide)) t.g__law_spoilt t.F__law_spoilt.kp t.b__law_spoilt (L2N.passes_call (L2N.takes_of rfl rfl rfl rfl) (fun _ _ _ _ h => h)) (dr_own (pv 2) (dr_cons (de_if (db_eq (hu_room hr) (de_mod (de_of (pv 5)) de_int) de_int) (de_of (pv 3)) (de_of (pv 4))) dr_nil))))
  (dss_cons (ds_if (db_not (db_val (de_call (O__law_truly t) (hr.mono (by decide)) t.g__law_truly t.F__law_truly.kp t.b__law_truly (L2N.passes_call (L2N.takes_of rfl rfl rfl rfl) (fun _ _ _ _ h => h)) (dr_cons (de_call (O_is_document t) (hr.mono (by decide)) t.g_is_document t.F_is_document.kp t.b_is_document (L2N.passes_call (L2N.takes_of rfl rfl rfl rfl) (fun _ _ _ _ h => h)) (dr_cons (de_of (pv 4)) dr_nil)) (dr_cons (de_call (O__law_good t) (hr.mono (by decide)) t.g__law_good t.F__law_good.kp t.b__law_good (L2N.passes_call (L2N.takes_of rfl rfl rfl rfl) (fun _ _ _ _ h => h)) (dr_cons (de_of (pv 4)) dr_nil)) dr_nil))))) (dss_one (ds_ret de_bl)) dss_nil)
  (dss_cons (ds_set (i := 6) sc_law.nd rfl (by first | exact Or.inl rfl | exact Or.inr rfl) (de_if (db_val (de_call (O__law_good t) (hr.mono (by decide)) t.g__law_good t.F__law_good.kp t.b__law_good (L2N.passes_call (L2N.takes_of rfl rfl rfl rfl) (fun _ _ _ _ h => h)) (dr_cons (de_of (pv 4)) dr_nil))) de_str de_str))
  (dss_cons (ds_if (db_ne (hu_room hr) (de_lawerrF (k := 6) (cc := t.cc_law) (Pt := t.P_law) (LE t) rfl sc__law_error (.inl rfl) rfl rfl rfl (fun _ _ _ => rfl) (by decide) rfl (L2N.passes_call (L2N.takes_of rfl rfl rfl rfl) (fun _ _ _ _ h => h)) hTB.law rfl t.m_law t.u_law (hr.mono (by decide)) (LamX.lamS_by (sc := defScope s_law) (by decide +kernel)) rfl (fun _ _ _ _ _ => rfl) (fun A outer s H E f c' hr => (de_call (O_narrowest t) (hr.mono (by decide)) t.g_narrowest t.F_narrowest.kp t.b_narrowest (L2N.passes_call (L2N.takes_of rfl rfl rfl rfl) (fun _ _ _ _ h => h)) (dr_cons (de_of (pv 4)) dr_nil)))) (de_of (pv 6))) (dss_one (ds_ret de_bl)) dss_nil)
  (dss_one (ds_if (db_ne (hu_room hr) (de_lawerrF (k := 6) (cc := t.cc_law) (Pt := t.P_law) (LE t) rfl sc__law_error (.inl rfl) rfl rfl rfl (fun _ _ _ => rfl) (by decide) rfl (L2N.passes_call (L2N.takes_of rfl rfl rfl rfl) (fun _ _ _ _ h => h)) hTB.law rfl t.m_law t.u_law (hr.mono (by decide)) (LamX.lamS_by (sc := defScope s_law) (by decide +kernel)) rfl (fun _ _ _ _ _ => rfl) (fun A outer s H E f c' hr => (de_call (O_widest t) (hr.mono (by decide)) t.g_widest t.F_widest.kp t.b_widest (L2N.passes_call (L2N.takes_of rfl rfl rfl rfl) (fun _ _ _ _ h => h)) (dr_cons (de_of (pv 4)) dr_nil)))) (de_of (pv 6))) (dss_one (ds_ret de_bl)) dss_nil))))))))))))))
  (dss_cons (ds_for (passes_of rfl) rfl (di_seq (de_lst (da_cons (de_tup (da_cons de_int (da_cons de_int da_nil))) (da_cons (de_tup (da_cons de_int (da_cons de_int da_nil))) (da_cons (de_tup (da_cons de_int (da_cons de_int da_nil))) (da_cons (de_tup (da_cons de_int (da_cons de_int da_nil))) (da_cons (de_tup (da_cons de_int da_nil)) (da_cons (de_tup (da_cons de_int (da_cons de_int (da_cons de_int da_nil)))) (da_cons (de_lst (da_cons de_int (da_cons de_int da_nil))) (da_cons (de_tup (da_cons de_bl (da_cons de_int da_nil))) (da_cons (de_tup (da_cons de_int (da_cons de_non da_nil))) (da_cons de_non (da_cons de_str da_nil))))))))))))) (dg_name (pg_name (i := 4) sc_law.nd rfl (by first | exact Or.inl rfl | exact Or.inr rfl))) (dss_one (ds_if (db_not (db_val (de_call (O__law_truly t) (hr.mono (by decide)) t.g__law_truly t.F__law_truly.kp t.b__law_truly (L2N.passes_call (L2N.takes_of rfl rfl rfl rfl) (fun _ _ _ _ h => h)) (dr_cons (de_call (O_is_rules t) (hr.mono (by decide)) t.g_is_rules t.F_is_rules.kp t.b_is_rules (L2N.passes_call (L2N.takes_of rfl rfl rfl rfl) (fun _ _ _ _ h => h)) (dr_cons (de_of (pv 4)) dr_nil)) (dr_cons (de_and (de_in (hu_room hr) (de_of (pv 4)) (de_lst (da_cons (de_tup (da_cons de_int (da_cons de_int da_nil))) (da_cons (de_tup (da_cons de_int (da_cons de_int da_nil))) da_nil)))) (de_one (de_isNot (de_ix (de_of (pv 4)) de_int) de_bl))) dr_nil))))) (dss_one (ds_ret de_bl)) dss_nil)))
  (dss_cons (ds_set (i := 7) sc_law.nd rfl (by first | exact Or.inl rfl | exact Or.inr rfl) (de_tup (da_cons de_str (da_cons (de_mul (de_tup (da_cons de_int da_nil)) de_int) (da_cons (de_tup (da_cons de_str (da_cons de_str da_nil))) da_nil)))))
  (dss_cons (ds_set (i := 8) sc_law.nd rfl (by first | exact Or.inl rfl | exact Or.inr rfl) (de_lst (da_cons (de_call (O_is_document t) (hr.mono (by decide)) t.g_is_document t.F_is_document.kp t.b_is_document (L2N.passes_call (L2N.takes_of rfl rfl rfl rfl) (fun _ _ _ _ h => h)) (dr_cons (de_mul (de_tup (da_cons (de_of (pv 7)) da_nil)) de_int) dr_nil)) (da_cons (de_call (O_is_document t) (hr.mono (by decide)) t.g_is_document t.F_is_document.kp t.b_is_document (L2N.passes_call (L2N.takes_of rfl rfl rfl rfl) (fun _ _ _ _ h => h)) (dr_cons (de_mul (de_tup (da_cons (de_of (pv 7)) da_nil)) de_int) dr_nil)) (da_cons (de_call (O_is_document t) (hr.mono (by decide)) t.g_is_document t.F_is_document.kp t.b_is_document (L2N.passes_call (L2N.takes_of rfl rfl rfl rfl) (fun _ _ _ _ h => h)) (dr_cons (de_tup (da_cons (de_tup (da_cons de_str (da_cons (de_mul (de_tup (da_cons de_int da_nil)) de_int) (da_cons (de_tup da_nil) da_nil)))) da_nil)) dr_nil)) da_nil)))))
  (dss_cons (ds_set (i := 8) sc_law.nd rfl (by first | exact Or.inl rfl | exact Or.inr rfl) (de_add (de_of (pv 8)) (de_lst (da_cons (de_call (O_is_document t) (hr.mono (by decide)) t.g_is_document t.F_is_document.kp t.b_is_document (L2N.passes_call (L2N.takes_of rfl rfl rfl rfl) (fun _ _ _ _ h => h)) (dr_cons (de_mul (de_tup (da_cons (de_tup (da_cons de_str da_nil)) da_nil)) de_int) dr_nil)) (da_cons (de_call (O_is_document t) (hr.mono (by decide)) t.g_is_document t.F_is_document.kp t.b_is_document (L2N.passes_call (L2N.takes_of rfl rfl rfl rfl) (fun _ _ _ _ h => h)) (dr_cons (de_tup da_nil) dr_nil)) (da_cons (de_call (O_is_document t) (hr.mono (by decide)) t.g_is_document t.F_is_document.kp t.b_is_document (L2N.passes_call (L2N.takes_of rfl rfl rfl rfl) (fun _ _ _ _ h => h)) (dr_cons (de_tup (da_cons (de_tup (da_cons de_str da_nil)) (da_cons (de_tup (da_cons de_str (da_cons de_int (da_cons (de_tup (da_cons de_str da_nil)) da_nil)))) da_nil))) dr_nil)) da_nil))))))
  (dss_one (ds_ret (de_and (de_eq (hu_room hr) (de_of (pv 8)) (de_lst (da_cons de_bl (da_cons de_bl (da_cons de_bl (da_cons de_bl (da_cons de_bl (da_cons de_bl da_nil)))))))) (de_one (de_eq (hu_room hr) (de_lst (da_cons (de_call (O_narrowest t) (hr.mono (by decide)) t.g_narrowest t.F_narrowest.kp t.b_narrowest (L2N.passes_call (L2N.takes_of rfl rfl rfl rfl) (fun _ _ _ _ h => h)) (dr_cons (de_tup (da_cons (de_of (pv 7)) da_nil)) dr_nil)) (da_cons (de_call (O_widest t) (hr.mono (by decide)) t.g_widest t.F_widest.kp t.b_widest (L2N.passes_call (L2N.takes_of rfl rfl rfl rfl) (fun _ _ _ _ h => h)) (dr_cons (de_tup (da_cons (de_of (pv 7)) da_nil)) dr_nil)) da_nil))) (de_lst (da_cons de_int (da_cons de_int da_nil)))))))))))))
end
end K01

set_option maxHeartbeats 4000000
namespace K01
open PySem PySem.Spec PyProof.Rows L2 DL
open PK
theorem fun_of_D {K : PySem.W.Frag} {x qual : Str} {st : Stmt} {f : Addr} {fd : FuncData} (F : FunD K x qual (defArgs st) (defBody st) (defScope st) [] [] f fd) : Fun K x qual st f fd := by
  obtain ⟨oc, od, dV, kV, doc, pm, an, cdv, ct, osl, e, lk, hcd, hD, hK⟩ := F.ex
  rcases hD with ⟨_, rfl⟩ | ⟨q, _⟩
  · exact ⟨⟨oc, od, kV, doc, pm, an, cdv, ct, osl, e, lk, hcd⟩, F.kp⟩
  · exact absurd rfl q
def dd_is_whole : He.DefD := ⟨("is_whole", none), "is_whole", "is_whole", defArgs s_is_whole, defBody s_is_whole, defScope s_is_whole, [], []⟩
def dd_are_marks : He.DefD := ⟨("are_marks", none), "are_marks", "are_marks", defArgs s_are_marks, defBody s_are_marks, defScope s_are_marks, [], []⟩
def dd_is_part : He.DefD := ⟨("is_part", none), "is_part", "is_part", defArgs s_is_part, defBody s_is_part, defScope s_is_part, [], []⟩
def dd_is_document : He.DefD := ⟨("is_document", none), "is_document", "is_document", defArgs s_is_document, defBody s_is_document, defScope s_is_document, [], []⟩
def dd_is_rules : He.DefD := ⟨("is_rules", none), "is_rules", "is_rules", defArgs s_is_rules, defBody s_is_rules, defScope s_is_rules, [], []⟩
def dd_need_document : He.DefD := ⟨("need_document", none), "need_document", "need_document", defArgs s_need_document, defBody s_need_document, defScope s_need_document, [], []⟩
def dd_words_in : He.DefD := ⟨("words_in", none), "words_in", "words_in", defArgs s_words_in, defBody s_words_in, defScope s_words_in, [], []⟩
def dd_least_width : He.DefD := ⟨("least_width", none), "least_width", "least_width", defArgs s_least_width, defBody s_least_width, defScope s_least_width, [], []⟩
def dd_widest_width : He.DefD := ⟨("widest_width", none), "widest_width", "widest_width", defArgs s_widest_width, defBody s_widest_width, defScope s_widest_width, [], []⟩
def dd_narrowest : He.DefD := ⟨("narrowest", none), "narrowest", "narrowest", defArgs s_narrowest, defBody s_narrowest, defScope s_narrowest, [], []⟩
def dd_widest : He.DefD := ⟨("widest", none), "widest", "widest", defArgs s_widest, defBody s_widest, defScope s_widest, [], []⟩
def dd__law_cell : He.DefD := ⟨("_law_cell", none), "_law_cell", "_law_cell", defArgs s__law_cell, defBody s__law_cell, defScope s__law_cell, [], []⟩
def dd__law_draws : He.DefD := ⟨("_law_draws", none), "_law_draws", "_law_draws", defArgs s__law_draws, defBody s__law_draws, defScope s__law_draws, [], []⟩
def dd__law_bag : He.DefD := ⟨("_law_bag", none), "_law_bag", "_law_bag", defArgs s__law_bag, defBody s__law_bag, defScope s__law_bag, [], []⟩
def dd__law_take : He.DefD := ⟨("_law_take", none), "_law_take", "_law_take", defArgs s__law_take, defBody s__law_take, defScope s__law_take, [], []⟩
def dd__law_part : He.DefD := ⟨("_law_part", none), "_law_part", "_law_part", defArgs s__law_part, defBody s__law_part, defScope s__law_part, [], []⟩
def dd__law_document : He.DefD := ⟨("_law_document", none), "_law_document", "_law_document", defArgs s__law_document, defBody s__law_document, defScope s__law_document, [], []⟩
def dd__law_texts : He.DefD := ⟨("_law_texts", none), "_law_texts", "_law_texts", defArgs s__law_texts, defBody s__law_texts, defScope s__law_texts, [], []⟩
def dd__law_low : He.DefD := ⟨("_law_low", none), "_law_low", "_law_low", defArgs s__law_low, defBody s__law_low, defScope s__law_low, [], []⟩
def dd__law_high : He.DefD := ⟨("_law_high", none), "_law_high", "_law_high", defArgs s__law_high, defBody s__law_high, defScope s__law_high, [], []⟩
def dd__law_named_error : He.DefD := ⟨("_law_named_error", none), "_law_named_error", "_law_named_error", defArgs s__law_named_error, defBody s__law_named_error, defScope s__law_named_error, [], []⟩
def dd__law_truly : He.DefD := ⟨("_law_truly", none), "_law_truly", "_law_truly", defArgs s__law_truly, defBody s__law_truly, defScope s__law_truly, [], []⟩
def dd__law_number : He.DefD := ⟨("_law_number", none), "_law_number", "_law_number", defArgs s__law_number, defBody s__law_number, defScope s__law_number, [], []⟩
def dd__law_good_part : He.DefD := ⟨("_law_good_part", none), "_law_good_part", "_law_good_part", defArgs s__law_good_part, defBody s__law_good_part, defScope s__law_good_part, [], []⟩
def dd__law_good : He.DefD := ⟨("_law_good", none), "_law_good", "_law_good", defArgs s__law_good, defBody s__law_good, defScope s__law_good, [], []⟩
def dd__law_spoilt : He.DefD := ⟨("_law_spoilt", none), "_law_spoilt", "_law_spoilt", defArgs s__law_spoilt, defBody s__law_spoilt, defScope s__law_spoilt, [], []⟩
def dd_law : He.DefD := ⟨("law", none), "law", "law", defArgs s_law, defBody s_law, defScope s_law, [], []⟩
def dd__law_error : He.DefD := ⟨("_law_error", none), "_law_error", "_law_error", defArgs s__law_error, defBody s__law_error, defScope s__law_error, [], []⟩
def fn0 : List He.DefD := [dd_is_whole, dd_are_marks, dd_is_part, dd_is_document, dd_is_rules, dd_need_document, dd_words_in, dd_least_width, dd_widest_width, dd_narrowest, dd_widest, dd__law_cell, dd__law_draws, dd__law_bag, dd__law_take, dd__law_part, dd__law_document, dd__law_texts, dd__law_low, dd__law_high, dd__law_named_error, dd__law_truly, dd__law_number, dd__law_good_part, dd__law_good, dd__law_spoilt, dd_law, dd__law_error]
def fn : List He.DefD := fn0
def fa0 : List He.Fa := [.glo "is_whole", .glo "are_marks", .glo "is_part", .glo "is_document", .glo "is_rules", .glo "need_document", .glo "words_in", .glo "least_width", .glo "widest_width", .glo "narrowest", .glo "widest", .glo "_law_cell", .glo "_law_draws", .glo "_law_bag", .glo "_law_take", .glo "_law_part", .glo "_law_document", .glo "_law_texts", .glo "_law_low", .glo "_law_high", .glo "_law_named_error", .glo "_law_truly", .glo "_law_number", .glo "_law_good_part", .glo "_law_good", .glo "_law_spoilt", .glo "law", .glo "_law_error", .glo "InvalidDocument", .glo "InvalidRules"]
def fa1 : List He.Fa := [.glo "InvalidSize", .glo "InvalidPart", .glo "InvalidFacts", .glo "InvalidText", .glo "NoSize", .glo "NothingToUndo", .glo "PageError", .exc "InvalidDocument", .free "ValueError", .free "all", .free "bool", .free "int", .free "isinstance", .free "len", .free "list", .free "max", .free "range", .free "str", .free "sum", .free "tuple", .free "zip", .int "MOST_PARTS" 8, .glo "MARKS"]
def fa : List He.Fa := fa0 ++ (fa1)
def loose0 : List Str := ["PageError", "InvalidDocument", "InvalidRules", "InvalidSize", "InvalidPart", "InvalidFacts", "InvalidText", "NoSize", "NothingToUndo", "MOST_PARTS", "MARKS", "is_whole", "are_marks", "is_part", "is_document", "is_rules", "need_document", "words_in", "least_width", "widest_width", "narrowest", "widest", "_law_cell", "_law_draws", "_law_bag", "_law_take", "_law_part", "_law_document", "_law_texts", "_law_low"]
def loose1 : List Str := ["_law_high", "_law_named_error", "_law_error", "_law_truly", "_law_number", "_law_good_part", "_law_good", "_law_spoilt"]
def loose : List Str := loose0 ++ (loose1)
def clK (K : PySem.W.Frag) : Xc → Addr := fun x => match x with
  | .doc => He.ga K "InvalidDocument"
  | .rules => He.ga K "InvalidRules"
  | .size => He.ga K "InvalidSize"
  | .part => He.ga K "InvalidPart"
  | .facts => He.ga K "InvalidFacts"
  | .text => He.ga K "InvalidText"
  | .none => He.ga K "NoSize"
  | .undo => He.ga K "NothingToUndo"
  | .typ => He.ga K "PageError"
def tf : List He.Defn := [("law", none)]
def ex (K : PySem.W.Frag) : Bool := He.tupB K "MARKS" [.str "next", .str "whole"] && (errB K (clK K) && (decide ([(He.cT K ("law", none)).2].Nodup)))
theorem code_of_D {K : PySem.W.Frag} {x qual : Str} {ps : Arguments} {bd : List Stmt} {sc : Scope} {dvs : List V} {kws : List (Str × V)} {p : He.Defn} {fd : FuncData} (F : FunD K x qual ps bd sc dvs kws (He.fAd K p) fd) : fd.code = .ref (He.codeOf K p) := by
  obtain ⟨oc, od, dV, kV, doc, pm, an, cdv, ct, osl, e, lk, hcd, hD, hK⟩ := F.ex
  obtain ⟨c, ec⟩ := He.codeIn_ref hcd
  have e2 : fd.code = .ref c := by rw [e]; exact ec
  rw [He.codeOf_eq lk e2]
  exact e2
abbrev R : PySem.W.OpenRow := PySem.W.OpenLaw.row PySem.Challenge.rw_anypages_k01_documents_and_rules_known
abbrev hk : PySem.W.Hook := He.hookX 5 fa fn [] tf ex
def ob (s : PySem.W.SharedT) : He.AlX := He.obsX 5 fa fn [] tf ex (HandSHeadRun.getT s)
theorem ob_eq (s : PySem.W.SharedT) : ob s = hk.obs s.abs := He.obsX_eq (HandSHeadRun.getT_eq s)
set_option maxHeartbeats 0 in
theorem run (w : World) : HandSHeadRun.RunEq R (PySem.W.view R.prog [41]) hk ob 6000 loose w := by
  intro os
  kernel_rfl
theorem ands_3 {a0 a1 a2 : Bool} (h : (a0 && (a1 && (a2))) = true) : a0 = true ∧ a1 = true ∧ a2 = true := by
  simpa only [Bool.and_eq_true] using h
set_option maxHeartbeats 0 in
theorem tx_of {w : World} {K : PySem.W.Frag} {h : Heap} {mg : Str → Option Value} (X : K.In h) (G : h.Ns mainGlobals mg) (c : He.SaysX fa fn [] tf ex w h K) :
    ∃ t : Tx K mg, (t.a_law = He.ga K "law" ∧ (∀ (s : Shared) (v : Value), BindsTo s t.D_law ⟨[v], []⟩ [("script", v)]) ∧ t.T.map (·.1) = (tf.map (He.cT K)).map (·.2) ∧ (∀ base : Heap, (∀ p ∈ tf.map (He.cT K), LamX.TabB base mg p.1 p.2) → TBs t base)) := by
  obtain ⟨D_is_whole, FD_is_whole⟩ := c.t.d.def_ 0 (d := dd_is_whole) rfl
  obtain ⟨D_are_marks, FD_are_marks⟩ := c.t.d.def_ 1 (d := dd_are_marks) rfl
  obtain ⟨D_is_part, FD_is_part⟩ := c.t.d.def_ 2 (d := dd_is_part) rfl
  obtain ⟨D_is_document, FD_is_document⟩ := c.t.d.def_ 3 (d := dd_is_document) rfl
  obtain ⟨D_is_rules, FD_is_rules⟩ := c.t.d.def_ 4 (d := dd_is_rules) rfl
  obtain ⟨D_need_document, FD_need_document⟩ := c.t.d.def_ 5 (d := dd_need_document) rfl
  obtain ⟨D_words_in, FD_words_in⟩ := c.t.d.def_ 6 (d := dd_words_in) rfl
  obtain ⟨D_least_width, FD_least_width⟩ := c.t.d.def_ 7 (d := dd_least_width) rfl
  obtain ⟨D_widest_width, FD_widest_width⟩ := c.t.d.def_ 8 (d := dd_widest_width) rfl
  obtain ⟨D_narrowest, FD_narrowest⟩ := c.t.d.def_ 9 (d := dd_narrowest) rfl
  obtain ⟨D_widest, FD_widest⟩ := c.t.d.def_ 10 (d := dd_widest) rfl
  obtain ⟨D__law_cell, FD__law_cell⟩ := c.t.d.def_ 11 (d := dd__law_cell) rfl
  obtain ⟨D__law_draws, FD__law_draws⟩ := c.t.d.def_ 12 (d := dd__law_draws) rfl
  obtain ⟨D__law_bag, FD__law_bag⟩ := c.t.d.def_ 13 (d := dd__law_bag) rfl
  obtain ⟨D__law_take, FD__law_take⟩ := c.t.d.def_ 14 (d := dd__law_take) rfl
  obtain ⟨D__law_part, FD__law_part⟩ := c.t.d.def_ 15 (d := dd__law_part) rfl
  obtain ⟨D__law_document, FD__law_document⟩ := c.t.d.def_ 16 (d := dd__law_document) rfl
  obtain ⟨D__law_texts, FD__law_texts⟩ := c.t.d.def_ 17 (d := dd__law_texts) rfl
  obtain ⟨D__law_low, FD__law_low⟩ := c.t.d.def_ 18 (d := dd__law_low) rfl
  obtain ⟨D__law_high, FD__law_high⟩ := c.t.d.def_ 19 (d := dd__law_high) rfl
  obtain ⟨D__law_named_error, FD__law_named_error⟩ := c.t.d.def_ 20 (d := dd__law_named_error) rfl
  obtain ⟨D__law_truly, FD__law_truly⟩ := c.t.d.def_ 21 (d := dd__law_truly) rfl
  obtain ⟨D__law_number, FD__law_number⟩ := c.t.d.def_ 22 (d := dd__law_number) rfl
  obtain ⟨D__law_good_part, FD__law_good_part⟩ := c.t.d.def_ 23 (d := dd__law_good_part) rfl
  obtain ⟨D__law_good, FD__law_good⟩ := c.t.d.def_ 24 (d := dd__law_good) rfl
  obtain ⟨D__law_spoilt, FD__law_spoilt⟩ := c.t.d.def_ 25 (d := dd__law_spoilt) rfl
  obtain ⟨D_law, FD_law⟩ := c.t.d.def_ 26 (d := dd_law) rfl
  obtain ⟨D__law_error, FD__law_error⟩ := c.t.d.def_ 27 (d := dd__law_error) rfl
  obtain ⟨k_MOST_PARTS, ck_MOST_PARTS⟩ := He.int_ok X G (c.t.d.fact 51 (f := .int "MOST_PARTS" 8) rfl)
  have cm : ex K = true := c.more
  have cm2 : (He.tupB K "MARKS" [.str "next", .str "whole"] && (errB K (clK K) && (decide ([(He.cT K ("law", none)).2].Nodup)))) = true := cm
  obtain ⟨ct_MARKS, c_err, c_nd⟩ := ands_3 cm2
  refine ⟨{
    T := [((He.cT K ("law", none)).2, ((envOfC "law" (defScope s_law) 0 0 .none).qual ++ "<lambda>"))]
    cl := clK K
    EK := errB_ok c_err (fun x => by cases x <;> first | exact He.glo_ok X G (c.t.d.fact 28 (f := .glo "InvalidDocument") rfl) | exact He.glo_ok X G (c.t.d.fact 29 (f := .glo "InvalidRules") rfl) | exact He.glo_ok X G (c.t.d.fact 30 (f := .glo "InvalidSize") rfl) | exact He.glo_ok X G (c.t.d.fact 31 (f := .glo "InvalidPart") rfl) | exact He.glo_ok X G (c.t.d.fact 32 (f := .glo "InvalidFacts") rfl) | exact He.glo_ok X G (c.t.d.fact 33 (f := .glo "InvalidText") rfl) | exact He.glo_ok X G (c.t.d.fact 34 (f := .glo "NoSize") rfl) | exact He.glo_ok X G (c.t.d.fact 35 (f := .glo "NothingToUndo") rfl) | exact He.glo_ok X G (c.t.d.fact 36 (f := .glo "PageError") rfl))
    e_InvalidDocument := ⟨He.glo_ok X G (c.t.d.fact 28 (f := .glo "InvalidDocument") rfl), (He.exc_ok (c.t.d.fact 37 (f := .exc "InvalidDocument") rfl)).1, (He.exc_ok (c.t.d.fact 37 (f := .exc "InvalidDocument") rfl)).2.1, (He.exc_ok (c.t.d.fact 37 (f := .exc "InvalidDocument") rfl)).2.2.1, (He.exc_ok (c.t.d.fact 37 (f := .exc "InvalidDocument") rfl)).2.2.2⟩
    z_ValueError := He.free_ok X G (c.t.d.fact 38 (f := .free "ValueError") rfl)
    z_all := He.free_ok X G (c.t.d.fact 39 (f := .free "all") rfl)
    z_bool := He.free_ok X G (c.t.d.fact 40 (f := .free "bool") rfl)
    z_int := He.free_ok X G (c.t.d.fact 41 (f := .free "int") rfl)
    z_isinstance := He.free_ok X G (c.t.d.fact 42 (f := .free "isinstance") rfl)
    z_len := He.free_ok X G (c.t.d.fact 43 (f := .free "len") rfl)
    z_list := He.free_ok X G (c.t.d.fact 44 (f := .free "list") rfl)
    z_max := He.free_ok X G (c.t.d.fact 45 (f := .free "max") rfl)
    z_range := He.free_ok X G (c.t.d.fact 46 (f := .free "range") rfl)
    z_str := He.free_ok X G (c.t.d.fact 47 (f := .free "str") rfl)
    z_sum := He.free_ok X G (c.t.d.fact 48 (f := .free "sum") rfl)
    z_tuple := He.free_ok X G (c.t.d.fact 49 (f := .free "tuple") rfl)
    z_zip := He.free_ok X G (c.t.d.fact 50 (f := .free "zip") rfl)
    v_MOST_PARTS := .int 8
    u_MOST_PARTS := .int 8 k_MOST_PARTS
    c_MOST_PARTS := ⟨ck_MOST_PARTS, ⟨_, rfl⟩⟩
    d_MOST_PARTS := fun _ => .int _
    v_MARKS := .ref (He.ga K "MARKS")
    u_MARKS := .ref (He.ga K "MARKS")
    c_MARKS := ⟨He.glo_ok X G (c.t.d.fact 52 (f := .glo "MARKS") rfl), rfl⟩
    d_MARKS := fun G => .tup (He.tupB_ok ct_MARKS G) (.cons (.str _) (.cons (.str _) .nil))
    a_is_whole := He.ga K "is_whole"
    D_is_whole := D_is_whole
    F_is_whole := fun_of_D (st := s_is_whole) FD_is_whole
    b_is_whole := FunD.bindsN (ps := p_is_whole) FD_is_whole fun _ _ _ _ _ _ us hl => match us, hl with | [_, _, _], _ => rfl
    g_is_whole := He.glo_ok X G (c.t.d.fact 0 (f := .glo "is_whole") rfl)
    a_are_marks := He.ga K "are_marks"
    D_are_marks := D_are_marks
    F_are_marks := fun_of_D (st := s_are_marks) FD_are_marks
    b_are_marks := FunD.bindsN (ps := p_are_marks) FD_are_marks fun _ _ _ _ _ _ us hl => match us, hl with | [_, _], _ => rfl
    g_are_marks := He.glo_ok X G (c.t.d.fact 1 (f := .glo "are_marks") rfl)
    a_is_part := He.ga K "is_part"
    D_is_part := D_is_part
    F_is_part := fun_of_D (st := s_is_part) FD_is_part
    b_is_part := FunD.bindsN (ps := p_is_part) FD_is_part fun _ _ _ _ _ _ us hl => match us, hl with | [_], _ => rfl
    g_is_part := He.glo_ok X G (c.t.d.fact 2 (f := .glo "is_part") rfl)
    a_is_document := He.ga K "is_document"
    D_is_document := D_is_document
    F_is_document := fun_of_D (st := s_is_document) FD_is_document
    b_is_document := FunD.bindsN (ps := p_is_document) FD_is_document fun _ _ _ _ _ _ us hl => match us, hl with | [_], _ => rfl
    g_is_document := He.glo_ok X G (c.t.d.fact 3 (f := .glo "is_document") rfl)
    a_is_rules := He.ga K "is_rules"
    D_is_rules := D_is_rules
    F_is_rules := fun_of_D (st := s_is_rules) FD_is_rules
    b_is_rules := FunD.bindsN (ps := p_is_rules) FD_is_rules fun _ _ _ _ _ _ us hl => match us, hl with | [_], _ => rfl
    g_is_rules := He.glo_ok X G (c.t.d.fact 4 (f := .glo "is_rules") rfl)
    a_need_document := He.ga K "need_document"
    D_need_document := D_need_document
    F_need_document := fun_of_D (st := s_need_document) FD_need_document
    b_need_document := FunD.bindsN (ps := p_need_document) FD_need_document fun _ _ _ _ _ _ us hl => match us, hl with | [_], _ => rfl
    g_need_document := He.glo_ok X G (c.t.d.fact 5 (f := .glo "need_document") rfl)
    a_words_in := He.ga K "words_in"
    D_words_in := D_words_in
    F_words_in := fun_of_D (st := s_words_in) FD_words_in
    b_words_in := FunD.bindsN (ps := p_words_in) FD_words_in fun _ _ _ _ _ _ us hl => match us, hl with | [_], _ => rfl
    g_words_in := He.glo_ok X G (c.t.d.fact 6 (f := .glo "words_in") rfl)
    a_least_width := He.ga K "least_width"
    D_least_width := D_least_width
    F_least_width := fun_of_D (st := s_least_width) FD_least_width
    b_least_width := FunD.bindsN (ps := p_least_width) FD_least_width fun _ _ _ _ _ _ us hl => match us, hl with | [_], _ => rfl
    g_least_width := He.glo_ok X G (c.t.d.fact 7 (f := .glo "least_width") rfl)
    a_widest_width := He.ga K "widest_width"
    D_widest_width := D_widest_width
    F_widest_width := fun_of_D (st := s_widest_width) FD_widest_width
    b_widest_width := FunD.bindsN (ps := p_widest_width) FD_widest_width fun _ _ _ _ _ _ us hl => match us, hl with | [_], _ => rfl
    g_widest_width := He.glo_ok X G (c.t.d.fact 8 (f := .glo "widest_width") rfl)
    a_narrowest := He.ga K "narrowest"
    D_narrowest := D_narrowest
    F_narrowest := fun_of_D (st := s_narrowest) FD_narrowest
    b_narrowest := FunD.bindsN (ps := p_narrowest) FD_narrowest fun _ _ _ _ _ _ us hl => match us, hl with | [_], _ => rfl
    g_narrowest := He.glo_ok X G (c.t.d.fact 9 (f := .glo "narrowest") rfl)
    a_widest := He.ga K "widest"
    D_widest := D_widest
    F_widest := fun_of_D (st := s_widest) FD_widest
    b_widest := FunD.bindsN (ps := p_widest) FD_widest fun _ _ _ _ _ _ us hl => match us, hl with | [_], _ => rfl
    g_widest := He.glo_ok X G (c.t.d.fact 10 (f := .glo "widest") rfl)
    a__law_cell := He.ga K "_law_cell"
    D__law_cell := D__law_cell
    F__law_cell := fun_of_D (st := s__law_cell) FD__law_cell
    b__law_cell := FunD.bindsN (ps := p__law_cell) FD__law_cell fun _ _ _ _ _ _ us hl => match us, hl with | [_, _], _ => rfl
    g__law_cell := He.glo_ok X G (c.t.d.fact 11 (f := .glo "_law_cell") rfl)
    a__law_draws := He.ga K "_law_draws"
    D__law_draws := D__law_draws
    F__law_draws := fun_of_D (st := s__law_draws) FD__law_draws
    b__law_draws := FunD.bindsN (ps := p__law_draws) FD__law_draws fun _ _ _ _ _ _ us hl => match us, hl with | [_, _, _, _], _ => rfl
    g__law_draws := He.glo_ok X G (c.t.d.fact 12 (f := .glo "_law_draws") rfl)
    a__law_bag := He.ga K "_law_bag"
    D__law_bag := D__law_bag
    F__law_bag := fun_of_D (st := s__law_bag) FD__law_bag
    b__law_bag := FunD.bindsN (ps := p__law_bag) FD__law_bag fun _ _ _ _ _ _ us hl => match us, hl with | [_, _], _ => rfl
    g__law_bag := He.glo_ok X G (c.t.d.fact 13 (f := .glo "_law_bag") rfl)
    a__law_take := He.ga K "_law_take"
    D__law_take := D__law_take
    F__law_take := fun_of_D (st := s__law_take) FD__law_take
    b__law_take := FunD.bindsN (ps := p__law_take) FD__law_take fun _ _ _ _ _ _ us hl => match us, hl with | [_, _], _ => rfl
    g__law_take := He.glo_ok X G (c.t.d.fact 14 (f := .glo "_law_take") rfl)
    a__law_part := He.ga K "_law_part"
    D__law_part := D__law_part
    F__law_part := fun_of_D (st := s__law_part) FD__law_part
    b__law_part := FunD.bindsN (ps := p__law_part) FD__law_part fun _ _ _ _ _ _ us hl => match us, hl with | [_], _ => rfl
    g__law_part := He.glo_ok X G (c.t.d.fact 15 (f := .glo "_law_part") rfl)
    a__law_document := He.ga K "_law_document"
    D__law_document := D__law_document
    F__law_document := fun_of_D (st := s__law_document) FD__law_document
    b__law_document := FunD.bindsN (ps := p__law_document) FD__law_document fun _ _ _ _ _ _ us hl => match us, hl with | [_, _], _ => rfl
    g__law_document := He.glo_ok X G (c.t.d.fact 16 (f := .glo "_law_document") rfl)
    a__law_texts := He.ga K "_law_texts"
    D__law_texts := D__law_texts
    F__law_texts := fun_of_D (st := s__law_texts) FD__law_texts
    b__law_texts := FunD.bindsN (ps := p__law_texts) FD__law_texts fun _ _ _ _ _ _ us hl => match us, hl with | [_], _ => rfl
    g__law_texts := He.glo_ok X G (c.t.d.fact 17 (f := .glo "_law_texts") rfl)
    a__law_low := He.ga K "_law_low"
    D__law_low := D__law_low
    F__law_low := fun_of_D (st := s__law_low) FD__law_low
    b__law_low := FunD.bindsN (ps := p__law_low) FD__law_low fun _ _ _ _ _ _ us hl => match us, hl with | [_], _ => rfl
    g__law_low := He.glo_ok X G (c.t.d.fact 18 (f := .glo "_law_low") rfl)
    a__law_high := He.ga K "_law_high"
    D__law_high := D__law_high
    F__law_high := fun_of_D (st := s__law_high) FD__law_high
    b__law_high := FunD.bindsN (ps := p__law_high) FD__law_high fun _ _ _ _ _ _ us hl => match us, hl with | [_], _ => rfl
    g__law_high := He.glo_ok X G (c.t.d.fact 19 (f := .glo "_law_high") rfl)
    a__law_named_error := He.ga K "_law_named_error"
    D__law_named_error := D__law_named_error
    F__law_named_error := fun_of_D (st := s__law_named_error) FD__law_named_error
    b__law_named_error := FunD.bindsN (ps := p__law_named_error) FD__law_named_error fun _ _ _ _ _ _ us hl => match us, hl with | [_], _ => rfl
    g__law_named_error := He.glo_ok X G (c.t.d.fact 20 (f := .glo "_law_named_error") rfl)
    a__law_truly := He.ga K "_law_truly"
    D__law_truly := D__law_truly
    F__law_truly := fun_of_D (st := s__law_truly) FD__law_truly
    b__law_truly := FunD.bindsN (ps := p__law_truly) FD__law_truly fun _ _ _ _ _ _ us hl => match us, hl with | [_, _], _ => rfl
    g__law_truly := He.glo_ok X G (c.t.d.fact 21 (f := .glo "_law_truly") rfl)
    a__law_number := He.ga K "_law_number"
    D__law_number := D__law_number
    F__law_number := fun_of_D (st := s__law_number) FD__law_number
    b__law_number := FunD.bindsN (ps := p__law_number) FD__law_number fun _ _ _ _ _ _ us hl => match us, hl with | [_, _, _], _ => rfl
    g__law_number := He.glo_ok X G (c.t.d.fact 22 (f := .glo "_law_number") rfl)
    a__law_good_part := He.ga K "_law_good_part"
    D__law_good_part := D__law_good_part
    F__law_good_part := fun_of_D (st := s__law_good_part) FD__law_good_part
    b__law_good_part := FunD.bindsN (ps := p__law_good_part) FD__law_good_part fun _ _ _ _ _ _ us hl => match us, hl with | [_], _ => rfl
    g__law_good_part := He.glo_ok X G (c.t.d.fact 23 (f := .glo "_law_good_part") rfl)
    a__law_good := He.ga K "_law_good"
    D__law_good := D__law_good
    F__law_good := fun_of_D (st := s__law_good) FD__law_good
    b__law_good := FunD.bindsN (ps := p__law_good) FD__law_good fun _ _ _ _ _ _ us hl => match us, hl with | [_], _ => rfl
    g__law_good := He.glo_ok X G (c.t.d.fact 24 (f := .glo "_law_good") rfl)
    a__law_spoilt := He.ga K "_law_spoilt"
    D__law_spoilt := D__law_spoilt
    F__law_spoilt := fun_of_D (st := s__law_spoilt) FD__law_spoilt
    b__law_spoilt := FunD.bindsN (ps := p__law_spoilt) FD__law_spoilt fun _ _ _ _ _ _ us hl => match us, hl with | [_, _], _ => rfl
    g__law_spoilt := He.glo_ok X G (c.t.d.fact 25 (f := .glo "_law_spoilt") rfl)
    a_law := He.ga K "law"
    D_law := D_law
    F_law := fun_of_D (st := s_law) FD_law
    b_law := FunD.bindsN (ps := p_law) FD_law fun _ _ _ _ _ _ us hl => match us, hl with | [_], _ => rfl
    g_law := He.glo_ok X G (c.t.d.fact 26 (f := .glo "law") rfl)
    a__law_error := He.ga K "_law_error"
    D__law_error := D__law_error
    F__law_error := fun_of_D (st := s__law_error) FD__law_error
    b__law_error := FunD.bindsN (ps := p__law_error) FD__law_error fun _ _ _ _ _ _ us hl => match us, hl with | [_], _ => rfl
    g__law_error := He.glo_ok X G (c.t.d.fact 27 (f := .glo "_law_error") rfl)
    cc_law := (He.cT K ("law", none)).1
    P_law := (He.cT K ("law", none)).2
    q_law := code_of_D (p := ("law", none)) FD_law
    m_law := by simp
    u_law := tab_uniq (q := ((envOfC "law" (defScope s_law) 0 0 .none).qual ++ "<lambda>")) (show (List.map (·.1) [((He.cT K ("law", none)).2, ((envOfC "law" (defScope s_law) 0 0 .none).qual ++ "<lambda>"))]).Nodup from of_decide_eq_true c_nd) (by simp)
  }, rfl, fun s v => FunD.bindsA (ps := ["script"]) FD_law (fun _ _ _ _ _ _ us hl => match us, hl with | [_], _ => rfl) s [v] rfl, rfl, fun base h => ⟨h (He.cT K ("law", none)) (by simp [tf])⟩⟩
/-- the script as data -/
theorem rel_script {K : PySem.W.Frag} {H : Hp} {a : Addr} {ns : List Int} {T : List (Addr × Str)} (hT : LamX.Tabs T H) (hS : SqL K H a (ns.map V.int)) : ∃ G, Rel K T G [.da (.scr ns)] [some (.ref a)] H := by
  have key : ∀ G : Hp, Same G H → (∀ b ps, G b ≠ some (.tbl ps)) → SqL K G a (ns.map V.int) → Rel K T G [.da (.scr ns)] [some (.ref a)] H := fun G s n q => by
    refine ⟨⟨s, hT, n⟩, rfl, fun i sl o e1 e2 => ?_, fun i j m m' p e1 _ _ _ => ?_⟩
    · match i with
      | 0 =>
        cases Option.some.inj e1
        cases Option.some.inj e2
        exact ⟨_, rfl, .scr q⟩
      | i + 1 => simp at e1
    · match i with
      | 0 => cases Option.some.inj e1
      | i + 1 => simp at e1
  rcases hS with (h | ⟨o, h⟩) | h
  · refine ⟨upd (fun _ => none) a (.lst (ns.map V.int)), key _ (fun b u q => ?_) (fun b ps q => ?_) (.inl (.inl upd_same))⟩
    · by_cases z : b = a
      · subst z; rw [upd_same] at q; cases q; exact h
      · rw [upd_ne z] at q; cases q
    · by_cases z : b = a
      · subst z; rw [upd_same] at q; cases q
      · rw [upd_ne z] at q; cases q
  · refine ⟨upd (fun _ => none) a _, key _ (fun b u q => ?_) (fun b ps q => ?_) (.inl (.inr ⟨o, upd_same⟩))⟩
    · by_cases z : b = a
      · subst z; rw [upd_same] at q; cases q; exact h
      · rw [upd_ne z] at q; cases q
    · by_cases z : b = a
      · subst z; rw [upd_same] at q; cases q
      · rw [upd_ne z] at q; cases q
  · exact ⟨fun _ => none, key _ (fun _ _ q => nomatch q) (fun _ _ q => nomatch q) (.inr h)⟩
set_option maxHeartbeats 0 in
/-- the end: the law's function on data answers True -/
theorem holds_of (HL : ∀ ns : List Int, ns.length ≤ 63 → (∀ z ∈ ns, Builtin.Int.intBits z ≤ 1048576) → ∃ ρ : Rho, f_law [.da (.scr ns)] = .ok (.da (.bl true), ρ)) : PySem.Challenge.rw_anypages_k01_documents_and_rules_known.Holds := by
  w_on; o_law
  refine HandSHeadRun.head_any (r := PySem.W.OpenLaw.row PySem.Challenge.rw_anypages_k01_documents_and_rules_known) (q := PySem.W.view (PySem.W.OpenLaw.row PySem.Challenge.rw_anypages_k01_documents_and_rules_known).prog [41]) (H := hk) (ob := ob) (M := 6000) (loose := loose) (d := HandSHeadRun.topDef (PySem.W.OpenLaw.row PySem.Challenge.rw_anypages_k01_documents_and_rules_known).prog 41) (kwd := []) ob_eq
    (by kernel_rfl) (fun s => by kernel_rfl) run (by kernel_rfl) (by kernel_rfl) (by kernel_rfl) (by rfl) (by first | assumption | decide +kernel) (by decide +kernel) ⟨rfl, rfl, rfl, rfl, rfl, by decide +kernel⟩ ?hw ?hc
  case hw => w_witness2
  case hc =>
    refine LamX.walk_ofTsE (l := PySem.Challenge.rw_anypages_k01_documents_and_rules_known) (n := 63) (k := 16) (x := "script") (CX := fun w => L2N.CX (PySem.Challenge.rw_anypages_k01_documents_and_rules_known).prog w) rfl (by decide) (by kernel_rfl) ⟨rfl, by decide, by decide⟩ ?F (fun _ _ _ _ _ z => by obtain ⟨_, _, _, _, _, _, _, _, _, _, _, _, f⟩ := z; exact f)
    intro w mg fa0 h Y G hmg0
    obtain ⟨K, KX, c⟩ := Y
    refine ⟨K, KX, ?_⟩
    have hmg : mg ("law" : PySem.Str) = some (.ref fa0) := by
      have e : (HandSHeadRun.topDef (PySem.W.OpenLaw.row PySem.Challenge.rw_anypages_k01_documents_and_rules_known).prog 41).name = ("law" : PySem.Str) := by kernel_rfl
      rw [← e]
      exact hmg0
    obtain ⟨t, ha, hb, hT0, hTBf⟩ := tx_of KX G c
    have e := hmg.symm.trans t.g_law
    rw [ha] at e
    cases e
    have inv : ∀ p ∈ tf.map (He.cT K), ∃ q ∈ tf, p = He.cT K q := fun p hp => by
      obtain ⟨q, h1, h2⟩ := List.mem_map.mp hp
      exact ⟨q, h1, h2.symm⟩
    refine ⟨t.D_law, tf.map (He.cT K), spD K t.T t.cl f_law, fun p hp => ?_, fun p hp => ?_, fun p hp => ?_, hb, fun H a ns hl hbits hT hS => ?_, fun base _ _ hTB => by rw [← ha]; exact O_law t (hTBf base hTB)⟩
    · obtain ⟨q, h1, rfl⟩ := inv p hp
      exact c.empty q h1
    · obtain ⟨q, h1, rfl⟩ := inv p hp
      exact c.out q h1
    · obtain ⟨q, h1, rfl⟩ := inv p hp
      exact PySem.W.codeHd_of_K KX (c.hd q h1)
    obtain ⟨G0, R0⟩ := rel_script (T := t.T) (fun p hp => by
      have h1 : p.1 ∈ (tf.map (He.cT K)).map (·.2) := by rw [← hT0]; exact List.mem_map_of_mem hp
      obtain ⟨r, h2, h3⟩ := List.mem_map.mp h1
      refine ⟨#[], ?_, trivial, fun pos cv z => nomatch z⟩
      rw [← h3]
      exact hT r h2) hS
    obtain ⟨ρ, eρ⟩ := HL ns hl hbits
    refine ⟨G0, _, R0, ?_⟩
    rw [eρ]
    intro v G' H' _ _ hv
    exact dq_bl hv
end K01

set_option maxHeartbeats 4000000
/-! M1: reckoning with functions on data. -/
namespace MA
open PySem PySem.Spec PyProof.Rows L2 DL PK
section
variable {ρ : Rho} {i : Nat} {d : D} {fa fb fd : FE} {fas : Rho → Rs (List D × Rho)} {g : D → D → Option D} {u : D → Option D}
def boolK {α : Type} (d : D) (t f : Rs α) : Rs α := match d with
  | .bl true => t
  | .bl false => f
  | _ => .no
@[simp] theorem boolK_bl {α : Type} (b : Bool) (t f : Rs α) : boolK (.bl b) t f = if b = true then t else f := by cases b <;> rfl
def tbK {α : Type} (d : D) (k : Bool → Rs α) : Rs α := match d with
  | .bl b => k b
  | _ => .no
@[simp] theorem tbK_bl {α : Type} (b : Bool) (k : Bool → Rs α) : tbK (.bl b) k = k b := rfl
@[simp] theorem retE_eq : retE d ρ = .ok (d, ρ) := rfl
@[simp] theorem varE_eq : varE i ρ = (match ρ[i]? with | some (.da d) => .ok (d, ρ) | _ => .no) := rfl
@[simp] theorem binE_eq : binE g fa fb ρ = (fa ρ).bind fun r => (fb r.2).bind fun s => (Rs.ofO (g r.1 s.1)).bind fun z => .ok (z, s.2) := rfl
@[simp] theorem unE_eq : unE u fa ρ = (fa ρ).bind fun r => (Rs.ofO (u r.1)).bind fun z => .ok (z, r.2) := rfl
@[simp] theorem andE_eq : andE fa fb ρ = (fa ρ).bind fun r => boolK r.1 (fb r.2) (.ok (.bl false, r.2)) := rfl
@[simp] theorem orE_eq : orE fa fb ρ = (fa ρ).bind fun r => boolK r.1 (.ok (.bl true, r.2)) (fb r.2) := rfl
@[simp] theorem notE_eq : notE fa ρ = (fa ρ).bind fun r => tbK r.1 fun k => .ok (.bl (!k), r.2) := rfl
@[simp] theorem nilA_eq : nilA ρ = .ok ([], ρ) := rfl
@[simp] theorem consA_eq : consA fa fas ρ = (fa ρ).bind fun r => (fas r.2).bind fun s => .ok (r.1 :: s.1, s.2) := rfl
@[simp] theorem tupE_eq : tupE fas ρ = (fas ρ).bind fun r => if r.1.length ≤ sizeLine then .ok (.tup r.1, r.2) else .no := rfl
@[simp] theorem lstE_eq : lstE fas ρ = (fas ρ).bind fun r => if r.1.length ≤ sizeLine then .ok (.lst r.1, r.2) else .no := rfl
@[simp] theorem callE_eq {g : List D → Option D} : callE g fas ρ = (fas ρ).bind fun r => (Rs.ofO (g r.1)).bind fun z => .ok (z, r.2) := rfl
@[simp] theorem ifE_eq {t : FB} : ifE t fa fb ρ = (t ρ).bind fun r => if r.1 = true then fa r.2 else fb r.2 := rfl
@[simp] theorem tstB_eq : tstB fa ρ = (fa ρ).bind fun r => tbK r.1 fun k => .ok (k, r.2) := rfl
@[simp] theorem andB_eq {t u : FB} : andB t u ρ = (t ρ).bind fun r => if r.1 = true then u r.2 else .ok (false, r.2) := rfl
@[simp] theorem orB_eq {t u : FB} : orB t u ρ = (t ρ).bind fun r => if r.1 = true then .ok (true, r.2) else u r.2 := rfl
@[simp] theorem notB_eq {t : FB} : notB t ρ = (t ρ).bind fun r => .ok (!r.1, r.2) := rfl
@[simp] theorem chainE_eq {g g' : D → D → Option D} : chainE g g' fa fb fd ρ = (fa ρ).bind fun r => (fb r.2).bind fun s => (Rs.ofO (g r.1 s.1)).bind fun z => boolK z ((fd s.2).bind fun u => (Rs.ofO (g' s.1 u.1)).bind fun z => .ok (z, u.2)) (.ok (.bl false, s.2)) := rfl
@[simp] theorem isiE_eq {T : String} : isiE T fa ρ = (fa ρ).bind fun r => (Rs.ofO (isiD T r.1)).bind fun z => .ok (z, r.2) := rfl
@[simp] theorem noO_eq : noO ρ = .ok (none, ρ) := rfl
@[simp] theorem someO_eq : someO fa ρ = (fa ρ).bind fun r => match r.1 with
  | .int i => .ok (some i, r.2)
  | _ => .no := rfl
@[simp] theorem slE_eq {fl fh : FO} : slE fa fl fh ρ = (fa ρ).bind fun r => (fl r.2).bind fun s => (fh s.2).bind fun u => (Rs.ofO (slD r.1 s.1 u.1)).bind fun z => .ok (z, u.2) := rfl
-- statements
@[simp] theorem nxS_eq : nxS ρ = .ok (.nx ρ) := rfl
@[simp] theorem seqS_eq {f g : FS} : seqS f g ρ = (f ρ).bind fun o => match o with
  | .nx ρ' => g ρ'
  | .rt r ρ' => .ok (.rt r ρ') := rfl
@[simp] theorem retS_eq : retS fa ρ = (fa ρ).bind fun r => .ok (.rt (.da r.1) r.2) := rfl
@[simp] theorem dropS_eq : dropS fa ρ = (fa ρ).bind fun r => .ok (.nx r.2) := rfl
@[simp] theorem ifS_eq {t : FB} {f g : FS} : ifS t f g ρ = (t ρ).bind fun r => if r.1 = true then f r.2 else g r.2 := rfl
@[simp] theorem nameG_eq : nameG i d ρ = .ok (ρ.set i (.da d)) := rfl
@[simp] theorem asgS_eq {g : FG} : asgS fa g ρ = (fa ρ).bind fun r => (g r.1 r.2).bind fun ρ' => .ok (.nx ρ') := rfl
@[simp] theorem raiseS_eq {x : Xc} : raiseS x ρ = .er x := rfl
@[simp] theorem forS_eq {f : FI} {g : FG} {b : FS} : forS f g b ρ = (f ρ).bind fun r => forD g b r.1 r.2 := rfl
@[simp] theorem iterS_eq : iterS fa ρ = (fa ρ).bind fun r => match r.1 with
  | .lst ds => .ok (ds, r.2)
  | .tup ds => .ok (ds, r.2)
  | _ => .no := rfl
theorem iterR1_of {ρ' : Rho} {j : Int} (h : fas ρ = .ok ([.int j], ρ')) (hj : -1000000 ≤ j ∧ j ≤ 2000000000) : iterR1 fas ρ = .ok (rgD 0 j.toNat, ρ') := by
  unfold iterR1
  rw [h, Rs.ok_bind]
  exact if_pos ⟨by omega, by omega⟩
theorem iterR2_of {ρ' : Rho} {i j : Int} (h : fas ρ = .ok ([.int i, .int j], ρ')) (hi : -1000000 ≤ i ∧ i ≤ 2000000000) (hj : -1000000 ≤ j ∧ j ≤ 2000000000) : iterR2 fas ρ = .ok (rgD i (j - i).toNat, ρ') := by
  unfold iterR2
  rw [h, Rs.ok_bind]
  exact if_pos ⟨by omega, by omega, by omega, by omega⟩
@[simp] theorem iterZ_eq : iterZ fas ρ = (fas ρ).bind fun r => match r.1 with
  | [.lst xs, .lst ys] => .ok (pairD xs ys, r.2)
  | [.tup xs, .tup ys] => .ok (pairD xs ys, r.2)
  | _ => .no := rfl
@[simp] theorem iterE_eq : iterE fas ρ = (fas ρ).bind fun r => match r.1 with
  | [.lst xs] => .ok (enumFrom 0 xs, r.2)
  | _ => .no := rfl
@[simp] theorem parS_eq {j : Nat} : parS i j fas ρ = (fas ρ).bind fun r => match r.1 with
  | [d, e] => .ok (.nx ((r.2.set i (.da d)).set j (.da e)))
  | _ => .no := rfl
@[simp] theorem par3S_eq {j k : Nat} : par3S i j k fas ρ = (fas ρ).bind fun r => match r.1 with
  | [d, e, f] => .ok (.nx (((r.2.set i (.da d)).set j (.da e)).set k (.da f)))
  | _ => .no := rfl
@[simp] theorem tupG_eq {n : Nat} {gs : List D → Rho → Rs Rho} {ds : List D} : tupG n gs (.tup ds) ρ = if ds.length = n then gs ds ρ else .no := rfl
@[simp] theorem lstG_eq {n : Nat} {gs : List D → Rho → Rs Rho} {ds : List D} : lstG n gs (.lst ds) ρ = if ds.length = n then gs ds ρ else .no := rfl
@[simp] theorem consG_eq {g : FG} {gs : List D → Rho → Rs Rho} {ds : List D} : consG g gs (d :: ds) ρ = (g d ρ).bind (gs ds) := rfl
@[simp] theorem nilG_eq : nilG [] ρ = .ok ρ := rfl
-- calls
@[simp] theorem nilAr_eq : nilAr ρ = .ok ([], ρ) := rfl
@[simp] theorem consAr_eq {fas : FA} : consAr fa fas ρ = (fa ρ).bind fun r => (fas r.2).bind fun s => .ok (.inl r.1 :: s.1, s.2) := rfl
def callK (f : FD) (as : List DL.Arg) (ρ : Rho) : Rs (Rv × Rho) := if (as.filterMap ownOf).Nodup then (Rs.ofO (argSls ρ as)).bind fun ss => (f ss).bind fun u => if u.2.length = as.length then .ok (u.1, putB ρ as u.2) else .no else .no
@[simp] theorem callF_eq {f : FD} {fas : FA} : callF f fas ρ = (fas ρ).bind fun r => callK f r.1 r.2 := rfl
@[simp] theorem callD_eq {f : FD} {fas : FA} : callD f fas ρ = (callF f fas ρ).bind fun r => match r.1 with
  | .da d => .ok (d, r.2)
  | .fr _ => .no := rfl
/-- a def that takes data and gives data -/
def Is (f : FD) (xs : List D) (r : D) : Prop := f (xs.map Sl.da) = .ok (.da r, xs.map Sl.da)
def Er (f : FD) (xs : List D) (x : Xc) : Prop := f (xs.map Sl.da) = .er x
theorem argSls_inl (ρ : Rho) : ∀ xs : List D, argSls ρ (xs.map Sum.inl) = some (xs.map Sl.da)
  | [] => rfl
  | x :: xs => by
    show (match argSl ρ (Sum.inl x), argSls ρ (xs.map Sum.inl) with
      | some s, some r => some (s :: r)
      | _, _ => none) = _
    rw [argSls_inl ρ xs]
    rfl
theorem own_inl : ∀ xs : List D, (xs.map Sum.inl).filterMap ownOf = []
  | [] => rfl
  | x :: xs => by
    show (xs.map Sum.inl).filterMap ownOf = []
    exact own_inl xs
theorem putB_inl (ρ : Rho) : ∀ (xs : List D) (ss : Rho), putB ρ (xs.map Sum.inl) ss = ρ
  | [], ss => by cases ss <;> rfl
  | x :: xs, [] => rfl
  | x :: xs, s :: ss => putB_inl ρ xs ss
theorem callK_is {f : FD} {xs : List D} {r : D} (h : Is f xs r) : callK f (xs.map Sum.inl) ρ = .ok (.da r, ρ) := by
  unfold callK
  simp only [own_inl, List.nodup_nil, if_true, argSls_inl, Rs.ofO_some, Rs.ok_bind]
  rw [show f (xs.map Sl.da) = .ok (.da r, xs.map Sl.da) from h]
  simp [putB_inl]
theorem callK_er {f : FD} {xs : List D} {x : Xc} (h : Er f xs x) : callK f (xs.map Sum.inl) ρ = .er x := by
  unfold callK
  simp only [own_inl, List.nodup_nil, if_true, argSls_inl, Rs.ofO_some, Rs.ok_bind]
  rw [show f (xs.map Sl.da) = .er x from h]
  rfl
theorem ck1 {f : FD} {a r : D} (h : Is f [a] r) : callK f [.inl a] ρ = .ok (.da r, ρ) := callK_is h
theorem ck2 {f : FD} {a b r : D} (h : Is f [a, b] r) : callK f [.inl a, .inl b] ρ = .ok (.da r, ρ) := callK_is h
theorem ck3 {f : FD} {a b c r : D} (h : Is f [a, b, c] r) : callK f [.inl a, .inl b, .inl c] ρ = .ok (.da r, ρ) := callK_is h
theorem ck4 {f : FD} {a b c d r : D} (h : Is f [a, b, c, d] r) : callK f [.inl a, .inl b, .inl c, .inl d] ρ = .ok (.da r, ρ) := callK_is h
theorem ck5 {f : FD} {a b c d e r : D} (h : Is f [a, b, c, d, e] r) : callK f [.inl a, .inl b, .inl c, .inl d, .inl e] ρ = .ok (.da r, ρ) := callK_is h
theorem ce1 {f : FD} {a : D} {x : Xc} (h : Er f [a] x) : callK f [.inl a] ρ = .er x := callK_er h
theorem ce2 {f : FD} {a b : D} {x : Xc} (h : Er f [a, b] x) : callK f [.inl a, .inl b] ρ = .er x := callK_er h
theorem ce3 {f : FD} {a b c : D} {x : Xc} (h : Er f [a, b, c] x) : callK f [.inl a, .inl b, .inl c] ρ = .er x := callK_er h
theorem ce4 {f : FD} {a b c d : D} {x : Xc} (h : Er f [a, b, c, d] x) : callK f [.inl a, .inl b, .inl c, .inl d] ρ = .er x := callK_er h
theorem ce5 {f : FD} {a b c d e : D} {x : Xc} (h : Er f [a, b, c, d, e] x) : callK f [.inl a, .inl b, .inl c, .inl d, .inl e] ρ = .er x := callK_er h
end
section
/-! isinstance -/
theorem isi_of {T t : String} {d : D} {r : Bool} (h : tyN d = some t) (k : kitB t T = some r) : isiD T d = some (.bl r) := by
  unfold isiD
  rw [h]
  show (kitB t T).map D.bl = _
  rw [k]
  rfl
@[simp] theorem isi_non_int  : isiD "int" (.non) = some (.bl false) := isi_of (t := "NoneType") rfl (by decide +kernel)
@[simp] theorem isi_non_bool  : isiD "bool" (.non) = some (.bl false) := isi_of (t := "NoneType") rfl (by decide +kernel)
@[simp] theorem isi_non_str  : isiD "str" (.non) = some (.bl false) := isi_of (t := "NoneType") rfl (by decide +kernel)
@[simp] theorem isi_non_tuple  : isiD "tuple" (.non) = some (.bl false) := isi_of (t := "NoneType") rfl (by decide +kernel)
@[simp] theorem isi_non_list  : isiD "list" (.non) = some (.bl false) := isi_of (t := "NoneType") rfl (by decide +kernel)
@[simp] theorem isi_bl_int (b : Bool) : isiD "int" (.bl b) = some (.bl true) := isi_of (t := "bool") rfl (by decide +kernel)
@[simp] theorem isi_bl_bool (b : Bool) : isiD "bool" (.bl b) = some (.bl true) := isi_of (t := "bool") rfl (by decide +kernel)
@[simp] theorem isi_bl_str (b : Bool) : isiD "str" (.bl b) = some (.bl false) := isi_of (t := "bool") rfl (by decide +kernel)
@[simp] theorem isi_bl_tuple (b : Bool) : isiD "tuple" (.bl b) = some (.bl false) := isi_of (t := "bool") rfl (by decide +kernel)
@[simp] theorem isi_bl_list (b : Bool) : isiD "list" (.bl b) = some (.bl false) := isi_of (t := "bool") rfl (by decide +kernel)
@[simp] theorem isi_int_int (i : Int) : isiD "int" (.int i) = some (.bl true) := isi_of (t := "int") rfl (by decide +kernel)
@[simp] theorem isi_int_bool (i : Int) : isiD "bool" (.int i) = some (.bl false) := isi_of (t := "int") rfl (by decide +kernel)
@[simp] theorem isi_int_str (i : Int) : isiD "str" (.int i) = some (.bl false) := isi_of (t := "int") rfl (by decide +kernel)
@[simp] theorem isi_int_tuple (i : Int) : isiD "tuple" (.int i) = some (.bl false) := isi_of (t := "int") rfl (by decide +kernel)
@[simp] theorem isi_int_list (i : Int) : isiD "list" (.int i) = some (.bl false) := isi_of (t := "int") rfl (by decide +kernel)
@[simp] theorem isi_str_int (s : Str) : isiD "int" (.str s) = some (.bl false) := isi_of (t := "str") rfl (by decide +kernel)
@[simp] theorem isi_str_bool (s : Str) : isiD "bool" (.str s) = some (.bl false) := isi_of (t := "str") rfl (by decide +kernel)
@[simp] theorem isi_str_str (s : Str) : isiD "str" (.str s) = some (.bl true) := isi_of (t := "str") rfl (by decide +kernel)
@[simp] theorem isi_str_tuple (s : Str) : isiD "tuple" (.str s) = some (.bl false) := isi_of (t := "str") rfl (by decide +kernel)
@[simp] theorem isi_str_list (s : Str) : isiD "list" (.str s) = some (.bl false) := isi_of (t := "str") rfl (by decide +kernel)
@[simp] theorem isi_tup_int (ds : List D) : isiD "int" (.tup ds) = some (.bl false) := isi_of (t := "tuple") rfl (by decide +kernel)
@[simp] theorem isi_tup_bool (ds : List D) : isiD "bool" (.tup ds) = some (.bl false) := isi_of (t := "tuple") rfl (by decide +kernel)
@[simp] theorem isi_tup_str (ds : List D) : isiD "str" (.tup ds) = some (.bl false) := isi_of (t := "tuple") rfl (by decide +kernel)
@[simp] theorem isi_tup_tuple (ds : List D) : isiD "tuple" (.tup ds) = some (.bl true) := isi_of (t := "tuple") rfl (by decide +kernel)
@[simp] theorem isi_tup_list (ds : List D) : isiD "list" (.tup ds) = some (.bl false) := isi_of (t := "tuple") rfl (by decide +kernel)
@[simp] theorem isi_lst_int (ds : List D) : isiD "int" (.lst ds) = some (.bl false) := isi_of (t := "list") rfl (by decide +kernel)
@[simp] theorem isi_lst_bool (ds : List D) : isiD "bool" (.lst ds) = some (.bl false) := isi_of (t := "list") rfl (by decide +kernel)
@[simp] theorem isi_lst_str (ds : List D) : isiD "str" (.lst ds) = some (.bl false) := isi_of (t := "list") rfl (by decide +kernel)
@[simp] theorem isi_lst_tuple (ds : List D) : isiD "tuple" (.lst ds) = some (.bl false) := isi_of (t := "list") rfl (by decide +kernel)
@[simp] theorem isi_lst_list (ds : List D) : isiD "list" (.lst ds) = some (.bl true) := isi_of (t := "list") rfl (by decide +kernel)
@[simp] theorem isi_scr_int (ns : List Int) : isiD "int" (.scr ns) = some (.bl false) := isi_of (t := "list") rfl (by decide +kernel)
@[simp] theorem isi_scr_bool (ns : List Int) : isiD "bool" (.scr ns) = some (.bl false) := isi_of (t := "list") rfl (by decide +kernel)
@[simp] theorem isi_scr_str (ns : List Int) : isiD "str" (.scr ns) = some (.bl false) := isi_of (t := "list") rfl (by decide +kernel)
@[simp] theorem isi_scr_tuple (ns : List Int) : isiD "tuple" (.scr ns) = some (.bl false) := isi_of (t := "list") rfl (by decide +kernel)
@[simp] theorem isi_scr_list (ns : List Int) : isiD "list" (.scr ns) = some (.bl true) := isi_of (t := "list") rfl (by decide +kernel)
end
@[simp] theorem ltD_int (i j : Int) : ltD (.int i) (.int j) = some (.bl (decide (i < j))) := rfl
@[simp] theorem leD_int (i j : Int) : leD (.int i) (.int j) = some (.bl (decide (i ≤ j))) := rfl
@[simp] theorem gtD_int (i j : Int) : gtD (.int i) (.int j) = some (.bl (decide (j < i))) := rfl
@[simp] theorem geD_int (i j : Int) : geD (.int i) (.int j) = some (.bl (decide (j ≤ i))) := rfl
@[simp] theorem addD_int (i j : Int) : addD (.int i) (.int j) = some (.int (i + j)) := rfl
@[simp] theorem subD_int (i j : Int) : subD (.int i) (.int j) = some (.int (i - j)) := rfl
@[simp] theorem negD_int (i : Int) : negD (.int i) = some (.int (-i)) := rfl
@[simp] theorem lenD_lst (ds : List D) : lenD [.lst ds] = some (.int ds.length) := rfl
@[simp] theorem lenD_tup (ds : List D) : lenD [.tup ds] = some (.int ds.length) := rfl
@[simp] theorem addD_lst (xs ys : List D) : addD (.lst xs) (.lst ys) = if xs.length + ys.length ≤ sizeLine then some (.lst (xs ++ ys)) else none := rfl
@[simp] theorem addD_tup (xs ys : List D) : addD (.tup xs) (.tup ys) = if xs.length + ys.length ≤ sizeLine then some (.tup (xs ++ ys)) else none := rfl
@[simp] theorem outV_rt (r : Rv) (ρ : Rho) : outV (.rt r ρ) = (r, ρ) := rfl
@[simp] theorem outV_nx (ρ : Rho) : outV (.nx ρ) = (.da .non, ρ) := rfl
@[simp] theorem backA_nil (ρ : Rho) : backA [] ρ = some [] := rfl
@[simp] theorem backA_da (d : D) (ρ : Rho) (s : Sl) (ρ' : Rho) : backA (.da d :: ρ) (s :: ρ') = (backA ρ ρ').map (.da d :: ·) := rfl
theorem is_whole (n lo hi : Int) : Is f_is_whole [.int n, .int lo, .int hi] (.bl (decide (lo ≤ n) && decide (n ≤ hi))) := by
  by_cases h1 : lo ≤ n <;> by_cases h2 : n ≤ hi <;> simp [Is, f_is_whole, defF, b_is_whole, h1, h2]
@[simp] theorem c_is_whole (n lo hi : Int) (ρ : Rho) : callK f_is_whole [.inl (.int n), .inl (.int lo), .inl (.int hi)] ρ = .ok (.da (.bl (decide (lo ≤ n) && decide (n ≤ hi))), ρ) := ck3 (is_whole n lo hi)
@[simp] theorem ofO_is {α : Type} (a : α) : Rs.ofO (some a) = .ok a := rfl
@[simp] theorem noXok {α : Type} (a : α) : noX (.ok a) = .ok a := rfl
@[simp] theorem ixT (ds : List D) (i : Int) : ixD (.tup ds) (.int i) = L2.atI ds i := rfl
@[simp] theorem ixL (ds : List D) (i : Int) : ixD (.lst ds) (.int i) = L2.atI ds i := rfl
theorem atNat {α : Type} {l : List α} {i : Nat} {a : α} (h : l[i]? = some a) : L2.atI l (i : Int) = some a := by
  obtain ⟨hi, _⟩ := List.getElem?_eq_some_iff.mp h
  unfold L2.atI ixN
  have h1 : ¬ ((i : Int) < 0) := by omega
  have h2 : (i : Int) < (l.length : Int) := by omega
  simp [h1, h2, h]
@[simp] theorem at0 {α : Type} (a : α) (l : List α) : L2.atI (a :: l) 0 = some a := atNat (i := 0) rfl
@[simp] theorem at1 {α : Type} (a b : α) (l : List α) : L2.atI (a :: b :: l) 1 = some b := atNat (i := 1) rfl
@[simp] theorem at2 {α : Type} (a b c : α) (l : List α) : L2.atI (a :: b :: c :: l) 2 = some c := atNat (i := 2) rfl
theorem atNeg1 {α : Type} {l : List α} {a : α} : L2.atI (l ++ [a]) (-1) = some a := by
  unfold L2.atI ixN
  rw [List.length_append, List.length_singleton]
  rw [if_neg (by omega), if_pos (by omega)]
  have h3 : ((-1 : Int) + ((l.length + 1 : Nat) : Int)).toNat = l.length := by omega
  show (l ++ [a])[((-1 : Int) + ((l.length + 1 : Nat) : Int)).toNat]? = some a
  rw [h3]
  simp
@[simp] theorem sz : sizeLine = 16777216 := sizeLine_eq
theorem small {n : Nat} (h : n ≤ 1000) : n ≤ sizeLine := by rw [sz]; omega
end MA

set_option maxHeartbeats 4000000
/-! M2: loops, comprehensions, equality over encoded things. -/
namespace MA
open PySem PySem.Spec PyProof.Rows L2 DL PK
/-! ### comprehensions -/
def turnL (g : FG) (t : FB) (f : FE) (vs : List Nat) (d : D) (ρ : Rho) : Rs (Option D × Rho) := (noX (g d ρ)).bind fun ρ1 => (noX (t ρ1)).bind fun r => if r.1 = true then (noX (f r.2)).bind fun s => .ok (some s.1, wipeR s.2 vs) else .ok (none, wipeR r.2 vs)
theorem lcD_map {α : Type} {g : FG} {t : FB} {f : FE} {vs : List Nat} {ρ : Rho} (e : α → D) (φ : α → Option D) : ∀ {l : List α}, (∀ a ∈ l, turnL g t f vs (e a) ρ = .ok (φ a, ρ)) → lcD g t f vs (l.map e) ρ = .ok (l.filterMap φ, ρ)
  | [], _ => rfl
  | a :: l, h => by
    have h1 := h a List.mem_cons_self
    have ih := lcD_map e φ (l := l) fun b hb => h b (List.mem_cons_of_mem _ hb)
    unfold turnL at h1
    show ((noX (g (e a) ρ)).bind fun ρ1 => (noX (t ρ1)).bind fun r => if r.1 = true then (noX (f r.2)).bind fun s => (lcD g t f vs (l.map e) (wipeR s.2 vs)).bind fun u => .ok (s.1 :: u.1, u.2) else lcD g t f vs (l.map e) (wipeR r.2 vs)) = _
    cases hg : noX (g (e a) ρ) with
    | no => rw [hg] at h1; exact nomatch h1
    | er x => rw [hg] at h1; exact nomatch h1
    | ok ρ1 =>
      rw [hg] at h1
      simp only [Rs.ok_bind] at h1 ⊢
      cases ht : noX (t ρ1) with
      | no => rw [ht] at h1; exact nomatch h1
      | er x => rw [ht] at h1; exact nomatch h1
      | ok r =>
        rw [ht] at h1
        simp only [Rs.ok_bind] at h1 ⊢
        by_cases hr : r.1 = true
        · rw [if_pos hr] at h1 ⊢
          cases hf : noX (f r.2) with
          | no => rw [hf] at h1; exact nomatch h1
          | er x => rw [hf] at h1; exact nomatch h1
          | ok s =>
            rw [hf] at h1
            simp only [Rs.ok_bind, Rs.ok.injEq, Prod.mk.injEq] at h1 ⊢
            rw [h1.2, ih]
            simp only [Rs.ok_bind]
            rw [List.filterMap_cons_some h1.1.symm]
        · rw [if_neg hr] at h1 ⊢
          simp only [Rs.ok.injEq, Prod.mk.injEq] at h1
          rw [h1.2, ih, List.filterMap_cons_none h1.1.symm]
theorem lcE_map {α : Type} {fi : FI} {g : FG} {t : FB} {f : FE} {vs : List Nat} {ρ ρ' : Rho} (e : α → D) (φ : α → Option D) {l : List α} (hi : fi ρ = .ok (l.map e, ρ')) (hm : noMus ρ' vs = true) (hl : l.length ≤ sizeLine)
    (h : ∀ a ∈ l, turnL g t f vs (e a) (wipeR ρ' vs) = .ok (φ a, wipeR ρ' vs)) : lcE fi g t f vs ρ = .ok (.lst (l.filterMap φ), restR ρ' (wipeR ρ' vs) vs) := by
  unfold lcE
  rw [hi]
  simp only [Rs.ok_bind]
  rw [if_pos ⟨hm, by rw [List.length_map]; exact hl⟩, lcD_map e φ h]
  rfl
theorem lcE_at {α : Type} {fi : FI} {g : FG} {t : FB} {f : FE} {vs : List Nat} {ρ : Rho} (e : α → D) (φ : α → Option D) {l : List α} (hi : fi ρ = .ok (l.map e, ρ)) (hm : noMus ρ vs = true) (hl : l.length ≤ sizeLine)
    (h : ∀ a ∈ l, turnL g t f vs (e a) (wipeR ρ vs) = .ok (φ a, wipeR ρ vs)) : lcE fi g t f vs ρ = .ok (.lst (l.filterMap φ), restR ρ (wipeR ρ vs) vs) := lcE_map e φ hi hm hl h
theorem lc2D_map {α β : Type} {g g1 : FG} {t t1 : FB} {f : FE} {fi1 : FI} {vs vs1 : List Nat} {ρ : Rho} (e : α → D) (e1 : β → D) (k : α → List β) (φ : α → β → Option D) (on : α → Rho) : ∀ {l : List α},
    (∀ a ∈ l, ∃ ρ1, g (e a) ρ = .ok ρ1 ∧ t ρ1 = .ok (true, ρ1) ∧ fi1 ρ1 = .ok ((k a).map e1, ρ1) ∧ (k a).length ≤ 1000 ∧ (∀ b ∈ k a, turnL g1 t1 f vs1 (e1 b) (wipeR ρ1 vs1) = .ok (φ a b, wipeR ρ1 vs1)) ∧ wipeR (wipeR ρ1 vs1) vs = ρ) →
    lc2D g t fi1 g1 t1 f vs vs1 (l.map e) ρ = .ok (l.flatMap fun a => (k a).filterMap (φ a), ρ)
  | [], _ => rfl
  | a :: l, h => by
    obtain ⟨ρ1, h1, h2, h3, h4, h5, h6⟩ := h a List.mem_cons_self
    have ih := lc2D_map (g := g) (t := t) (f := f) (fi1 := fi1) (g1 := g1) (t1 := t1) (vs := vs) (vs1 := vs1) (ρ := ρ) e e1 k φ on (l := l) fun b hb => h b (List.mem_cons_of_mem _ hb)
    show ((noX (g (e a) ρ)).bind fun ρ1 => (noX (t ρ1)).bind fun r => if r.1 = true then (noX (fi1 r.2)).bind fun q => if q.1.length ≤ 1000 then
        (lcD g1 t1 f vs1 q.1 (wipeR q.2 vs1)).bind fun u => (lc2D g t fi1 g1 t1 f vs vs1 (l.map e) (wipeR u.2 vs)).bind fun w => .ok (u.1 ++ w.1, w.2)
      else .no
    else lc2D g t fi1 g1 t1 f vs vs1 (l.map e) (wipeR r.2 vs)) = _
    rw [h1]
    simp only [noX_ok, Rs.ok_bind]
    rw [h2]
    simp only [noX_ok, Rs.ok_bind, if_true]
    rw [h3]
    simp only [noX_ok, Rs.ok_bind]
    rw [if_pos (by rw [List.length_map]; exact h4), lcD_map e1 (φ a) h5]
    simp only [Rs.ok_bind]
    rw [h6, ih]
    rfl
theorem lc2E_at {α β : Type} {fi : FI} {g g1 : FG} {t t1 : FB} {f : FE} {fi1 : FI} {vs vs1 : List Nat} {ρ : Rho} (e : α → D) (e1 : β → D) (k : α → List β) (φ : α → β → Option D) {l : List α} (hi : fi ρ = .ok (l.map e, ρ)) (hm : noMus ρ vs = true) (hl : l.length ≤ 1000)
    (h : ∀ a ∈ l, ∃ ρ1, g (e a) (wipeR ρ vs) = .ok ρ1 ∧ t ρ1 = .ok (true, ρ1) ∧ fi1 ρ1 = .ok ((k a).map e1, ρ1) ∧ (k a).length ≤ 1000 ∧ (∀ b ∈ k a, turnL g1 t1 f vs1 (e1 b) (wipeR ρ1 vs1) = .ok (φ a b, wipeR ρ1 vs1)) ∧ wipeR (wipeR ρ1 vs1) vs = wipeR ρ vs) :
    lc2E fi g t fi1 g1 t1 f vs vs1 ρ = .ok (.lst (l.flatMap fun a => (k a).filterMap (φ a)), restR ρ (wipeR ρ vs) vs) := by
  unfold lc2E
  rw [hi]
  simp only [Rs.ok_bind]
  rw [if_pos ⟨hm, by rw [List.length_map]; exact hl⟩, lc2D_map e e1 k φ (fun _ => ρ) h]
  rfl
/-! ### loops -/
theorem forD_fold {α S : Type} {g : FG} {b : FS} (enc : S → Rho) (step : S → α → S) (e : α → D) (I : S → Prop) : ∀ {l : List α} (s : S), I s → (∀ s a, I s → a ∈ l → ((g (e a) (enc s)).bind b) = .ok (.nx (enc (step s a))) ∧ I (step s a)) → forD g b (l.map e) (enc s) = .ok (.nx (enc (l.foldl step s))) ∧ I (l.foldl step s)
  | [], s, hs, _ => ⟨rfl, hs⟩
  | a :: l, s, hs, h => by
    obtain ⟨h1, h2⟩ := h s a hs List.mem_cons_self
    have ih := forD_fold enc step e I (l := l) (step s a) h2 fun s b hi hb => h s b hi (List.mem_cons_of_mem _ hb)
    refine ⟨?_, ih.2⟩
    show ((g (e a) (enc s)).bind fun ρ1 => (b ρ1).bind fun o => match o with
      | .nx ρ2 => forD g b (l.map e) ρ2
      | .rt r ρ2 => .ok (.rt r ρ2)) = _
    rw [← Rs.bind_assoc, h1]
    exact ih.1
/-! ### equality -/
structure Enc {α : Type} [DecidableEq α] (e : α → D) (n : Nat) : Prop where
  lay : ∀ a, (e a).py.canLay0 = true
  dep : ∀ a, (e a).py.depth ≤ n
  eqv : ∀ a b, PyData.eqv (e a).py (e b).py = decide (a = b)
section
variable {α β : Type} [DecidableEq α] [DecidableEq β] {e : α → D} {f : β → D} {n m : Nat}
theorem Enc.fit (h : Enc e n) (hn : n ≤ 64) (a : α) : (e a).fit = true := by
  unfold D.fit SeqAt.shaped
  rw [h.lay, decide_eq_true (Nat.le_trans (h.dep a) hn)]
  rfl
theorem Enc.eqD (h : Enc e n) (hn : n ≤ 64) (a b : α) : DL.eqD (e a) (e b) = some (decide (a = b)) := by
  unfold DL.eqD
  rw [if_pos ⟨h.fit hn a, h.fit hn b⟩, h.eqv]
theorem Enc.eqE (h : Enc e n) (hn : n ≤ 64) (a b : α) : DL.eqE (e a) (e b) = some (.bl (decide (a = b))) := by
  unfold DL.eqE
  rw [h.eqD hn]
  rfl
theorem Enc.neE (h : Enc e n) (hn : n ≤ 64) (a b : α) : DL.neE (e a) (e b) = some (.bl (!decide (a = b))) := by
  unfold DL.neE
  rw [h.eqD hn]
  rfl
theorem pys_map (l : List α) : D.pys (l.map e) = l.map fun a => (e a).py := by
  induction l with
  | nil => rfl
  | cons a l ih => show (e a).py :: D.pys (l.map e) = _; rw [ih]; rfl
theorem Enc.layAll (h : Enc e n) : ∀ l : List α, PyData.canLayAll0 (D.pys (l.map e)) = true
  | [] => by with_unfolding_all rfl
  | a :: l => by
    show PyData.canLayAll0 ((e a).py :: D.pys (l.map e)) = true
    simp only [PyData.canLayAll0, Bool.and_eq_true]
    exact ⟨h.lay a, Enc.layAll h l⟩
theorem Enc.depAll (h : Enc e n) : ∀ l : List α, PyData.depthAll (D.pys (l.map e)) ≤ n
  | [] => by with_unfolding_all exact Nat.zero_le _
  | a :: l => by
    show PyData.depthAll ((e a).py :: D.pys (l.map e)) ≤ n
    simp only [PyData.depthAll]
    exact Nat.max_le.mpr ⟨h.dep a, Enc.depAll h l⟩
theorem Enc.eqvAll (h : Enc e n) : ∀ l k : List α, PyData.eqvAll (D.pys (l.map e)) (D.pys (k.map e)) = decide (l = k)
  | [], [] => by with_unfolding_all rfl
  | [], b :: k => by
    show PyData.eqvAll [] ((e b).py :: D.pys (k.map e)) = _
    simp [PyData.eqvAll]
  | a :: l, [] => by
    show PyData.eqvAll ((e a).py :: D.pys (l.map e)) [] = _
    simp [PyData.eqvAll]
  | a :: l, b :: k => by
    show PyData.eqvAll ((e a).py :: D.pys (l.map e)) ((e b).py :: D.pys (k.map e)) = _
    simp only [PyData.eqvAll, h.eqv, Enc.eqvAll h l k]
    by_cases h1 : a = b <;> by_cases h2 : l = k <;> simp [h1, h2]
theorem Enc.lst (h : Enc e n) : Enc (fun l : List α => D.lst (l.map e)) (n + 1) where
  lay := fun l => by show (PyData.list (D.pys (l.map e))).canLay0 = true; simp only [PyData.canLay0]; exact h.layAll l
  dep := fun l => by
    show (PyData.list (D.pys (l.map e))).depth ≤ n + 1
    simp only [PyData.depth]
    have := h.depAll l
    omega
  eqv := fun l k => by show PyData.eqv (.list (D.pys (l.map e))) (.list (D.pys (k.map e))) = _; simp only [PyData.eqv]; exact h.eqvAll l k
theorem Enc.tup (h : Enc e n) : Enc (fun l : List α => D.tup (l.map e)) (n + 1) where
  lay := fun l => by show (PyData.tuple (D.pys (l.map e))).canLay0 = true; simp only [PyData.canLay0]; exact h.layAll l
  dep := fun l => by
    show (PyData.tuple (D.pys (l.map e))).depth ≤ n + 1
    simp only [PyData.depth]
    have := h.depAll l
    omega
  eqv := fun l k => by show PyData.eqv (.tuple (D.pys (l.map e))) (.tuple (D.pys (k.map e))) = _; simp only [PyData.eqv]; exact h.eqvAll l k
theorem Enc.pair (h : Enc e n) (k : Enc f m) : Enc (fun p : α × β => D.tup [e p.1, f p.2]) (max n m + 1) where
  lay := fun p => by
    show (PyData.tuple [(e p.1).py, (f p.2).py]).canLay0 = true
    simp [PyData.canLay0, PyData.canLayAll0, h.lay, k.lay]
  dep := fun p => by
    show (PyData.tuple [(e p.1).py, (f p.2).py]).depth ≤ _
    simp only [PyData.depth, PyData.depthAll]
    have := h.dep p.1
    have := k.dep p.2
    omega
  eqv := fun p q => by
    show PyData.eqv (.tuple [(e p.1).py, (f p.2).py]) (.tuple [(e q.1).py, (f q.2).py]) = _
    simp only [PyData.eqv, PyData.eqvAll, h.eqv, k.eqv]
    obtain ⟨p1, p2⟩ := p
    obtain ⟨q1, q2⟩ := q
    by_cases h1 : p1 = q1 <;> by_cases h2 : p2 = q2 <;> simp [h1, h2]
theorem Enc.int : Enc D.int 1 where
  lay := fun a => by with_unfolding_all rfl
  dep := fun a => by show (PyData.int a).depth ≤ 1; simp [PyData.depth]
  eqv := fun a b => by
    show PyData.eqv (.int a) (.int b) = _
    simp only [PyData.eqv]
    by_cases h : a = b <;> simp [h]
theorem Enc.bl : Enc D.bl 1 where
  lay := fun a => by with_unfolding_all rfl
  dep := fun a => by show (PyData.bool a).depth ≤ 1; simp [PyData.depth]
  eqv := fun a b => by show PyData.eqv (.bool a) (.bool b) = _; simp only [PyData.eqv]; cases a <;> cases b <;> rfl
theorem Enc.inL (h : Enc e n) (hn : n + 1 ≤ 64) (a : α) (l : List α) : DL.inE (e a) (.lst (l.map e)) = some (.bl (decide (a ∈ l))) := by
  have hl := h.lst.fit hn l
  have ha := h.fit (by omega) a
  show ((if (e a).fit = true ∧ (D.lst (l.map e)).fit = true then some ((D.pys (l.map e)).any fun z => PyData.eqv z (e a).py) else none).map D.bl) = _
  rw [if_pos ⟨ha, hl⟩, pys_map]
  simp only [Option.map_some, List.any_map]
  congr 2
  rw [Bool.eq_iff_iff]
  simp [List.any_eq_true, h.eqv]
theorem Enc.inT (h : Enc e n) (hn : n + 1 ≤ 64) (a : α) (l : List α) : DL.inE (e a) (.tup (l.map e)) = some (.bl (decide (a ∈ l))) := by
  have hl := h.tup.fit hn l
  have ha := h.fit (by omega) a
  show ((if (e a).fit = true ∧ (D.tup (l.map e)).fit = true then some ((D.pys (l.map e)).any fun z => PyData.eqv z (e a).py) else none).map D.bl) = _
  rw [if_pos ⟨ha, hl⟩, pys_map]
  simp only [Option.map_some, List.any_map]
  congr 2
  rw [Bool.eq_iff_iff]
  simp [List.any_eq_true, h.eqv]
end
@[simp] theorem eq_int (a b : Int) : DL.eqE (.int a) (.int b) = some (.bl (decide (a = b))) := Enc.int.eqE (by decide) a b
@[simp] theorem ne_int (a b : Int) : DL.neE (.int a) (.int b) = some (.bl (!decide (a = b))) := Enc.int.neE (by decide) a b
theorem eqE_fit {x y : D} (hx : x.fit = true) (hy : y.fit = true) : DL.eqE x y = some (.bl (PyData.eqv x.py y.py)) := by
  unfold DL.eqE DL.eqD
  rw [if_pos ⟨hx, hy⟩]
  rfl
theorem neE_fit {x y : D} (hx : x.fit = true) (hy : y.fit = true) : DL.neE x y = some (.bl (!PyData.eqv x.py y.py)) := by
  unfold DL.neE DL.eqD
  rw [if_pos ⟨hx, hy⟩]
  rfl
/-- no errors told of, no own things: iterating data -/
theorem rg_map (lo : Int) (n : Nat) : rgD lo n = (List.range n).map fun i => D.int (lo + (i : Nat)) := rfl
theorem enum_map {α : Type} (e : α → D) : ∀ (k : Nat) (l : List α), enumFrom k (l.map e) = (l.zipIdx k).map fun p => D.tup [.int (p.2 : Nat), e p.1]
  | _, [] => rfl
  | k, a :: l => by
    show D.tup [.int (k : Nat), e a] :: enumFrom (k + 1) (l.map e) = _
    rw [enum_map e (k + 1) l]
    rfl
theorem pair_map {α β : Type} (e : α → D) (f : β → D) : ∀ (l : List α) (m : List β), pairD (l.map e) (m.map f) = (l.zip m).map fun p => D.tup [e p.1, f p.2]
  | [], _ => by cases ‹List β› <;> rfl
  | _ :: _, [] => rfl
  | a :: l, b :: m => by
    show D.tup [e a, f b] :: pairD (l.map e) (m.map f) = _
    rw [pair_map e f l m]
    rfl
end MA

set_option maxHeartbeats 4000000
/-! M3: documents: what the package's checks and counts answer. -/
namespace MA
open PySem PySem.Spec PyProof.Rows L2 DL PK
/-! ### documents -/
inductive Pt where
  | brk | blk (n : Int) (nx : Bool) | txt (ws : List Int) (nx wh : Bool)
  deriving DecidableEq
abbrev sText : Str := PySem.Str.ofString "text"
abbrev sBlock : Str := PySem.Str.ofString "block"
abbrev sBreak : Str := PySem.Str.ofString "break"
abbrev sNext : Str := PySem.Str.ofString "next"
abbrev sWhole : Str := PySem.Str.ofString "whole"
def markD (nx wh : Bool) : D := match nx, wh with
  | true, true => .tup [.str sNext, .str sWhole]
  | true, false => .tup [.str sNext]
  | false, true => .tup [.str sWhole]
  | false, false => .tup []
def Pt.d : Pt → D
  | .brk => .tup [.str sBreak]
  | .blk n nx => .tup [.str sBlock, .int n, markD nx false]
  | .txt ws nx wh => .tup [.str sText, .tup (ws.map .int), markD nx wh]
def docD (d : List Pt) : D := .tup (d.map Pt.d)
def Pt.ok : Pt → Prop
  | .brk => True
  | .blk n _ => 1 ≤ n ∧ n ≤ 9
  | .txt ws _ _ => 1 ≤ ws.length ∧ ws.length ≤ 12 ∧ ∀ w ∈ ws, 1 ≤ w ∧ w ≤ 9
def Pt.isB : Pt → Bool
  | .brk => true
  | _ => false
structure Vd (d : List Pt) : Prop where
  l1 : 1 ≤ d.length
  l8 : d.length ≤ 8
  ok : ∀ p ∈ d, p.ok
  nb : ∃ p ∈ d, p.isB = false
/-! literal texts -/
@[simp] theorem eq_TextText : eqE (.str sText) (.str sText) = some (.bl true) := by kernel_rfl
@[simp] theorem ne_TextText : neE (.str sText) (.str sText) = some (.bl false) := by kernel_rfl
@[simp] theorem eq_TextBlock : eqE (.str sText) (.str sBlock) = some (.bl false) := by kernel_rfl
@[simp] theorem ne_TextBlock : neE (.str sText) (.str sBlock) = some (.bl true) := by kernel_rfl
@[simp] theorem eq_TextBreak : eqE (.str sText) (.str sBreak) = some (.bl false) := by kernel_rfl
@[simp] theorem ne_TextBreak : neE (.str sText) (.str sBreak) = some (.bl true) := by kernel_rfl
@[simp] theorem eq_BlockText : eqE (.str sBlock) (.str sText) = some (.bl false) := by kernel_rfl
@[simp] theorem ne_BlockText : neE (.str sBlock) (.str sText) = some (.bl true) := by kernel_rfl
@[simp] theorem eq_BlockBlock : eqE (.str sBlock) (.str sBlock) = some (.bl true) := by kernel_rfl
@[simp] theorem ne_BlockBlock : neE (.str sBlock) (.str sBlock) = some (.bl false) := by kernel_rfl
@[simp] theorem eq_BlockBreak : eqE (.str sBlock) (.str sBreak) = some (.bl false) := by kernel_rfl
@[simp] theorem ne_BlockBreak : neE (.str sBlock) (.str sBreak) = some (.bl true) := by kernel_rfl
@[simp] theorem eq_BreakText : eqE (.str sBreak) (.str sText) = some (.bl false) := by kernel_rfl
@[simp] theorem ne_BreakText : neE (.str sBreak) (.str sText) = some (.bl true) := by kernel_rfl
@[simp] theorem eq_BreakBlock : eqE (.str sBreak) (.str sBlock) = some (.bl false) := by kernel_rfl
@[simp] theorem ne_BreakBlock : neE (.str sBreak) (.str sBlock) = some (.bl true) := by kernel_rfl
@[simp] theorem eq_BreakBreak : eqE (.str sBreak) (.str sBreak) = some (.bl true) := by kernel_rfl
@[simp] theorem ne_BreakBreak : neE (.str sBreak) (.str sBreak) = some (.bl false) := by kernel_rfl
theorem fit_list {α : Type} [DecidableEq α] {e : α → D} {n : Nat} (h : Enc e n) (hn : n + 1 ≤ 64) (l : List α) : eqE (.tup (l.map e)) (.tup []) = some (.bl (decide (l = []))) := h.tup.eqE hn l []
@[simp] theorem markD_isi (nx wh : Bool) : isiD "tuple" (markD nx wh) = some (.bl true) := by cases nx <;> cases wh <;> exact isi_tup_tuple _
theorem are_marks_next (nx : Bool) : Is f_are_marks [markD nx false, .tup [.str sNext]] (.bl true) := by cases nx <;> (unfold Is; kernel_rfl)
theorem are_marks (nx wh : Bool) : Is f_are_marks [markD nx wh, K_MARKS] (.bl true) := by cases nx <;> cases wh <;> (unfold Is; kernel_rfl)

theorem fitT0 : (D.tup []).fit = true := by kernel_rfl
theorem markD_lay (nx wh : Bool) : (markD nx wh).py.canLay0 = true := by cases nx <;> cases wh <;> kernel_rfl
theorem markD_dep (nx wh : Bool) : (markD nx wh).py.depth ≤ 2 := by cases nx <;> cases wh <;> decide +kernel
theorem encW : Enc (fun ws : List Int => D.tup (ws.map D.int)) 2 := Enc.int.tup
theorem eqv_markD (a b c d : Bool) : PyData.eqv (markD a b).py (markD c d).py = (decide (a = c) && decide (b = d)) := by cases a <;> cases b <;> cases c <;> cases d <;> kernel_rfl
theorem str_lay (s : Str) (h : (D.str s).py.canLay0 = true) : (PyData.str s).canLay0 = true := h
theorem encPt : Enc Pt.d 3 where
  lay := fun p => by
    cases p with
    | brk => kernel_rfl
    | blk n nx =>
      show (PyData.tuple [.str sBlock, .int n, (markD nx false).py]).canLay0 = true
      have h1 : (PyData.str sBlock).canLay0 = true := by kernel_rfl
      have h2 : (PyData.int n).canLay0 = true := Enc.int.lay n
      simp only [PyData.canLay0, PyData.canLayAll0, Bool.and_eq_true] at h1 h2 ⊢
      exact ⟨h1, trivial, markD_lay nx false, trivial⟩
    | txt ws nx wh =>
      show (PyData.tuple [.str sText, (D.tup (ws.map D.int)).py, (markD nx wh).py]).canLay0 = true
      have h1 : (PyData.str sText).canLay0 = true := by kernel_rfl
      have h2 := encW.lay ws
      simp only [PyData.canLay0, PyData.canLayAll0, Bool.and_eq_true] at h1 ⊢
      exact ⟨h1, h2, markD_lay nx wh, trivial⟩
  dep := fun p => by
    cases p with
    | brk => decide +kernel
    | blk n nx =>
      show (PyData.tuple [.str sBlock, .int n, (markD nx false).py]).depth ≤ 3
      have := markD_dep nx false
      simp only [PyData.depth, PyData.depthAll]
      omega
    | txt ws nx wh =>
      show (PyData.tuple [.str sText, (D.tup (ws.map D.int)).py, (markD nx wh).py]).depth ≤ 3
      have := markD_dep nx wh
      have := encW.dep ws
      simp only [PyData.depth, PyData.depthAll]
      omega
  eqv := fun p q => by
    have e1 : (sText == sBlock) = false := by kernel_rfl
    have e2 : (sBlock == sText) = false := by kernel_rfl
    have e3 : (sBlock == sBlock) = true := by kernel_rfl
    have e4 : (sText == sText) = true := by kernel_rfl
    cases p with
    | brk => cases q with
      | brk => kernel_rfl
      | blk n nx =>
        show PyData.eqv (.tuple [.str sBreak]) (.tuple [.str sBlock, .int n, (markD nx false).py]) = _
        simp [PyData.eqv, PyData.eqvAll]
      | txt ws nx wh =>
        show PyData.eqv (.tuple [.str sBreak]) (.tuple [.str sText, (D.tup (ws.map D.int)).py, (markD nx wh).py]) = _
        simp [PyData.eqv, PyData.eqvAll]
    | blk n nx => cases q with
      | brk =>
        show PyData.eqv (.tuple [.str sBlock, .int n, (markD nx false).py]) (.tuple [.str sBreak]) = _
        simp [PyData.eqv, PyData.eqvAll]
      | blk m mx =>
        show PyData.eqv (.tuple [.str sBlock, .int n, (markD nx false).py]) (.tuple [.str sBlock, .int m, (markD mx false).py]) = _
        simp only [PyData.eqv, PyData.eqvAll, eqv_markD, e3]
        by_cases h1 : n = m <;> by_cases h2 : nx = mx <;> simp [h1, h2]
      | txt ws mx wh =>
        show PyData.eqv (.tuple [.str sBlock, .int n, (markD nx false).py]) (.tuple [.str sText, (D.tup (ws.map D.int)).py, (markD mx wh).py]) = _
        simp only [PyData.eqv, PyData.eqvAll, e2]
        simp
    | txt ws nx wh => cases q with
      | brk =>
        show PyData.eqv (.tuple [.str sText, (D.tup (ws.map D.int)).py, (markD nx wh).py]) (.tuple [.str sBreak]) = _
        simp [PyData.eqv, PyData.eqvAll]
      | blk m mx =>
        show PyData.eqv (.tuple [.str sText, (D.tup (ws.map D.int)).py, (markD nx wh).py]) (.tuple [.str sBlock, .int m, (markD mx false).py]) = _
        simp only [PyData.eqv, PyData.eqvAll, e1]
        simp
      | txt vs mx mh =>
        show PyData.eqv (.tuple [.str sText, (D.tup (ws.map D.int)).py, (markD nx wh).py]) (.tuple [.str sText, (D.tup (vs.map D.int)).py, (markD mx mh).py]) = _
        simp only [PyData.eqv, PyData.eqvAll, eqv_markD, e4, encW.eqv]
        by_cases h1 : ws = vs <;> by_cases h2 : nx = mx <;> by_cases h3 : wh = mh <;> simp [h1, h2, h3]
@[simp] theorem pt_ne_nil (p : Pt) : eqE p.d (.tup []) = some (.bl false) := by
  rw [eqE_fit (encPt.fit (by decide) p) fitT0]
  cases p <;> (simp only [Pt.d, D.py, D.pys]; simp [PyData.eqv, PyData.eqvAll])
@[simp] theorem c_marks1 (nx : Bool) (ρ : Rho) : callK f_are_marks [.inl (markD nx false), .inl (.tup [.str sNext])] ρ = .ok (.da (.bl true), ρ) := ck2 (are_marks_next nx)
@[simp] theorem c_marks (nx wh : Bool) (ρ : Rho) : callK f_are_marks [.inl (markD nx wh), .inl K_MARKS] ρ = .ok (.da (.bl true), ρ) := ck2 (are_marks nx wh)
@[simp] theorem allD_map {α : Type} (p : α → Bool) (l : List α) : allD [.lst (l.map fun a => D.bl (p a))] = some (.bl (l.all p)) := by
  show (blsD (l.map fun a => D.bl (p a))).map _ = _
  have e : (l.map fun a => D.bl (p a)) = (l.map p).map D.bl := by rw [List.map_map]; rfl
  rw [e, blsD_bls]
  simp [List.all_map]
theorem allD_bls (bs : List Bool) : allD [.lst (bs.map D.bl)] = some (.bl (bs.all id)) := by
  show (blsD (bs.map D.bl)).map _ = _
  rw [blsD_bls]
  rfl
theorem fm_map {α β : Type} (f : α → β) (l : List α) : l.filterMap (fun a => some (f a)) = l.map f := by
  induction l with
  | nil => rfl
  | cons a l ih => simp [ih]
theorem is_part_brk : Is f_is_part [Pt.brk.d] (.bl true) := by unfold Is; kernel_rfl
theorem is_part_blk (n : Int) (nx : Bool) (h : 1 ≤ n ∧ n ≤ 9) : Is f_is_part [(Pt.blk n nx).d] (.bl true) := by
  have e := pt_ne_nil (.blk n nx)
  simp only [Pt.d] at e ⊢
  simp [Is, f_is_part, defF, b_is_part, e, h.1, h.2]
theorem is_part_txt (ws : List Int) (nx wh : Bool) (h : (Pt.txt ws nx wh).ok) : Is f_is_part [(Pt.txt ws nx wh).d] (.bl true) := by
  have e := pt_ne_nil (.txt ws nx wh)
  obtain ⟨h1, h2, h3⟩ := h
  simp only [Pt.d] at e ⊢
  have hl : (1 : Int) ≤ (ws.length : Int) := by omega
  have hl2 : (ws.length : Int) ≤ 12 := by omega
  have ha : (ws.all fun w => decide (1 ≤ w) && decide (w ≤ 9)) = true := by
    rw [List.all_eq_true]
    intro w hw
    have := h3 w hw
    simp [this.1, this.2]
  simp [Is, f_is_part, defF, b_is_part, e, hl, hl2]
  rw [lcE_at D.int (fun w => some (.bl (decide (1 ≤ w) && decide (w ≤ 9)))) (l := ws) ?_ ?_ (small (by omega)) ?_]
  · rw [fm_map, Rs.ok_bind, Rs.ok_bind, allD_map, ha]
    simp [restR, wipeR]
  · simp
  · rfl
  · intro w hw
    simp [turnL, yesB, wipeR]
theorem is_part (p : Pt) (h : p.ok) : Is f_is_part [p.d] (.bl true) := by
  cases p with
  | brk => exact is_part_brk
  | blk n nx => exact is_part_blk n nx h
  | txt ws nx wh => exact is_part_txt ws nx wh h
theorem c_is_part {p : Pt} (h : p.ok) (ρ : Rho) : callK f_is_part [.inl p.d] ρ = .ok (.da (.bl true), ρ) := ck1 (is_part p h)
theorem at_kind (p : Pt) : ixD p.d (.int 0) = some (.str (match p with | .brk => sBreak | .blk _ _ => sBlock | .txt _ _ _ => sText)) := by cases p <;> simp [Pt.d]
def Pt.kind : Pt → Str
  | .brk => sBreak
  | .blk _ _ => sBlock
  | .txt _ _ _ => sText
@[simp] theorem ix_kind (p : Pt) : ixD p.d (.int 0) = some (.str p.kind) := by cases p <;> simp [Pt.d, Pt.kind]
@[simp] theorem kind_break (p : Pt) : eqE (.str p.kind) (.str sBreak) = some (.bl p.isB) := by cases p <;> simp [Pt.kind, Pt.isB]
@[simp] theorem kind_nbreak (p : Pt) : neE (.str p.kind) (.str sBreak) = some (.bl (!p.isB)) := by cases p <;> simp [Pt.kind, Pt.isB]
theorem alltrue {α : Type} (l : List α) : (l.map fun _ => true).all id = true := by simp
theorem is_document {d : List Pt} (v : Vd d) : Is f_is_document [docD d] (.bl true) := by
  have hl : (1 : Int) ≤ (d.length : Int) := by have := v.l1; omega
  have hl2 : (d.length : Int) ≤ 8 := by have := v.l8; omega
  simp [Is, f_is_document, defF, b_is_document, docD, K_MOST_PARTS, hl, hl2]
  rw [lcE_at Pt.d (fun p => some (.bl true)) (l := d) ?_ ?_ (small (by have := v.l8; omega)) ?_]
  · rw [fm_map (fun p => D.bl true), Rs.ok_bind, Rs.ok_bind, allD_map (fun _ => true)]
    simp [restR, wipeR]
    rw [lcE_at Pt.d (fun p => some (.bl p.isB)) (l := d) ?_ ?_ (small (by have := v.l8; omega)) ?_]
    · obtain ⟨p, hp, hb⟩ := v.nb
      have : (d.all Pt.isB) = false := by
        rw [List.all_eq_false]
        exact ⟨p, hp, by simp [hb]⟩
      rw [fm_map, Rs.ok_bind, Rs.ok_bind, allD_map, this]
      simp [restR, wipeR]
    · simp
    · rfl
    · intro p hp
      simp [turnL, yesB, wipeR]
  · simp
  · rfl
  · intro p hp
    simp [turnL, yesB, wipeR, c_is_part (v.ok p hp)]
theorem need_document {d : List Pt} (v : Vd d) : Is f_need_document [docD d] .non := by
  simp [Is, f_need_document, defF, b_need_document, ck1 (is_document v)]
def rulD (r : Int × Int) : D := .tup [.int r.1, .int r.2]
structure Vr (r : Int × Int) : Prop where
  a1 : 1 ≤ r.1
  a3 : r.1 ≤ 3
  b1 : 1 ≤ r.2
  b3 : r.2 ≤ 3
theorem is_rules {r : Int × Int} (v : Vr r) : Is f_is_rules [rulD r] (.bl true) := by
  obtain ⟨f, h⟩ := r
  obtain ⟨h1, h2, h3, h4⟩ := v
  simp only at h1 h2 h3 h4
  simp [Is, f_is_rules, defF, b_is_rules, rulD]
  rw [lcE_at D.int (fun w => some (.bl true)) (l := [f, h]) ?_ ?_ (small (by simp)) ?_]
  · simp [restR, wipeR, allD, blsD]
  · simp
  · rfl
  · intro w hw
    have : w = f ∨ w = h := by simpa using hw
    rcases this with rfl | rfl <;> simp [turnL, yesB, wipeR, h1, h2, h3, h4]
theorem need_rules {r : Int × Int} (v : Vr r) : Is f_need_rules [rulD r] .non := by
  simp [Is, f_need_rules, defF, b_need_rules, ck1 (is_rules v)]
theorem need_both {d : List Pt} {r : Int × Int} (v : Vd d) (vr : Vr r) : Is f_need_both [docD d, rulD r] .non := by
  simp [Is, f_need_both, defF, b_need_both, ck1 (need_document v), ck1 (need_rules vr)]
end MA

set_option maxHeartbeats 4000000
/-! M4: widths, rows, places. -/
namespace MA
open PySem PySem.Spec PyProof.Rows L2 DL PK
theorem forD_inv {α S : Type} {g : FG} {b : FS} (R : S → Rho → Prop) (step : S → α → S) (e : α → D) : ∀ {l : List α} (s : S) (ρ : Rho), R s ρ → (∀ s ρ a, R s ρ → a ∈ l → ∃ ρ', ((g (e a) ρ).bind b) = .ok (.nx ρ') ∧ R (step s a) ρ') → ∃ ρ', forD g b (l.map e) ρ = .ok (.nx ρ') ∧ R (l.foldl step s) ρ'
  | [], s, ρ, hs, _ => ⟨ρ, rfl, hs⟩
  | a :: l, s, ρ, hs, h => by
    obtain ⟨ρ1, h1, h2⟩ := h s ρ a hs List.mem_cons_self
    obtain ⟨ρ2, h3, h4⟩ := forD_inv R step e (l := l) (step s a) ρ1 h2 fun s ρ b hi hb => h s ρ b hi (List.mem_cons_of_mem _ hb)
    refine ⟨ρ2, ?_, h4⟩
    show ((g (e a) ρ).bind fun ρ1 => (b ρ1).bind fun o => match o with
      | .nx ρ2 => forD g b (l.map e) ρ2
      | .rt r ρ2 => .ok (.rt r ρ2)) = _
    rw [← Rs.bind_assoc, h1]
    exact h3
/-! ### words, widths -/
def Pt.ws : Pt → Option (List Int)
  | .txt ws _ _ => some ws
  | _ => none
def wordsIn (d : List Pt) : List (List Int) := d.filterMap Pt.ws
abbrev wD (ws : List Int) : D := .tup (ws.map D.int)
theorem words_in (d : List Pt) (h : d.length ≤ 1000) : Is f_words_in [docD d] (.lst ((wordsIn d).map wD)) := by
  simp [Is, f_words_in, defF, b_words_in, docD]
  rw [lcE_at Pt.d (fun p => p.ws.map wD) (l := d) ?_ ?_ (small h) ?_]
  · have e : d.filterMap (fun p => p.ws.map wD) = (wordsIn d).map wD := by
      unfold wordsIn
      rw [List.map_filterMap]
    rw [e]
    simp [restR, wipeR]
  · simp
  · rfl
  · intro p hp
    cases p <;> simp [turnL, wipeR, Pt.d, Pt.ws]
theorem wordsIn_mem {d : List Pt} {ws : List Int} (h : ws ∈ wordsIn d) : ∃ nx wh, Pt.txt ws nx wh ∈ d := by
  obtain ⟨p, hp, e⟩ := List.mem_filterMap.mp h
  cases p with
  | txt vs nx wh => cases (Option.some.inj e : vs = ws); exact ⟨nx, wh, hp⟩
  | _ => cases e
theorem wordsIn_ok {d : List Pt} (v : Vd d) {ws : List Int} (h : ws ∈ wordsIn d) : 1 ≤ ws.length ∧ ws.length ≤ 12 ∧ ∀ w ∈ ws, 1 ≤ w ∧ w ≤ 9 := by
  obtain ⟨nx, wh, hp⟩ := wordsIn_mem h
  exact v.ok _ hp
theorem wordsIn_len {d : List Pt} : (wordsIn d).length ≤ d.length := List.length_filterMap_le _ _
theorem flat_len : ∀ {l : List (List Int)}, (∀ ws ∈ l, ws.length ≤ 12) → l.flatten.length ≤ 12 * l.length
  | [], _ => by simp
  | a :: l, h => by
    have h1 := h a List.mem_cons_self
    have h2 := flat_len (l := l) fun b hb => h b (List.mem_cons_of_mem _ hb)
    simp only [List.flatten_cons, List.length_append, List.length_cons]
    omega
def least (d : List Pt) : Int := maxI (1 :: (wordsIn d).flatten)
def wideOf (ws : List Int) : Int := ws.sum + (ws.length : Int) - 1
def widest (d : List Pt) : Int := maxI (least d :: (wordsIn d).map wideOf)
@[simp] theorem maxD_ints (n : Int) (ns : List Int) : maxD [.lst (.int n :: ns.map D.int)] = some (.int (maxI (n :: ns))) := by
  have e := intsD_ints (n :: ns)
  show (intsD (.int n :: ns.map D.int)).bind _ = _
  rw [show (D.int n :: ns.map D.int) = (n :: ns).map D.int from rfl, e]
  rfl
@[simp] theorem sumD_tup (ns : List Int) : sumD [.tup (ns.map D.int)] = some (.int ns.sum) := by
  show (intsD (ns.map D.int)).map _ = _
  rw [intsD_ints]
  rfl
@[simp] theorem sumD_lst (ns : List Int) : sumD [.lst (ns.map D.int)] = some (.int ns.sum) := by
  show (intsD (ns.map D.int)).map _ = _
  rw [intsD_ints]
  rfl
theorem fm_id (ws : List Int) : ws.filterMap (fun w => some (D.int w)) = ws.map D.int := fm_map D.int ws
theorem least_width {d : List Pt} (v : Vd d) : Is f_least_width [docD d] (.int (least d)) := by
  have hw := ck1 (ρ := [.da (docD d), .un, .un]) (words_in d (by have := v.l8; omega))
  simp [Is, f_least_width, defF, b_least_width]
  have l8 := v.l8
  have wl := wordsIn_len (d := d)
  rw [lc2E_at wD D.int (fun ws => ws) (fun _ w => some (.int w)) (l := wordsIn d) ?_ ?_ (by omega) ?_]
  · have e : ((wordsIn d).flatMap fun ws => ws.filterMap fun w => some (D.int w)) = (wordsIn d).flatten.map D.int := by
      rw [List.map_flatten, List.flatMap_def]
      congr 1
      exact List.map_congr_left fun ws _ => fm_id ws
    rw [e]
    have hl : (wordsIn d).flatten.length ≤ 12 * (wordsIn d).length := flat_len fun ws h => (wordsIn_ok v h).2.1
    have hb : 1 + (wordsIn d).flatten.length ≤ 16777216 := by omega
    unfold least
    clear e hl
    generalize (wordsIn d).flatten = fl at hb ⊢
    simp [restR, wipeR, hb]
  · simp [hw]
  · rfl
  · intro ws hws
    refine ⟨[.da (docD d), .da (wD ws), .un], by simp [wipeR], by simp [yesB], by simp, by have := (wordsIn_ok v hws).2.1; omega, fun b hb => ?_, by simp [wipeR]⟩
    simp [turnL, yesB, wipeR]
theorem widest_width {d : List Pt} (v : Vd d) : Is f_widest_width [docD d] (.int (widest d)) := by
  have hw := ck1 (ρ := [.da (docD d), .un]) (words_in d (by have := v.l8; omega))
  have hl := ck1 (ρ := [.da (docD d), .un]) (least_width v)
  have l8 := v.l8
  have wl := wordsIn_len (d := d)
  simp [Is, f_widest_width, defF, b_widest_width, hl]
  rw [lcE_at wD (fun ws => some (.int (wideOf ws))) (l := wordsIn d) ?_ ?_ (small (by omega)) ?_]
  · have e : ((wordsIn d).filterMap fun ws => some (D.int (wideOf ws))) = ((wordsIn d).map wideOf).map D.int := by
      rw [fm_map (fun ws => D.int (wideOf ws)), List.map_map]
      rfl
    rw [e]
    have hb : 1 + (wordsIn d).length ≤ 16777216 := by omega
    have e2 := maxD_ints (least d) ((wordsIn d).map wideOf)
    rw [Rs.ok_bind]
    simp only [addD_lst, List.length_cons, List.length_nil, List.length_map, sz]
    rw [if_pos (by omega)]
    simp [restR, wipeR] at e2 ⊢
    simp [e2, widest]
  · simp [hw]
  · rfl
  · intro ws hws
    simp [turnL, yesB, wipeR, wideOf]
theorem need_width_ok {d : List Pt} (v : Vd d) {w : Int} (h : least d ≤ w) (h2 : w ≤ 1000000000) : Is f_need_width [docD d, .int w] .non := by
  have hl := ck1 (ρ := [.da (docD d), .da (.int w)]) (least_width v)
  simp [Is, f_need_width, defF, b_need_width, hl, K_LARGEST, h, h2]
theorem need_width_er {d : List Pt} (v : Vd d) {w : Int} (h : ¬ (least d ≤ w ∧ w ≤ 1000000000)) : Er f_need_width [docD d, .int w] .size := by
  have hl := ck1 (ρ := [.da (docD d), .da (.int w)]) (least_width v)
  have e : (decide (least d ≤ w) && decide (w ≤ 1000000000)) = false := by
    rw [Bool.eq_false_iff]
    intro z
    rw [Bool.and_eq_true, decide_eq_true_eq, decide_eq_true_eq] at z
    exact h z
  simp [Er, f_need_width, defF, b_need_width, hl, K_LARGEST, e]
theorem need_height_ok {h : Int} (h1 : 1 ≤ h) (h2 : h ≤ 1000000000) : Is f_need_height [.int h] .non := by
  simp [Is, f_need_height, defF, b_need_height, K_LARGEST, h1, h2]
theorem narrowest {d : List Pt} (v : Vd d) : Is f_narrowest [docD d] (.int (least d)) := by
  simp [Is, f_narrowest, defF, b_narrowest, ck1 (need_document v), ck1 (least_width v)]
theorem widest_ {d : List Pt} (v : Vd d) : Is f_widest [docD d] (.int (widest d)) := by
  simp [Is, f_widest, defF, b_widest, ck1 (need_document v), ck1 (widest_width v)]
/-! ### rows -/
def rowStep (w : Int) (s : Int × Int) (x : Int) : Int × Int := if s.2 = 0 then (s.1, x) else if s.2 + 1 + x ≤ w then (s.1, s.2 + 1 + x) else (s.1 + 1, x)
def rowCount (w : Int) : Pt → Int
  | .brk => 0
  | .blk n _ => n
  | .txt ws _ _ => (ws.foldl (rowStep w) (1, 0)).1
theorem row_count (p : Pt) (w : Int) : Is f_row_count [p.d, .int w] (.int (rowCount w p)) := by
  cases p with
  | brk => simp [Is, f_row_count, defF, b_row_count, Pt.d, rowCount]
  | blk n nx => simp [Is, f_row_count, defF, b_row_count, Pt.d, rowCount]
  | txt ws nx wh =>
    simp [Is, f_row_count, defF, b_row_count, Pt.d, rowCount]
    obtain ⟨ρ', h1, h2⟩ := forD_inv (g := nameG 4) (b := (ifS (tstB (binE eqE (varE 3) (retE (.int 0)))) (asgS (varE 4) (nameG 3)) (ifS (tstB (binE leD (binE addD (binE addD (varE 3) (retE (.int 1))) (varE 4)) (varE 1))) (asgS (binE addD (binE addD (varE 3) (retE (.int 1))) (varE 4)) (nameG 3)) (parS 2 3 (consA (binE addD (varE 2) (retE (.int 1))) (consA (varE 4) nilA))))))
      (fun (s : Int × Int) ρ => ∃ j, ρ = [.da (.tup [.str sText, wD ws, markD nx wh]), .da (.int w), .da (.int s.1), .da (.int s.2), j]) (rowStep w) D.int (l := ws) (1, 0) [.da (.tup [.str sText, wD ws, markD nx wh]), .da (.int w), .da (.int 1), .da (.int 0), .un] ⟨_, rfl⟩ (by
        rintro ⟨r, u⟩ ρ a ⟨j, rfl⟩ ha
        by_cases h1 : u = 0
        · subst h1
          exact ⟨_, by simp; rfl, _, by simp [rowStep]; rfl⟩
        · by_cases h2 : u + 1 + a ≤ w
          · exact ⟨_, by simp [h1, h2]; rfl, _, by simp [rowStep, h1, h2]; rfl⟩
          · exact ⟨_, by simp [h1, h2]; rfl, _, by simp [rowStep, h1, h2]; rfl⟩)
    obtain ⟨j, rfl⟩ := h2
    rw [h1]
    simp
def counts (d : List Pt) (w : Int) : List Int := d.map (rowCount w)
theorem counts_at (d : List Pt) (w : Int) (h : d.length ≤ 1000) : Is f_counts_at [docD d, .int w] (.lst ((counts d w).map D.int)) := by
  simp [Is, f_counts_at, defF, b_counts_at, docD]
  rw [lcE_at Pt.d (fun p => some (.int (rowCount w p))) (l := d) ?_ ?_ (small h) ?_]
  · have e : d.filterMap (fun p => some (D.int (rowCount w p))) = (counts d w).map D.int := by
      rw [fm_map (fun p => D.int (rowCount w p))]
      unfold counts
      rw [List.map_map]
      rfl
    rw [e]
    simp [restR, wipeR]
  · simp
  · rfl
  · intro p hp
    simp [turnL, yesB, wipeR, ck2 (row_count p w)]
end MA

set_option maxHeartbeats 4000000
/-! M5: rows and places. -/
namespace MA
open PySem PySem.Spec PyProof.Rows L2 DL PK
theorem forD_ix {α : Type} {g : FG} {b : FS} (R : Nat → Rho → Prop) (e : α → D) (l : List α) (ρ : Rho) (h0 : R 0 ρ) (h : ∀ (i : Nat) (ρ : Rho) (a : α), l[i]? = some a → R i ρ → ∃ ρ', ((g (e a) ρ).bind b) = .ok (.nx ρ') ∧ R (i + 1) ρ') : ∃ ρ', forD g b (l.map e) ρ = .ok (.nx ρ') ∧ R l.length ρ' := by
  induction l generalizing R ρ with
  | nil => exact ⟨ρ, rfl, h0⟩
  | cons a l ih =>
    obtain ⟨ρ1, h1, h2⟩ := h 0 ρ a rfl h0
    obtain ⟨ρ2, h3, h4⟩ := ih (fun i => R (i + 1)) ρ1 h2 fun i ρ b e r => h (i + 1) ρ b e r
    refine ⟨ρ2, ?_, h4⟩
    show ((g (e a) ρ).bind fun ρ1 => (b ρ1).bind fun o => match o with
      | .nx ρ2 => forD g b (l.map e) ρ2
      | .rt r ρ2 => .ok (.rt r ρ2)) = _
    rw [← Rs.bind_assoc, h1]
    exact h3
def prI (q : Int × Int) : D := .tup [.int q.1, .int q.2]
def rowsFrom : Nat → List Int → List (Int × Int)
  | _, [] => []
  | k, c :: cs => ((List.range c.toNat).map fun r : Nat => ((k : Int), (r : Int))) ++ rowsFrom (k + 1) cs
theorem rows_flat : ∀ (k : Nat) (cs : List Int), ((cs.zipIdx k).flatMap fun p => (List.range p.1.toNat).filterMap fun r => some (D.tup [.int (p.2 : Nat), .int (0 + (r : Nat))])) = (rowsFrom k cs).map prI
  | _, [] => rfl
  | k, c :: cs => by
    rw [List.zipIdx_cons, List.flatMap_cons, rows_flat (k + 1) cs, fm_map (fun r : Nat => D.tup [.int (k : Nat), .int (0 + (r : Nat))])]
    show _ = ((List.range c.toNat).map (fun r : Nat => ((k : Int), (r : Int))) ++ rowsFrom (k + 1) cs).map prI
    rw [List.map_append, List.map_map]
    congr 1
    exact List.map_congr_left fun r _ => by simp [prI, Function.comp]
theorem rows_with (cs : List Int) (h : cs.length ≤ 1000) (hc : ∀ c ∈ cs, 0 ≤ c ∧ c ≤ 1000) : Is f_rows_with [.lst (cs.map D.int)] (.lst ((rowsFrom 0 cs).map prI)) := by
  simp [Is, f_rows_with, defF, b_rows_with]
  rw [lc2E_at (fun p : Int × Nat => D.tup [.int (p.2 : Nat), .int p.1]) (fun r : Nat => D.int (0 + (r : Nat))) (fun p => List.range p.1.toNat) (fun p r => some (D.tup [.int (p.2 : Nat), .int (0 + (r : Nat))])) (l := cs.zipIdx 0) ?_ ?_ (by rw [List.length_zipIdx]; exact h) ?_]
  · rw [rows_flat]
    simp [restR, wipeR]
  · simp [enum_map]
  · rfl
  · rintro ⟨c, k⟩ hk
    have hm : c ∈ cs := by
      have := List.mem_zipIdx hk
      rw [this.2.2]
      exact List.getElem_mem _
    have hb := hc c hm
    refine ⟨[.da (.lst (cs.map D.int)), .da (.int k), .da (.int c), .un], by simp [wipeR], by simp [yesB], ?_, by rw [List.length_range]; omega, fun r hr => ?_, by simp [wipeR]⟩
    · rw [iterR1_of (j := c) (ρ' := [.da (.lst (cs.map D.int)), .da (.int k), .da (.int c), .un]) (by simp) (by omega), rg_map]
    · simp [turnL, yesB, wipeR]
/-! ### kinds of places -/
def Pt.nx : Pt → Bool
  | .brk => false
  | .blk _ nx => nx
  | .txt _ nx _ => nx
def sliceP (d : List Pt) (i j : Nat) : List Pt := (d.take j).drop i
def insideK (r : Int × Int) (c a2 : Int) : Pt → Option Bool
  | .txt _ _ wh => if wh = false ∧ r.1 ≤ a2 + 1 ∧ r.2 ≤ c - a2 - 1 then some true else none
  | _ => none
/-- of two rows that follow each other: a free place (true), a forced one (false), none -/
def kindAt (d : List Pt) (r : Int × Int) (cs : List Int) (a b : Int × Int) : Option Bool := match d[a.1.toNat]? with
  | none => none
  | some p => if a.1 = b.1 then insideK r ((cs[a.1.toNat]?).getD 0) a.2 p
    else if Pt.brk ∈ sliceP d (a.1.toNat + 1) b.1.toNat then some false
    else if p.nx = true then none else some true
theorem cut_slice {α : Type} (l : List α) (i j : Nat) : (l.drop (min i l.length)).take (min j l.length - min i l.length) = (l.take j).drop i := by
  rw [List.drop_take]
  by_cases h1 : i ≤ l.length
  · rw [Nat.min_eq_left h1]
    by_cases h2 : j ≤ l.length
    · rw [Nat.min_eq_left h2]
    · rw [Nat.min_eq_right (by omega)]
      rw [List.take_of_length_le (by rw [List.length_drop]; omega), List.take_of_length_le (by rw [List.length_drop]; omega)]
  · rw [Nat.min_eq_right (Nat.le_of_lt (Nat.lt_of_not_le h1)), List.drop_length, List.drop_of_length_le (Nat.le_of_lt (Nat.lt_of_not_le h1))]
    simp
theorem cutD_nat {α : Type} (e : α → D) (l : List α) (i j : Nat) : DL.cutD (l.map e) (some (i : Int)) (some (j : Int)) = ((l.take j).drop i).map e := by
  unfold DL.cutD
  rw [HT.sIx_nat, HT.sIx_nat, List.length_map, ← List.map_drop, ← List.map_take, cut_slice]
@[simp] theorem notIn_whole (nx wh : Bool) : notInE (.str sWhole) (markD nx wh) = some (.bl (!wh)) := by cases nx <;> cases wh <;> kernel_rfl
@[simp] theorem notIn_next (nx wh : Bool) : notInE (.str sNext) (markD nx wh) = some (.bl (!nx)) := by cases nx <;> cases wh <;> kernel_rfl
def Pt.isT : Pt → Bool
  | .txt _ _ _ => true
  | _ => false
@[simp] theorem kind_text (p : Pt) : eqE (.str p.kind) (.str sText) = some (.bl p.isT) := by cases p <;> simp [Pt.kind, Pt.isT]
/-- two rows that may follow each other -/
structure Nbr (d : List Pt) (cs : List Int) (a b : Int × Int) : Prop where
  ex : ∃ (i j : Nat) (p : Pt), a.1 = (i : Int) ∧ b.1 = (j : Int) ∧ d[i]? = some p ∧ p.isB = false
  cl : d.length = cs.length
def place (d : List Pt) (r : Int × Int) (cs : List Int) (rs : List (Int × Int)) (k : Bool) (i : Nat) : Bool := match rs[i]?, rs[i + 1]? with
  | some a, some b => decide (kindAt d r cs a b = some k)
  | _, _ => false
def places (d : List Pt) (r : Int × Int) (cs : List Int) (rs : List (Int × Int)) (k : Bool) (n : Nat) : List Int := ((List.range n).filter (place d r cs rs k)).map fun i : Nat => (i : Int) + 1
theorem places_succ (d : List Pt) (r : Int × Int) (cs : List Int) (rs : List (Int × Int)) (k : Bool) (n : Nat) : places d r cs rs k (n + 1) = places d r cs rs k n ++ if place d r cs rs k n = true then [(n : Int) + 1] else [] := by
  unfold places
  rw [List.range_succ, List.filter_append, List.map_append]
  congr 1
  by_cases h : place d r cs rs k n = true <;> simp [h]
theorem places_len (d : List Pt) (r : Int × Int) (cs : List Int) (rs : List (Int × Int)) (k : Bool) (n : Nat) : (places d r cs rs k n).length ≤ n := by
  unfold places
  rw [List.length_map]
  have := List.length_filter_le (place d r cs rs k) (List.range n)
  rw [List.length_range] at this
  exact this
abbrev bodyP : FS := (seqS (asgS (tupE (consA (binE ixD (varE 3) (binE subD (varE 6) (retE (.int 1)))) (consA (binE ixD (varE 3) (varE 6)) nilA))) (tupG 2 (consG (tupG 2 (consG (nameG 7) (consG (nameG 8) nilG))) (consG (tupG 2 (consG (nameG 9) (consG (nameG 10) nilG))) nilG))))
  (ifS (tstB (binE eqE (varE 7) (varE 9))) (seqS (parS 11 12 (consA (binE addD (varE 8) (retE (.int 1))) (consA (binE subD (binE subD (binE ixD (varE 2) (varE 7)) (varE 8)) (retE (.int 1))) nilA)))
  (ifS (andB (tstB (binE eqE (binE ixD (binE ixD (varE 0) (varE 7)) (retE (.int 0))) (retE (.str (PySem.Str.ofString "text"))))) (tstB (binE notInE (retE (.str (PySem.Str.ofString "whole"))) (binE ixD (binE ixD (varE 0) (varE 7)) (retE (.int 2)))))) (ifS (andB (tstB (binE geD (varE 11) (binE ixD (varE 1) (retE (.int 0))))) (tstB (binE geD (varE 12) (binE ixD (varE 1) (retE (.int 1)))))) (asgS (binE addD (varE 4) (lstE (consA (varE 6) nilA))) (nameG 4)) nxS) nxS)) (ifS (tstB (binE inE (tupE (consA (retE (.str (PySem.Str.ofString "break"))) nilA)) (slE (varE 0) (someO (binE addD (varE 7) (retE (.int 1)))) (someO (varE 9))))) (asgS (binE addD (varE 5) (lstE (consA (varE 6) nilA))) (nameG 5)) (ifS (tstB (binE notInE (retE (.str (PySem.Str.ofString "next"))) (binE ixD (binE ixD (varE 0) (varE 7)) (retE (.int 2))))) (asgS (binE addD (varE 4) (lstE (consA (varE 6) nilA))) (nameG 4)) nxS))))

theorem ifS_tt {t : FB} {f g : FS} {ρ ρ1 : Rho} (h : t ρ = .ok (true, ρ1)) : ifS t f g ρ = f ρ1 := by rw [ifS_eq, h]; rfl
theorem ifS_ff {t : FB} {f g : FS} {ρ ρ1 : Rho} (h : t ρ = .ok (false, ρ1)) : ifS t f g ρ = g ρ1 := by rw [ifS_eq, h]; rfl
theorem base_place {d r cs : D} {rs : List (Int × Int)} {i : Nat} {fr fo : D} {p q : Nat} {a2 b2 : Int} (ha : rs[i]? = some ((p : Int), a2)) (hb : rs[i + 1]? = some ((q : Int), b2)) (j6 j7 j8 j9 j10 j11 j12 : Sl) (s : FS) :
   ((nameG 6 (D.int (1 + (i : Nat))) [.da d, .da r, .da cs, .da (.lst (rs.map prI)), .da fr, .da fo, j6, j7, j8, j9, j10, j11, j12]).bind (seqS (asgS (tupE (consA (binE ixD (varE 3) (binE subD (varE 6) (retE (.int 1)))) (consA (binE ixD (varE 3) (varE 6)) nilA))) (tupG 2 (consG (tupG 2 (consG (nameG 7) (consG (nameG 8) nilG))) (consG (tupG 2 (consG (nameG 9) (consG (nameG 10) nilG))) nilG)))) s)) =
      s [.da d, .da r, .da cs, .da (.lst (rs.map prI)), .da fr, .da fo, .da (.int (1 + i)), .da (.int p), .da (.int a2), .da (.int q), .da (.int b2), j11, j12] := by
  have e1 : L2.atI (rs.map prI) (i : Int) = some (prI ((p : Int), a2)) := atNat (by rw [List.getElem?_map, ha]; rfl)
  have e2 : L2.atI (rs.map prI) (1 + (i : Int)) = some (prI ((q : Int), b2)) := by
    rw [show (1 + (i : Int)) = ((i + 1 : Nat) : Int) by omega]
    exact atNat (by rw [List.getElem?_map, hb]; rfl)
  have e3 : (1 + (i : Int) - 1) = (i : Int) := by omega
  generalize rs.map prI = R at *
  simp [e1, e2, e3, prI]

theorem turn_place {d : List Pt} {r : Int × Int} {cs : List Int} {rs : List (Int × Int)} {i : Nat} {a b : Int × Int} (ha : rs[i]? = some a) (hb : rs[i + 1]? = some b) (nb : Nbr d cs a b) (fr fo : List Int) (l1 : fr.length ≤ 1000) (l2 : fo.length ≤ 1000) (j6 j7 j8 j9 j10 j11 j12 : Sl) :
    ∃ k6 k7 k8 k9 k10 k11 k12 : Sl, ((nameG 6 (D.int (1 + (i : Nat))) [.da (docD d), .da (rulD r), .da (.lst (cs.map D.int)), .da (.lst (rs.map prI)), .da (.lst (fr.map D.int)), .da (.lst (fo.map D.int)), j6, j7, j8, j9, j10, j11, j12]).bind bodyP) =
      .ok (.nx [.da (docD d), .da (rulD r), .da (.lst (cs.map D.int)), .da (.lst (rs.map prI)), .da (.lst ((fr ++ if kindAt d r cs a b = some true then [(i : Int) + 1] else []).map D.int)), .da (.lst ((fo ++ if kindAt d r cs a b = some false then [(i : Int) + 1] else []).map D.int)), k6, k7, k8, k9, k10, k11, k12]) := by
  obtain ⟨⟨p, q, P, ea, eb, hp, hB⟩, hcl⟩ := nb
  obtain ⟨a1, a2⟩ := a
  obtain ⟨b1, b2⟩ := b
  simp only at ea eb
  subst ea eb
  have hpl : p < d.length := (List.getElem?_eq_some_iff.mp hp).1
  obtain ⟨c, hc⟩ : ∃ c, cs[p]? = some c := ⟨_, List.getElem?_eq_getElem (by omega)⟩
  have e3 : L2.atI (cs.map D.int) (p : Int) = some (.int c) := atNat (by rw [List.getElem?_map, hc]; rfl)
  have e4 : L2.atI (d.map Pt.d) (p : Int) = some P.d := atNat (by rw [List.getElem?_map, hp]; rfl)
  have e5 : slD (.tup (d.map Pt.d)) (some ((p : Int) + 1)) (some (q : Int)) = some (.tup ((sliceP d (p + 1) q).map Pt.d)) := by
    show some (D.tup (DL.cutD (d.map Pt.d) (some ((p : Int) + 1)) (some (q : Int)))) = _
    rw [show ((p : Int) + 1) = ((p + 1 : Nat) : Int) by omega, cutD_nat]
    rfl
  have e6 : inE (.tup [.str sBreak]) (.tup ((sliceP d (p + 1) q).map Pt.d)) = some (.bl (decide (Pt.brk ∈ sliceP d (p + 1) q))) := encPt.inT (by decide) .brk _
  have z1 : fr.length + 1 ≤ 16777216 := by omega
  have z2 : fo.length + 1 ≤ 16777216 := by omega
  have zz : (1 + (i : Int)) = (i : Int) + 1 := by omega
  have kk : kindAt d r cs ((p : Int), a2) ((q : Int), b2) = if (p : Int) = (q : Int) then insideK r c a2 P
    else if Pt.brk ∈ sliceP d (p + 1) q then some false
    else if P.nx = true then none else some true := by
    unfold kindAt
    simp only [Int.toNat_natCast]
    rw [hp, hc]
    rfl
  rw [base_place ha hb, kk]
  clear kk
  generalize rs.map prI = R at *
  by_cases hpq : p = q
  · subst hpq
    rw [ifS_tt (ρ1 := [.da (docD d), .da (rulD r), .da (.lst (cs.map D.int)), .da (.lst R), .da (.lst (fr.map D.int)), .da (.lst (fo.map D.int)), .da (.int (1 + i)), .da (.int p), .da (.int a2), .da (.int p), .da (.int b2), j11, j12]) (by simp)]
    have st : ∀ s : FS, seqS (parS 11 12 (consA (binE addD (varE 8) (retE (.int 1))) (consA (binE subD (binE subD (binE ixD (varE 2) (varE 7)) (varE 8)) (retE (.int 1))) nilA))) s [.da (docD d), .da (rulD r), .da (.lst (cs.map D.int)), .da (.lst R), .da (.lst (fr.map D.int)), .da (.lst (fo.map D.int)), .da (.int (1 + i)), .da (.int p), .da (.int a2), .da (.int p), .da (.int b2), j11, j12] =
        s [.da (docD d), .da (rulD r), .da (.lst (cs.map D.int)), .da (.lst R), .da (.lst (fr.map D.int)), .da (.lst (fo.map D.int)), .da (.int (1 + i)), .da (.int p), .da (.int a2), .da (.int p), .da (.int b2), .da (.int (a2 + 1)), .da (.int (c - a2 - 1))] := fun s => by simp [e3]
    rw [st]
    clear st
    have hd : docD d = .tup (d.map Pt.d) := rfl
    rw [hd, if_pos rfl]
    generalize d.map Pt.d = DD at *
    cases P with
    | brk => cases hB
    | blk n nx =>
      rw [ifS_ff (ρ1 := [.da (.tup DD), .da (rulD r), .da (.lst (cs.map D.int)), .da (.lst R), .da (.lst (fr.map D.int)), .da (.lst (fo.map D.int)), .da (.int (1 + i)), .da (.int p), .da (.int a2), .da (.int p), .da (.int b2), .da (.int (a2 + 1)), .da (.int (c - a2 - 1))]) (by simp [e4, Pt.isT])]
      exact ⟨_, _, _, _, _, _, _, by simp [insideK]; exact ⟨rfl, rfl, rfl, rfl, rfl, rfl, rfl⟩⟩
    | txt ws nx wh =>
      cases wh with
      | true =>
        rw [ifS_ff (ρ1 := [.da (.tup DD), .da (rulD r), .da (.lst (cs.map D.int)), .da (.lst R), .da (.lst (fr.map D.int)), .da (.lst (fo.map D.int)), .da (.int (1 + i)), .da (.int p), .da (.int a2), .da (.int p), .da (.int b2), .da (.int (a2 + 1)), .da (.int (c - a2 - 1))]) (by simp [e4, Pt.d])]
        exact ⟨_, _, _, _, _, _, _, by simp [insideK]; exact ⟨rfl, rfl, rfl, rfl, rfl, rfl, rfl⟩⟩
      | false =>
        rw [ifS_tt (ρ1 := [.da (.tup DD), .da (rulD r), .da (.lst (cs.map D.int)), .da (.lst R), .da (.lst (fr.map D.int)), .da (.lst (fo.map D.int)), .da (.int (1 + i)), .da (.int p), .da (.int a2), .da (.int p), .da (.int b2), .da (.int (a2 + 1)), .da (.int (c - a2 - 1))]) (by simp [e4, Pt.d])]
        by_cases h1 : r.1 ≤ a2 + 1
        · by_cases h2 : r.2 ≤ c - a2 - 1
          · exact ⟨_, _, _, _, _, _, _, by simp [insideK, rulD, h1, h2, z1, zz]; exact ⟨rfl, rfl, rfl, rfl, rfl, rfl, rfl⟩⟩
          · exact ⟨_, _, _, _, _, _, _, by simp [insideK, rulD, h1, h2]; exact ⟨rfl, rfl, rfl, rfl, rfl, rfl, rfl⟩⟩
        · exact ⟨_, _, _, _, _, _, _, by simp [insideK, rulD, h1]; exact ⟨rfl, rfl, rfl, rfl, rfl, rfl, rfl⟩⟩
  · have hpq2 : ¬ ((p : Int) = (q : Int)) := by omega
    rw [ifS_ff (ρ1 := [.da (docD d), .da (rulD r), .da (.lst (cs.map D.int)), .da (.lst R), .da (.lst (fr.map D.int)), .da (.lst (fo.map D.int)), .da (.int (1 + i)), .da (.int p), .da (.int a2), .da (.int q), .da (.int b2), j11, j12]) (by simp [hpq2])]
    have hd : docD d = .tup (d.map Pt.d) := rfl
    rw [hd, if_neg hpq2]
    by_cases hbr : Pt.brk ∈ sliceP d (p + 1) q
    · generalize d.map Pt.d = DD at *
      rw [ifS_tt (ρ1 := [.da (.tup DD), .da (rulD r), .da (.lst (cs.map D.int)), .da (.lst R), .da (.lst (fr.map D.int)), .da (.lst (fo.map D.int)), .da (.int (1 + i)), .da (.int p), .da (.int a2), .da (.int q), .da (.int b2), j11, j12]) (by simp [e5, e6, hbr])]
      exact ⟨_, _, _, _, _, _, _, by simp [z2, zz, hbr]; exact ⟨rfl, rfl, rfl, rfl, rfl, rfl, rfl⟩⟩
    · generalize d.map Pt.d = DD at *
      rw [ifS_ff (ρ1 := [.da (.tup DD), .da (rulD r), .da (.lst (cs.map D.int)), .da (.lst R), .da (.lst (fr.map D.int)), .da (.lst (fo.map D.int)), .da (.int (1 + i)), .da (.int p), .da (.int a2), .da (.int q), .da (.int b2), j11, j12]) (by simp [e5, e6, hbr])]
      cases P with
      | brk => cases hB
      | blk n nx => cases nx <;> exact ⟨_, _, _, _, _, _, _, by simp [e4, Pt.d, Pt.nx, z1, zz, hbr]; exact ⟨rfl, rfl, rfl, rfl, rfl, rfl, rfl⟩⟩
      | txt ws nx wh => cases nx <;> exact ⟨_, _, _, _, _, _, _, by simp [e4, Pt.d, Pt.nx, z1, zz, hbr]; exact ⟨rfl, rfl, rfl, rfl, rfl, rfl, rfl⟩⟩
end MA

set_option maxHeartbeats 4000000
/-! M6: places, settings, filling. -/
namespace MA
open PySem PySem.Spec PyProof.Rows L2 DL PK
theorem rowsFrom_mem : ∀ {k : Nat} {cs : List Int} {q : Int × Int}, q ∈ rowsFrom k cs → ∃ (i : Nat) (c : Int), q.1 = ((k + i : Nat) : Int) ∧ cs[i]? = some c ∧ 0 ≤ q.2 ∧ q.2 < c
  | _, [], _, h => by cases h
  | k, c :: cs, q, h => by
    rcases List.mem_append.mp (show q ∈ ((List.range c.toNat).map fun r : Nat => ((k : Int), (r : Int))) ++ rowsFrom (k + 1) cs from h) with h | h
    · obtain ⟨r, hr, rfl⟩ := List.mem_map.mp h
      have := List.mem_range.mp hr
      exact ⟨0, c, rfl, rfl, Int.natCast_nonneg _, by show (r : Int) < c; omega⟩
    · obtain ⟨i, c', e1, e2, e3, e4⟩ := rowsFrom_mem h
      exact ⟨i + 1, c', by rw [e1]; congr 1; omega, e2, e3, e4⟩
theorem rowsFrom_len : ∀ {k : Nat} {cs : List Int}, (∀ c ∈ cs, 0 ≤ c) → ((rowsFrom k cs).length : Int) = cs.sum
  | _, [], _ => rfl
  | k, c :: cs, h => by
    have ih := rowsFrom_len (k := k + 1) (cs := cs) fun x hx => h x (List.mem_cons_of_mem _ hx)
    have hc := h c List.mem_cons_self
    show ((((List.range c.toNat).map fun r : Nat => ((k : Int), (r : Int))) ++ rowsFrom (k + 1) cs).length : Int) = (c :: cs).sum
    rw [List.length_append, List.length_map, List.length_range, List.sum_cons, ← ih]
    omega
def freesOf (d : List Pt) (r : Int × Int) (cs : List Int) : List Int := places d r cs (rowsFrom 0 cs) true ((rowsFrom 0 cs).length - 1)
def forcedsOf (d : List Pt) (r : Int × Int) (cs : List Int) : List Int := places d r cs (rowsFrom 0 cs) false ((rowsFrom 0 cs).length - 1)
/-- counts that fit a document -/
structure Cok (d : List Pt) (cs : List Int) : Prop where
  len : d.length = cs.length
  l : d.length ≤ 8
  b : ∀ c ∈ cs, 0 ≤ c ∧ c ≤ 13
  brk : ∀ (i : Nat) (p : Pt) (c : Int), d[i]? = some p → cs[i]? = some c → p.isB = true → c = 0
theorem sum_le {cs : List Int} {m : Int} (h : ∀ c ∈ cs, c ≤ m) : cs.sum ≤ m * cs.length := by
  induction cs with
  | nil => simp
  | cons c cs ih =>
    have h1 := h c List.mem_cons_self
    have h2 := ih fun x hx => h x (List.mem_cons_of_mem _ hx)
    rw [List.sum_cons, List.length_cons]
    have : m * ((cs.length + 1 : Nat) : Int) = m * cs.length + m := by
      rw [Int.natCast_add, Int.mul_add]
      simp
    rw [this]
    omega
theorem Cok.rows {d : List Pt} {cs : List Int} (h : Cok d cs) : ((rowsFrom 0 cs).length : Int) = cs.sum := rowsFrom_len fun c hc => (h.b c hc).1
theorem Cok.sum104 {d : List Pt} {cs : List Int} (h : Cok d cs) : cs.sum ≤ 104 := by
  have := sum_le (m := 13) fun c hc => (h.b c hc).2
  have := h.l
  have := h.len
  omega
theorem Cok.nbr {d : List Pt} {cs : List Int} (h : Cok d cs) {i : Nat} {a b : Int × Int} (ha : (rowsFrom 0 cs)[i]? = some a) (hb : (rowsFrom 0 cs)[i + 1]? = some b) : Nbr d cs a b := by
  obtain ⟨p, c, e1, e2, e3, e4⟩ := rowsFrom_mem (List.mem_of_getElem? ha)
  obtain ⟨q, c', f1, f2, f3, f4⟩ := rowsFrom_mem (List.mem_of_getElem? hb)
  have hp : p < d.length := by rw [h.len]; exact (List.getElem?_eq_some_iff.mp e2).1
  refine ⟨⟨p, q, d[p], by rw [e1]; simp, by rw [f1]; simp, List.getElem?_eq_getElem hp, ?_⟩, h.len⟩
  cases hB : d[p].isB with
  | false => rfl
  | true =>
    have := h.brk p _ c (List.getElem?_eq_getElem hp) e2 hB
    omega
theorem places_loop {d : List Pt} {r : Int × Int} {cs : List Int} (h : Cok d cs) : ∃ j6 j7 j8 j9 j10 j11 j12 : Sl, forD (nameG 6) bodyP ((List.range ((rowsFrom 0 cs).length - 1)).map fun i : Nat => D.int (1 + (i : Nat))) [.da (docD d), .da (rulD r), .da (.lst (cs.map D.int)), .da (.lst ((rowsFrom 0 cs).map prI)), .da (.lst []), .da (.lst []), .un, .un, .un, .un, .un, .un, .un] =
    .ok (.nx [.da (docD d), .da (rulD r), .da (.lst (cs.map D.int)), .da (.lst ((rowsFrom 0 cs).map prI)), .da (.lst ((freesOf d r cs).map D.int)), .da (.lst ((forcedsOf d r cs).map D.int)), j6, j7, j8, j9, j10, j11, j12]) := by
  have hlen := h.len
  have hl := h.l
  have hrw := rows_with cs (by omega) fun c hc => ⟨(h.b c hc).1, by have := (h.b c hc).2; omega⟩
  have hr := h.rows
  have hs := h.sum104
  have key := forD_ix (g := nameG 6) (b := bodyP)
    (fun i ρ => ∃ j6 j7 j8 j9 j10 j11 j12 : Sl, ρ = [.da (docD d), .da (rulD r), .da (.lst (cs.map D.int)), .da (.lst ((rowsFrom 0 cs).map prI)), .da (.lst ((places d r cs (rowsFrom 0 cs) true i).map D.int)), .da (.lst ((places d r cs (rowsFrom 0 cs) false i).map D.int)), j6, j7, j8, j9, j10, j11, j12])
    (fun i : Nat => D.int (1 + (i : Nat))) (List.range ((rowsFrom 0 cs).length - 1))
    [.da (docD d), .da (rulD r), .da (.lst (cs.map D.int)), .da (.lst ((rowsFrom 0 cs).map prI)), .da (.lst []), .da (.lst []), .un, .un, .un, .un, .un, .un, .un] ⟨_, _, _, _, _, _, _, rfl⟩ (by
      rintro i ρ a hi ⟨j6, j7, j8, j9, j10, j11, j12, rfl⟩
      obtain ⟨hi1, hi2⟩ := List.getElem?_eq_some_iff.mp hi
      rw [List.length_range] at hi1
      rw [List.getElem_range] at hi2
      subst hi2
      have l0 : i < (rowsFrom 0 cs).length := by omega
      have l1 : i + 1 < (rowsFrom 0 cs).length := by omega
      have ha := List.getElem?_eq_getElem l0
      have hb := List.getElem?_eq_getElem l1
      have p1 := places_len d r cs (rowsFrom 0 cs) true i
      have p2 := places_len d r cs (rowsFrom 0 cs) false i
      obtain ⟨k6, k7, k8, k9, k10, k11, k12, e⟩ := turn_place (r := r) ha hb (h.nbr ha hb) (places d r cs (rowsFrom 0 cs) true i) (places d r cs (rowsFrom 0 cs) false i) (by omega) (by omega) j6 j7 j8 j9 j10 j11 j12
      refine ⟨_, e, k6, k7, k8, k9, k10, k11, k12, ?_⟩
      have q : ∀ k, place d r cs (rowsFrom 0 cs) k i = decide (kindAt d r cs (rowsFrom 0 cs)[i] (rowsFrom 0 cs)[i + 1] = some k) := fun k => by
        unfold place
        rw [ha, hb]
      rw [places_succ, places_succ, q, q]
      simp only [decide_eq_true_eq])
  obtain ⟨ρ', h1, j6, j7, j8, j9, j10, j11, j12, rfl⟩ := key
  rw [List.length_range] at h1
  exact ⟨j6, j7, j8, j9, j10, j11, j12, h1⟩
theorem places_iter {n : Nat} (hn : n ≤ 104) (A B C : D) (RS : List D) (hR : RS.length = n) : iterR2 (consA (retE (.int 1)) (consA (callE lenD (consA (varE 3) nilA)) nilA)) [.da A, .da B, .da C, .da (.lst RS), .da (.lst []), .da (.lst []), .un, .un, .un, .un, .un, .un, .un] = .ok ((List.range (n - 1)).map fun i : Nat => D.int (1 + (i : Nat)), [.da A, .da B, .da C, .da (.lst RS), .da (.lst []), .da (.lst []), .un, .un, .un, .un, .un, .un, .un]) := by
  have rr : rgD 1 ((n : Int) - 1).toNat = (List.range (n - 1)).map fun i : Nat => D.int (1 + (i : Nat)) := by
    rw [rg_map]
    congr 2
    omega
  rw [iterR2_of (i := 1) (j := (n : Int)) (ρ' := [.da A, .da B, .da C, .da (.lst RS), .da (.lst []), .da (.lst []), .un, .un, .un, .un, .un, .un, .un]) (by simp [hR]) (by omega) (by omega), rr]
theorem forS_of {f : FI} {g : FG} {b : FS} {ρ ρ1 : Rho} {ds : List D} (h : f ρ = .ok (ds, ρ1)) : forS f g b ρ = forD g b ds ρ1 := by rw [forS_eq, h]; rfl
theorem seqS_nx {f g : FS} {ρ ρ1 : Rho} (h : f ρ = .ok (.nx ρ1)) : seqS f g ρ = g ρ1 := by rw [seqS_eq, h]; rfl
theorem seqS_er {f g : FS} {ρ : Rho} {x : Xc} (h : f ρ = .er x) : seqS f g ρ = .er x := by rw [seqS_eq, h]; rfl
theorem seqS_rt {f g : FS} {ρ ρ1 : Rho} {r : Rv} (h : f ρ = .ok (.rt r ρ1)) : seqS f g ρ = .ok (.rt r ρ1) := by rw [seqS_eq, h]; rfl
/-- a def by its body -/
theorem is_of {n m : Nat} {b : FS} {xs : List D} {r : D} {ρ' : Rho} (hn : xs.length = n) (h : b (xs.map Sl.da ++ List.replicate (m - n) .un) = .ok (.rt (.da r) ρ')) (hb : backA (xs.map Sl.da) ρ' = some (xs.map Sl.da)) : Is (defF n m b) xs r := by
  unfold Is defF
  rw [if_pos (by rw [List.length_map]; exact hn), h]
  simp only [Rs.ok_bind, outV_rt, hb, Rs.ofO_some]
theorem er_of {n m : Nat} {b : FS} {xs : List D} {x : Xc} (hn : xs.length = n) (h : b (xs.map Sl.da ++ List.replicate (m - n) .un) = .er x) : Er (defF n m b) xs x := by
  unfold Er defF
  rw [if_pos (by rw [List.length_map]; exact hn), h]
  rfl
theorem is_nx {n m : Nat} {b : FS} {xs : List D} {ρ' : Rho} (hn : xs.length = n) (h : b (xs.map Sl.da ++ List.replicate (m - n) .un) = .ok (.nx ρ')) (hb : backA (xs.map Sl.da) ρ' = some (xs.map Sl.da)) : Is (defF n m b) xs .non := by
  unfold Is defF
  rw [if_pos (by rw [List.length_map]; exact hn), h]
  simp only [Rs.ok_bind, outV_nx, hb, Rs.ofO_some]
theorem places_with {d : List Pt} {r : Int × Int} {cs : List Int} (h : Cok d cs) : Is f_places_with [docD d, rulD r, .lst (cs.map D.int)] (.tup [.lst ((freesOf d r cs).map D.int), .lst ((forcedsOf d r cs).map D.int)]) := by
  have hlen := h.len
  have hl := h.l
  have hrw := rows_with cs (by omega) fun c hc => ⟨(h.b c hc).1, by have := (h.b c hc).2; omega⟩
  have hr := h.rows
  have hs := h.sum104
  obtain ⟨j6, j7, j8, j9, j10, j11, j12, h1⟩ := places_loop (r := r) h
  have it := places_iter (n := (rowsFrom 0 cs).length) (by omega) (docD d) (rulD r) (.lst (cs.map D.int)) ((rowsFrom 0 cs).map prI) (List.length_map _)
  generalize (rowsFrom 0 cs).map prI = RD at *
  generalize docD d = A at *
  generalize rulD r = B at *
  have c1 := ck1 (ρ := [.da A, .da B, .da (.lst (cs.map D.int)), .un, .un, .un, .un, .un, .un, .un, .un, .un, .un]) hrw
  generalize D.lst (cs.map D.int) = C at *
  refine is_of rfl (ρ' := [.da A, .da B, .da C, .da (.lst RD), .da (.lst ((freesOf d r cs).map D.int)), .da (.lst ((forcedsOf d r cs).map D.int)), j6, j7, j8, j9, j10, j11, j12]) ?_ ?_
  · show b_places_with [.da A, .da B, .da C, .un, .un, .un, .un, .un, .un, .un, .un, .un, .un] = _
    refine (seqS_nx (ρ1 := [.da A, .da B, .da C, .da (.lst RD), .un, .un, .un, .un, .un, .un, .un, .un, .un]) (by simp [c1])).trans ?_
    refine (seqS_nx (ρ1 := [.da A, .da B, .da C, .da (.lst RD), .da (.lst []), .da (.lst []), .un, .un, .un, .un, .un, .un, .un]) (by simp)).trans ?_
    refine (seqS_nx ((forS_of it).trans h1)).trans ?_
    simp
  · simp
end MA

set_option maxHeartbeats 4000000
/-! M7: settings, filling. -/
namespace MA
open PySem PySem.Spec PyProof.Rows L2 DL PK
/-! ### settings -/
theorem rowStep_le (w : Int) (s : Int × Int) (x : Int) : s.1 ≤ (rowStep w s x).1 ∧ (rowStep w s x).1 ≤ s.1 + 1 := by
  unfold rowStep
  split
  · exact ⟨Int.le_refl _, by simp only; omega⟩
  · split
    · exact ⟨Int.le_refl _, by simp only; omega⟩
    · exact ⟨by simp only; omega, Int.le_refl _⟩
theorem foldl_rowStep (w : Int) : ∀ (ws : List Int) (s : Int × Int), s.1 ≤ (ws.foldl (rowStep w) s).1 ∧ (ws.foldl (rowStep w) s).1 ≤ s.1 + ws.length
  | [], s => by simp
  | x :: ws, s => by
    have h1 := rowStep_le w s x
    have h2 := foldl_rowStep w ws (rowStep w s x)
    simp only [List.foldl_cons, List.length_cons]
    omega
theorem rowCount_b {p : Pt} (h : p.ok) (w : Int) : 0 ≤ rowCount w p ∧ rowCount w p ≤ 13 ∧ (p.isB = false → 1 ≤ rowCount w p) := by
  cases p with
  | brk => exact ⟨Int.le_refl _, (show (0 : Int) ≤ 13 by decide), fun z => nomatch z⟩
  | blk n nx =>
    have h : 1 ≤ n ∧ n ≤ 9 := h
    refine ⟨?_, ?_, fun _ => ?_⟩ <;> (show _ ≤ _; simp only [rowCount]; omega)
  | txt ws nx wh =>
    obtain ⟨h1, h2, _⟩ := h
    have := foldl_rowStep w ws (1, 0)
    refine ⟨?_, ?_, fun _ => ?_⟩ <;> (show _ ≤ _; simp only [rowCount]; omega)
theorem counts_get {d : List Pt} {w : Int} {i : Nat} : (counts d w)[i]? = (d[i]?).map (rowCount w) := by
  unfold counts
  rw [List.getElem?_map]
theorem cok {d : List Pt} (v : Vd d) (w : Int) : Cok d (counts d w) where
  len := by unfold counts; rw [List.length_map]
  l := v.l8
  b := fun c hc => by
    obtain ⟨p, hp, rfl⟩ := List.mem_map.mp hc
    have := rowCount_b (v.ok p hp) w
    omega
  brk := fun i p c hp hc hb => by
    rw [counts_get, hp] at hc
    cases hc
    cases p with
    | brk => rfl
    | _ => cases hb
structure Scn where
  many : Int
  free : List Int
  stops : List Int
def scnD (s : Scn) : D := .tup [.int s.many, .lst (s.free.map D.int), .lst (s.stops.map D.int)]
def scene (d : List Pt) (r : Int × Int) (w : Int) : Scn := ⟨(counts d w).sum, freesOf d r (counts d w), forcedsOf d r (counts d w) ++ [(counts d w).sum]⟩
theorem setting {d : List Pt} {r : Int × Int} (v : Vd d) (w : Int) : Is f_setting [docD d, rulD r, .int w] (scnD (scene d r w)) := by
  have k := cok v w
  have c1 := ck2 (ρ := [.da (docD d), .da (rulD r), .da (.int w), .un, .un, .un]) (counts_at d w (by have := v.l8; omega))
  have c2 := ck3 (ρ := [.da (docD d), .da (rulD r), .da (.int w), .da (.lst ((counts d w).map D.int)), .un, .un]) (places_with (r := r) k)
  have l2 : (forcedsOf d r (counts d w)).length ≤ 104 := by
    have := places_len d r (counts d w) (rowsFrom 0 (counts d w)) false ((rowsFrom 0 (counts d w)).length - 1)
    have h1 := k.rows
    have h2 := k.sum104
    unfold forcedsOf
    omega
  refine is_of rfl (ρ' := [.da (docD d), .da (rulD r), .da (.int w), .da (.lst ((counts d w).map D.int)), .da (.lst ((freesOf d r (counts d w)).map D.int)), .da (.lst ((forcedsOf d r (counts d w)).map D.int))]) ?_ (by simp)
  show b_setting [.da (docD d), .da (rulD r), .da (.int w), .un, .un, .un] = _
  refine (seqS_nx (ρ1 := [.da (docD d), .da (rulD r), .da (.int w), .da (.lst ((counts d w).map D.int)), .un, .un]) (by simp [c1])).trans ?_
  refine (seqS_nx (ρ1 := [.da (docD d), .da (rulD r), .da (.int w), .da (.lst ((counts d w).map D.int)), .da (.lst ((freesOf d r (counts d w)).map D.int)), .da (.lst ((forcedsOf d r (counts d w)).map D.int))]) (by simp [c2])).trans ?_
  have z : (forcedsOf d r (counts d w)).length + 1 ≤ 16777216 := by omega
  simp [scnD, scene, z]
/-! ### filling -/
def stopOf (s : Scn) (b : Int) : Int := minI (s.stops.filter fun p => decide (b < p))
def goodOf (s : Scn) (h b : Int) : List Int := s.free.filter fun p => decide (b < p) && decide (p ≤ b + h)
structure Fs where
  ends : List Int
  broken : List Int
  b : Int
def fstep (s : Scn) (h : Int) (f : Fs) : Fs :=
  if h < stopOf s f.b - f.b then
    (if goodOf s h f.b = [] then ⟨f.ends ++ [f.b + h], f.broken ++ [(f.ends.length : Int)], f.b + h⟩ else ⟨f.ends ++ [maxI (goodOf s h f.b)], f.broken, maxI (goodOf s h f.b)⟩)
  else ⟨f.ends ++ [stopOf s f.b], f.broken, stopOf s f.b⟩
def fillN (s : Scn) (h : Int) : Nat → Fs → Fs
  | 0, f => f
  | n + 1, f => if f.b < s.many then fillN s h n (fstep s h f) else f
structure Sok (s : Scn) : Prop where
  m0 : 0 ≤ s.many
  m1 : s.many ≤ 104
  fl : s.free.length ≤ 104
  sl : s.stops.length ≤ 105
  last : s.many ∈ s.stops
  le : ∀ p ∈ s.stops, p ≤ s.many
theorem stop_ne {s : Scn} (o : Sok s) {b : Int} (hb : b < s.many) : (s.stops.filter fun p => decide (b < p)) ≠ [] := by
  intro z
  have : s.many ∈ s.stops.filter fun p => decide (b < p) := List.mem_filter.mpr ⟨o.last, decide_eq_true hb⟩
  rw [z] at this
  cases this
theorem stop_gt {s : Scn} (o : Sok s) {b : Int} (hb : b < s.many) : b < stopOf s b ∧ stopOf s b ≤ s.many ∧ stopOf s b ∈ s.stops := by
  have h := minI_mem _ (stop_ne o hb)
  obtain ⟨h1, h2⟩ := List.mem_filter.mp h
  exact ⟨of_decide_eq_true h2, o.le _ h1, h1⟩
theorem good_mem {s : Scn} {h b : Int} (hg : goodOf s h b ≠ []) : b < maxI (goodOf s h b) ∧ maxI (goodOf s h b) ≤ b + h ∧ maxI (goodOf s h b) ∈ s.free := by
  obtain ⟨h1, h2⟩ := List.mem_filter.mp (maxI_mem _ hg)
  rw [Bool.and_eq_true, decide_eq_true_eq, decide_eq_true_eq] at h2
  exact ⟨h2.1, h2.2, h1⟩
theorem fstep_b {s : Scn} (o : Sok s) {h : Int} (hh : 1 ≤ h) {f : Fs} (hb : f.b < s.many) : f.b < (fstep s h f).b ∧ (fstep s h f).b ≤ s.many ∧ (fstep s h f).ends = f.ends ++ [(fstep s h f).b] := by
  have h1 := stop_gt o hb
  unfold fstep
  split
  · split
    · exact ⟨by show f.b < f.b + h; omega, by show f.b + h ≤ s.many; omega, rfl⟩
    · rename_i hc hg
      have h2 := good_mem hg
      exact ⟨h2.1, by show maxI (goodOf s h f.b) ≤ s.many; omega, rfl⟩
  · exact ⟨h1.1, h1.2.1, rfl⟩
theorem fm_filter {α β : Type} (c : α → Bool) (f : α → β) (l : List α) : (l.filterMap fun a => if c a = true then some (f a) else none) = (l.filter c).map f := by
  induction l with
  | nil => rfl
  | cons a l ih => cases h : c a <;> simp [h, ih]
theorem minD_ne {l : List Int} (h : l ≠ []) : minD [.lst (l.map D.int)] = some (.int (minI l)) := by
  show (intsD (l.map D.int)).bind _ = _
  rw [intsD_ints]
  cases l with
  | nil => exact absurd rfl h
  | cons a l => rfl
theorem maxD_ne {l : List Int} (h : l ≠ []) : maxD [.lst (l.map D.int)] = some (.int (maxI l)) := by
  show (intsD (l.map D.int)).bind _ = _
  rw [intsD_ints]
  cases l with
  | nil => exact absurd rfl h
  | cons a l => rfl
theorem ne_nil_int (l : List Int) : neE (.lst (l.map D.int)) (.lst []) = some (.bl (!decide (l = []))) := Enc.int.lst.neE (by decide) l []
theorem eq_nil_int (l : List Int) : eqE (.lst (l.map D.int)) (.lst []) = some (.bl (decide (l = []))) := Enc.int.lst.eqE (by decide) l []
theorem lc_stops (s : Scn) (hl : s.stops.length ≤ 105) (A B C F : D) (E K : D) (b : Int) (j8 j9 : Sl) :
    lcE (iterS (varE 4)) (nameG 10) (tstB (binE gtD (varE 10) (varE 7))) (varE 10) [10] [.da A, .da B, .da C, .da F, .da (.lst (s.stops.map D.int)), .da E, .da K, .da (.int b), j8, j9, .un] =
      .ok (.lst ((s.stops.filter fun p => decide (b < p)).map D.int), [.da A, .da B, .da C, .da F, .da (.lst (s.stops.map D.int)), .da E, .da K, .da (.int b), j8, j9, .un]) := by
  rw [lcE_at D.int (fun p => if decide (b < p) = true then some (.int p) else none) (l := s.stops) (by simp) (by rfl) (small (by omega)) ?_, fm_filter]
  · simp [restR, wipeR]
  · intro p hp
    by_cases h : b < p <;> simp [turnL, wipeR, h]
theorem lc_good (s : Scn) (hl : s.free.length ≤ 104) (A C S : D) (E K : D) (h b : Int) (j8 j9 : Sl) :
    lcE (iterS (varE 3)) (nameG 10) (tstB (chainE ltD leD (varE 7) (varE 10) (binE addD (varE 7) (varE 1)))) (varE 10) [10] [.da A, .da (.int h), .da C, .da (.lst (s.free.map D.int)), .da S, .da E, .da K, .da (.int b), j8, j9, .un] =
      .ok (.lst ((goodOf s h b).map D.int), [.da A, .da (.int h), .da C, .da (.lst (s.free.map D.int)), .da S, .da E, .da K, .da (.int b), j8, j9, .un]) := by
  rw [lcE_at D.int (fun p => if (decide (b < p) && decide (p ≤ b + h)) = true then some (.int p) else none) (l := s.free) (by simp) (by rfl) (small (by omega)) ?_, fm_filter]
  · simp [restR, wipeR, goodOf]
  · intro p hp
    by_cases h1 : b < p <;> by_cases h2 : p ≤ b + h <;> simp [turnL, wipeR, h1, h2]
abbrev bodyF : FS := (seqS (asgS (callE minD (consA (lcE (iterS (varE 4)) (nameG 10) (tstB (binE gtD (varE 10) (varE 7))) (varE 10) [10]) nilA)) (nameG 8))
  (seqS (ifS (tstB (binE gtD (binE subD (varE 8) (varE 7)) (varE 1))) (seqS (asgS (lcE (iterS (varE 3)) (nameG 10) (tstB (chainE ltD leD (varE 7) (varE 10) (binE addD (varE 7) (varE 1)))) (varE 10) [10]) (nameG 9))
  (seqS (asgS (ifE (tstB (binE neE (varE 9) (lstE nilA))) (callE maxD (consA (varE 9) nilA)) (binE addD (varE 7) (varE 1))) (nameG 8))
  (asgS (binE addD (varE 6) (ifE (tstB (binE neE (varE 9) (lstE nilA))) (lstE nilA) (lstE (consA (callE lenD (consA (varE 5) nilA)) nilA)))) (nameG 6)))) nxS)
  (seqS (asgS (binE addD (varE 5) (lstE (consA (varE 8) nilA))) (nameG 5))
  (asgS (varE 8) (nameG 7)))))
def encF (A : D) (s : Scn) (h : Int) (f : Fs) (j8 j9 : Sl) : Rho := [.da A, .da (.int h), .da (.int s.many), .da (.lst (s.free.map D.int)), .da (.lst (s.stops.map D.int)), .da (.lst (f.ends.map D.int)), .da (.lst (f.broken.map D.int)), .da (.int f.b), j8, j9, .un]
theorem turn_fill {s : Scn} (o : Sok s) {h : Int} {f : Fs} (hb : f.b < s.many) (l1 : f.ends.length ≤ 1000) (l2 : f.broken.length ≤ 1000) (A : D) (j8 j9 : Sl) : ∃ k8 k9 : Sl, bodyF (encF A s h f j8 j9) = .ok (.nx (encF A s h (fstep s h f) k8 k9)) := by
  obtain ⟨es, bs, b⟩ := f
  simp only at hb l1 l2
  have z1 : es.length + 1 ≤ 16777216 := by omega
  have z2 : bs.length + 1 ≤ 16777216 := by omega
  have z3 : bs.length ≤ 16777216 := by omega
  have fl := o.fl
  have sl := o.sl
  have e1 := minD_ne (stop_ne o hb)
  have e2 := lc_stops s o.sl A (.int h) (.int s.many) (.lst (s.free.map D.int)) (.lst (es.map D.int)) (.lst (bs.map D.int)) b j8 j9
  unfold encF
  simp only
  have st1 : asgS (callE minD (consA (lcE (iterS (varE 4)) (nameG 10) (tstB (binE gtD (varE 10) (varE 7))) (varE 10) [10]) nilA)) (nameG 8) [.da A, .da (.int h), .da (.int s.many), .da (.lst (s.free.map D.int)), .da (.lst (s.stops.map D.int)), .da (.lst (es.map D.int)), .da (.lst (bs.map D.int)), .da (.int b), j8, j9, .un] =
      .ok (.nx [.da A, .da (.int h), .da (.int s.many), .da (.lst (s.free.map D.int)), .da (.lst (s.stops.map D.int)), .da (.lst (es.map D.int)), .da (.lst (bs.map D.int)), .da (.int b), .da (.int (stopOf s b)), j9, .un]) := by
    simp [e2, e1, stopOf]
  have fs : fstep s h ⟨es, bs, b⟩ = if h < stopOf s b - b then
      (if goodOf s h b = [] then ⟨es ++ [b + h], bs ++ [(es.length : Int)], b + h⟩ else ⟨es ++ [maxI (goodOf s h b)], bs, maxI (goodOf s h b)⟩)
    else ⟨es ++ [stopOf s b], bs, stopOf s b⟩ := rfl
  rw [fs]
  have e3 := lc_good s o.fl A (.int s.many) (.lst (s.stops.map D.int)) (.lst (es.map D.int)) (.lst (bs.map D.int)) h b (.da (.int (stopOf s b))) j9
  generalize stopOf s b = st at *
  have fin : ∀ (K : List Int) (x : Int) (j9 : Sl), (seqS (asgS (binE addD (varE 5) (lstE (consA (varE 8) nilA))) (nameG 5)) (asgS (varE 8) (nameG 7))) [.da A, .da (.int h), .da (.int s.many), .da (.lst (s.free.map D.int)), .da (.lst (s.stops.map D.int)), .da (.lst (es.map D.int)), .da (.lst (K.map D.int)), .da (.int b), .da (.int x), j9, .un] =
      .ok (.nx [.da A, .da (.int h), .da (.int s.many), .da (.lst (s.free.map D.int)), .da (.lst (s.stops.map D.int)), .da (.lst ((es ++ [x]).map D.int)), .da (.lst (K.map D.int)), .da (.int x), .da (.int x), j9, .un]) := fun K x j9 => by
    simp [z1]
  by_cases hc : h < st - b
  · have h9 := ne_nil_int (goodOf s h b)
    by_cases hg : goodOf s h b = []
    · rw [if_pos hc, if_pos hg]
      rw [hg] at h9 e3
      refine ⟨.da (.int (b + h)), .da (.lst []), ?_⟩
      refine (seqS_nx st1).trans ((seqS_nx (ρ1 := [.da A, .da (.int h), .da (.int s.many), .da (.lst (s.free.map D.int)), .da (.lst (s.stops.map D.int)), .da (.lst (es.map D.int)), .da (.lst ((bs ++ [(es.length : Int)]).map D.int)), .da (.int b), .da (.int (b + h)), .da (.lst []), .un]) ?_).trans (fin _ _ _))
      refine (ifS_tt (ρ1 := [.da A, .da (.int h), .da (.int s.many), .da (.lst (s.free.map D.int)), .da (.lst (s.stops.map D.int)), .da (.lst (es.map D.int)), .da (.lst (bs.map D.int)), .da (.int b), .da (.int st), j9, .un]) (by simp [hc])).trans ?_
      refine (seqS_nx (ρ1 := [.da A, .da (.int h), .da (.int s.many), .da (.lst (s.free.map D.int)), .da (.lst (s.stops.map D.int)), .da (.lst (es.map D.int)), .da (.lst (bs.map D.int)), .da (.int b), .da (.int st), .da (.lst []), .un]) (by rw [asgS_eq, e3]; simp)).trans ?_
      have h9' : neE (.lst []) (.lst []) = some (.bl false) := h9
      refine (seqS_nx (ρ1 := [.da A, .da (.int h), .da (.int s.many), .da (.lst (s.free.map D.int)), .da (.lst (s.stops.map D.int)), .da (.lst (es.map D.int)), .da (.lst (bs.map D.int)), .da (.int b), .da (.int (b + h)), .da (.lst []), .un]) (by simp [h9'])).trans ?_
      simp [h9', z2]
    · rw [if_pos hc, if_neg hg]
      have h8 := maxD_ne hg
      have h9' : neE (.lst ((goodOf s h b).map D.int)) (.lst []) = some (.bl true) := by rw [h9]; simp [hg]
      generalize goodOf s h b = G at *
      refine ⟨.da (.int (maxI G)), .da (.lst (G.map D.int)), ?_⟩
      refine (seqS_nx st1).trans ((seqS_nx (ρ1 := [.da A, .da (.int h), .da (.int s.many), .da (.lst (s.free.map D.int)), .da (.lst (s.stops.map D.int)), .da (.lst (es.map D.int)), .da (.lst (bs.map D.int)), .da (.int b), .da (.int (maxI G)), .da (.lst (G.map D.int)), .un]) ?_).trans (fin _ _ _))
      refine (ifS_tt (ρ1 := [.da A, .da (.int h), .da (.int s.many), .da (.lst (s.free.map D.int)), .da (.lst (s.stops.map D.int)), .da (.lst (es.map D.int)), .da (.lst (bs.map D.int)), .da (.int b), .da (.int st), j9, .un]) (by simp [hc])).trans ?_
      refine (seqS_nx (ρ1 := [.da A, .da (.int h), .da (.int s.many), .da (.lst (s.free.map D.int)), .da (.lst (s.stops.map D.int)), .da (.lst (es.map D.int)), .da (.lst (bs.map D.int)), .da (.int b), .da (.int st), .da (.lst (G.map D.int)), .un]) (by rw [asgS_eq, e3]; simp)).trans ?_
      refine (seqS_nx (ρ1 := [.da A, .da (.int h), .da (.int s.many), .da (.lst (s.free.map D.int)), .da (.lst (s.stops.map D.int)), .da (.lst (es.map D.int)), .da (.lst (bs.map D.int)), .da (.int b), .da (.int (maxI G)), .da (.lst (G.map D.int)), .un]) (by simp [h9', h8])).trans ?_
      simp [h9', z3]
  · rw [if_neg hc]
    refine ⟨.da (.int st), j9, ?_⟩
    refine (seqS_nx st1).trans ((seqS_nx (ρ1 := [.da A, .da (.int h), .da (.int s.many), .da (.lst (s.free.map D.int)), .da (.lst (s.stops.map D.int)), .da (.lst (es.map D.int)), .da (.lst (bs.map D.int)), .da (.int b), .da (.int st), j9, .un]) ?_).trans (fin _ _ _))
    exact ifS_ff (by simp [hc])
theorem fstep_len {s : Scn} {h : Int} {f : Fs} : (fstep s h f).broken.length ≤ f.broken.length + 1 ∧ (fstep s h f).ends.length = f.ends.length + 1 := by
  unfold fstep
  split
  · split <;> simp
  · simp
theorem while_fill {s : Scn} (o : Sok s) {h : Int} (hh : 1 ≤ h) (A : D) : ∀ (n : Nat) (f : Fs) (j8 j9 : Sl) (m : Nat), f.b ≤ s.many → (s.many - f.b).toNat ≤ n → (f.ends.length : Int) + (s.many - f.b) ≤ 1000 → (f.broken.length : Int) + (s.many - f.b) ≤ 1000 → n < m →
    ∃ k8 k9 : Sl, whileD (tstB (binE ltD (varE 7) (varE 2))) bodyF m (encF A s h f j8 j9) = .ok (.nx (encF A s h (fillN s h n f) k8 k9))
  | n, f, j8, j9, 0, _, _, _, _, hm => by omega
  | n, f, j8, j9, m + 1, hb, hn, h1, h2, hm => by
    have tst : tstB (binE ltD (varE 7) (varE 2)) (encF A s h f j8 j9) = .ok (decide (f.b < s.many), encF A s h f j8 j9) := by simp [encF]
    have unf : whileD (tstB (binE ltD (varE 7) (varE 2))) bodyF (m + 1) (encF A s h f j8 j9) = ((tstB (binE ltD (varE 7) (varE 2)) (encF A s h f j8 j9)).bind fun r => if r.1 = true then (bodyF r.2).bind fun o => match o with
      | .nx ρ2 => whileD (tstB (binE ltD (varE 7) (varE 2))) bodyF m ρ2
      | .rt r ρ2 => .ok (.rt r ρ2)
      else .ok (.nx r.2)) := rfl
    rw [unf, tst]
    by_cases hlt : f.b < s.many
    · have sb := fstep_b o hh hlt
      have sl := fstep_len (s := s) (h := h) (f := f)
      cases n with
      | zero => omega
      | succ n =>
        obtain ⟨k8, k9, e⟩ := turn_fill o (h := h) hlt (by omega) (by omega) A j8 j9
        obtain ⟨l8, l9, e2⟩ := while_fill o hh A n (fstep s h f) k8 k9 m sb.2.1 (by omega) (by omega) (by omega) (by omega)
        refine ⟨l8, l9, ?_⟩
        have : fillN s h (n + 1) f = fillN s h n (fstep s h f) := if_pos hlt
        rw [this, ← e2]
        simp only [Rs.ok_bind, decide_eq_true hlt, if_true]
        rw [e]
        rfl
    · refine ⟨j8, j9, ?_⟩
      have : fillN s h n f = f := by
        cases n with
        | zero => rfl
        | succ n => exact if_neg hlt
      rw [this]
      simp [hlt]
def fillOf (s : Scn) (h : Int) : Fs := fillN s h s.many.toNat ⟨[], [], 0⟩
def fillD (f : Fs) : D := .tup [.lst (f.ends.map D.int), .lst (f.broken.map D.int)]
theorem filled {s : Scn} (o : Sok s) {h : Int} (hh : 1 ≤ h) : Is f_filled [scnD s, .int h] (fillD (fillOf s h)) := by
  have m0 := o.m0
  have m1 := o.m1
  obtain ⟨k8, k9, e⟩ := while_fill o hh (scnD s) s.many.toNat ⟨[], [], 0⟩ .un .un 1000000 m0 (by simp) (by simp; omega) (by simp; omega) (by omega)
  refine is_of rfl (ρ' := encF (scnD s) s h (fillOf s h) k8 k9) ?_ (by simp [encF])
  show b_filled [.da (scnD s), .da (.int h), .un, .un, .un, .un, .un, .un, .un, .un, .un] = _
  refine (seqS_nx (ρ1 := [.da (scnD s), .da (.int h), .da (.int s.many), .da (.lst (s.free.map D.int)), .da (.lst (s.stops.map D.int)), .un, .un, .un, .un, .un, .un]) (by simp [scnD])).trans ?_
  refine (seqS_nx (ρ1 := encF (scnD s) s h ⟨[], [], 0⟩ .un .un) (by simp [encF])).trans ?_
  refine (seqS_nx e).trans ?_
  unfold fillOf
  simp [encF, fillD]
end MA

set_option maxHeartbeats 4000000
/-! M8: pages and what is counted over them. -/
namespace MA
open PySem PySem.Spec PyProof.Rows L2 DL PK
theorem places_le {d : List Pt} {r : Int × Int} {cs : List Int} {rs : List (Int × Int)} {k : Bool} {n : Nat} {p : Int} (h : p ∈ places d r cs rs k n) : 1 ≤ p ∧ p ≤ n := by
  obtain ⟨i, hi, rfl⟩ := List.mem_map.mp h
  have := List.mem_range.mp (List.mem_filter.mp hi).1
  omega
theorem sok {d : List Pt} {r : Int × Int} (v : Vd d) (w : Int) : Sok (scene d r w) := by
  have k := cok v w
  have hr := k.rows
  have hs := k.sum104
  have h0 : 0 ≤ (counts d w).sum := by omega
  refine ⟨h0, hs, ?_, ?_, ?_, ?_⟩
  · have := places_len d r (counts d w) (rowsFrom 0 (counts d w)) true ((rowsFrom 0 (counts d w)).length - 1)
    show (freesOf d r (counts d w)).length ≤ 104
    unfold freesOf
    omega
  · have := places_len d r (counts d w) (rowsFrom 0 (counts d w)) false ((rowsFrom 0 (counts d w)).length - 1)
    show (forcedsOf d r (counts d w) ++ [(counts d w).sum]).length ≤ 105
    rw [List.length_append, List.length_singleton]
    unfold forcedsOf
    omega
  · show (counts d w).sum ∈ forcedsOf d r (counts d w) ++ [(counts d w).sum]
    simp
  · intro p hp
    rcases List.mem_append.mp (show p ∈ forcedsOf d r (counts d w) ++ [(counts d w).sum] from hp) with h | h
    · have := places_le h
      show p ≤ (counts d w).sum
      omega
    · have : p = (counts d w).sum := by simpa using h
      exact Int.le_of_eq this
/-- what stays true while pages are filled -/
theorem fillN_inv {s : Scn} {h : Int} (P : Fs → Prop) (st : ∀ f, P f → f.b < s.many → P (fstep s h f)) : ∀ (n : Nat) (f : Fs), P f → P (fillN s h n f)
  | 0, f, hf => hf
  | n + 1, f, hf => by
    unfold fillN
    split
    · exact fillN_inv P st n _ (st f hf (by assumption))
    · exact hf
structure Finv (s : Scn) (f : Fs) : Prop where
  l : (f.ends.length : Int) ≤ f.b
  m : f.b ≤ s.many
  k : f.broken.length ≤ f.ends.length
  e : ∀ x ∈ f.ends, 1 ≤ x ∧ x ≤ f.b
theorem fstep_inv {s : Scn} (o : Sok s) {h : Int} (hh : 1 ≤ h) {f : Fs} (i : Finv s f) (hb : f.b < s.many) : Finv s (fstep s h f) := by
  obtain ⟨a, b, c⟩ := fstep_b o hh hb
  have l := fstep_len (s := s) (h := h) (f := f)
  have i1 := i.l
  have i3 := i.k
  refine ⟨by omega, b, by omega, fun x hx => ?_⟩
  rw [c] at hx
  rcases List.mem_append.mp hx with h1 | h1
  · have := i.e x h1
    omega
  · have : x = (fstep s h f).b := by simpa using h1
    omega
theorem finv {s : Scn} (o : Sok s) {h : Int} (hh : 1 ≤ h) : Finv s (fillOf s h) :=
  fillN_inv (Finv s) (fun f i hb => fstep_inv o hh i hb) _ _ ⟨by simp, o.m0, by simp, by simp⟩
theorem ends_len {s : Scn} (o : Sok s) {h : Int} (hh : 1 ≤ h) : (fillOf s h).ends.length ≤ 104 := by
  have i := finv o hh
  have := i.l
  have := i.m
  have := o.m1
  omega
def sheetsOf (es : List Int) : List Int := ((0 :: es).zip es).map fun p => p.2 - p.1
theorem sheets {s : Scn} (o : Sok s) {h : Int} (hh : 1 ≤ h) : Is f_sheets [scnD s, .int h] (.lst ((sheetsOf (fillOf s h).ends).map D.int)) := by
  have c1 := ck2 (ρ := [.da (scnD s), .da (.int h), .un, .un, .un]) (filled o hh)
  have hl := ends_len o hh
  refine is_of rfl (ρ' := [.da (scnD s), .da (.int h), .da (.lst ((fillOf s h).ends.map D.int)), .un, .un]) ?_ (by simp)
  show b_sheets [.da (scnD s), .da (.int h), .un, .un, .un] = _
  refine (seqS_nx (ρ1 := [.da (scnD s), .da (.int h), .da (.lst ((fillOf s h).ends.map D.int)), .un, .un]) (by simp [c1, fillD])).trans ?_
  generalize (fillOf s h).ends = es at *
  have e0 : (D.int 0 :: es.map D.int) = (0 :: es).map D.int := rfl
  have z : 1 + es.length ≤ 16777216 := by omega
  rw [retS_eq, lcE_at (fun p : Int × Int => D.tup [.int p.1, .int p.2]) (fun p => some (.int (p.2 - p.1))) (l := (0 :: es).zip es) ?_ (by rfl) ?_ ?_, fm_map (fun p : Int × Int => D.int (p.2 - p.1))]
  · simp [restR, wipeR, sheetsOf]
  · have it : iterZ (consA (binE addD (lstE (consA (retE (.int 0)) nilA)) (varE 2)) (consA (varE 2) nilA)) [.da (scnD s), .da (.int h), .da (.lst (es.map D.int)), .un, .un] = .ok (pairD (.int 0 :: es.map D.int) (es.map D.int), [.da (scnD s), .da (.int h), .da (.lst (es.map D.int)), .un, .un]) := by
      simp [z]
    rw [it, e0, pair_map]
  · rw [List.length_zip]
    exact small (by omega)
  · rintro ⟨a, b⟩ hp
    simp [turnL, yesB, wipeR]
theorem need_all {d : List Pt} {r : Int × Int} (v : Vd d) (vr : Vr r) {w h : Int} (h1 : least d ≤ w) (h2 : w ≤ 1000000000) (h3 : 1 ≤ h) (h4 : h ≤ 1000000000) : Is f_need_all [docD d, rulD r, .int w, .int h] .non := by
  refine is_nx rfl (ρ' := [.da (docD d), .da (rulD r), .da (.int w), .da (.int h)]) ?_ (by simp)
  show b_need_all [.da (docD d), .da (rulD r), .da (.int w), .da (.int h)] = _
  have c1 := ck2 (ρ := [.da (docD d), .da (rulD r), .da (.int w), .da (.int h)]) (need_both v vr)
  have c2 := ck2 (ρ := [.da (docD d), .da (rulD r), .da (.int w), .da (.int h)]) (need_width_ok v h1 h2)
  have c3 := ck1 (ρ := [.da (docD d), .da (rulD r), .da (.int w), .da (.int h)]) (need_height_ok h3 h4)
  refine (seqS_nx (by simp [c1]; rfl)).trans ((seqS_nx (by simp [c2]; rfl)).trans ?_)
  simp [c3]
section
variable {d : List Pt} {r : Int × Int} (v : Vd d) (vr : Vr r) {w h : Int} (h1 : least d ≤ w) (h2 : w ≤ 1000000000) (h3 : 1 ≤ h) (h4 : h ≤ 1000000000)
include v vr h1 h2 h3 h4
theorem pages : Is f_pages [docD d, rulD r, .int w, .int h] (.lst ((sheetsOf (fillOf (scene d r w) h).ends).map D.int)) := by
  refine is_of rfl (ρ' := [.da (docD d), .da (rulD r), .da (.int w), .da (.int h)]) ?_ (by simp)
  show b_pages [.da (docD d), .da (rulD r), .da (.int w), .da (.int h)] = _
  have c1 := ck4 (ρ := [.da (docD d), .da (rulD r), .da (.int w), .da (.int h)]) (need_all v vr h1 h2 h3 h4)
  have c2 := ck3 (ρ := [.da (docD d), .da (rulD r), .da (.int w), .da (.int h)]) (setting (r := r) v w)
  have c3 := ck2 (ρ := [.da (docD d), .da (rulD r), .da (.int w), .da (.int h)]) (sheets (sok (r := r) v w) h3)
  refine (seqS_nx (by simp [c1]; rfl)).trans ?_
  simp [c2, c3]
theorem torn : Is f_torn [docD d, rulD r, .int w, .int h] (.lst ((fillOf (scene d r w) h).broken.map D.int)) := by
  refine is_of rfl (ρ' := [.da (docD d), .da (rulD r), .da (.int w), .da (.int h)]) ?_ (by simp)
  show b_torn [.da (docD d), .da (rulD r), .da (.int w), .da (.int h)] = _
  have c1 := ck4 (ρ := [.da (docD d), .da (rulD r), .da (.int w), .da (.int h)]) (need_all v vr h1 h2 h3 h4)
  have c2 := ck3 (ρ := [.da (docD d), .da (rulD r), .da (.int w), .da (.int h)]) (setting (r := r) v w)
  have c3 := ck2 (ρ := [.da (docD d), .da (rulD r), .da (.int w), .da (.int h)]) (filled (sok (r := r) v w) h3)
  refine (seqS_nx (by simp [c1]; rfl)).trans ?_
  simp [c2, c3, fillD]
end
/-- the rows that the pages begin with -/
def firstsOf (es : List Int) : List Int := 0 :: es.dropLast
theorem cut_last (es : List Int) : DL.cutD (es.map D.int) none (some (-1)) = es.dropLast.map D.int := by
  have e : HT.sIx es.length es.length (some (-1)) = es.length - 1 := by
    show (if (-1 : Int) < 0 then ((-1 : Int) + (es.length : Int)).toNat else min (-1 : Int).toNat es.length) = _
    rw [if_pos (by omega)]
    omega
  unfold DL.cutD
  rw [List.length_map, e]
  show ((es.map D.int).drop 0).take (es.length - 1 - 0) = _
  rw [List.drop_zero, Nat.sub_zero, List.dropLast_eq_take, List.map_take]
/-- where each page but the first begins lies within -/
structure Flast (s : Scn) (f : Fs) : Prop where
  lt : ∀ x ∈ f.ends.dropLast, 1 ≤ x ∧ x < s.many
  b0 : f.ends = [] → f.b = 0
  bl : f.ends ≠ [] → f.ends.getLast? = some f.b
theorem flast {s : Scn} (o : Sok s) {h : Int} (hh : 1 ≤ h) : Flast s (fillOf s h) ∧ Finv s (fillOf s h) := by
  refine fillN_inv (fun f => Flast s f ∧ Finv s f) (fun f i hb => ⟨?_, fstep_inv o hh i.2 hb⟩) _ _ ⟨⟨by simp, fun _ => rfl, fun z => absurd rfl z⟩, ⟨by simp, o.m0, by simp, by simp⟩⟩
  obtain ⟨a, b, c⟩ := fstep_b o hh hb
  refine ⟨fun x hx => ?_, fun z => ?_, fun _ => by rw [c, List.getLast?_concat]⟩
  · rw [c, List.dropLast_concat] at hx
    have := i.2.e x hx
    omega
  · rw [c] at z
    simp at z
theorem begins {d : List Pt} {r : Int × Int} (v : Vd d) (vr : Vr r) {w h : Int} (h1 : least d ≤ w) (h2 : w ≤ 1000000000) (h3 : 1 ≤ h) (h4 : h ≤ 1000000000) (hm : 1 ≤ (counts d w).sum) :
    Is f_begins [docD d, rulD r, .int w, .int h] (.lst (((firstsOf (fillOf (scene d r w) h).ends).map fun b => ((rowsFrom 0 (counts d w))[b.toNat]?).getD (0, 0)).map prI)) := by
  have k := cok v w
  have hrw := rows_with (counts d w) (by have := k.len; have := k.l; omega) fun c hc => ⟨(k.b c hc).1, by have := (k.b c hc).2; omega⟩
  have o := sok (r := r) v w
  have fl := (flast o h3).1
  have hl := ends_len o h3
  have hr := k.rows
  have c1 := ck4 (ρ := [.da (docD d), .da (rulD r), .da (.int w), .da (.int h), .un, .un]) (need_all v vr h1 h2 h3 h4)
  have c2 := ck2 (ρ := [.da (docD d), .da (rulD r), .da (.int w), .da (.int h), .un, .un]) (counts_at d w (by have := v.l8; omega))
  have c3 := ck1 (ρ := [.da (docD d), .da (rulD r), .da (.int w), .da (.int h), .un, .un]) hrw
  have c4 := ck3 (ρ := [.da (docD d), .da (rulD r), .da (.int w), .da (.int h), .da (.lst ((rowsFrom 0 (counts d w)).map prI)), .un]) (setting (r := r) v w)
  have c5 := ck2 (ρ := [.da (docD d), .da (rulD r), .da (.int w), .da (.int h), .da (.lst ((rowsFrom 0 (counts d w)).map prI)), .un]) (filled o h3)
  refine is_of rfl (ρ' := [.da (docD d), .da (rulD r), .da (.int w), .da (.int h), .da (.lst ((rowsFrom 0 (counts d w)).map prI)), .un]) ?_ (by simp)
  show b_begins [.da (docD d), .da (rulD r), .da (.int w), .da (.int h), .un, .un] = _
  refine (seqS_nx (ρ1 := [.da (docD d), .da (rulD r), .da (.int w), .da (.int h), .un, .un]) (by simp [c1])).trans ?_
  refine (seqS_nx (ρ1 := [.da (docD d), .da (rulD r), .da (.int w), .da (.int h), .da (.lst ((rowsFrom 0 (counts d w)).map prI)), .un]) (by simp [c2, c3])).trans ?_
  have many : (scene d r w).many = (counts d w).sum := rfl
  have fb : ∀ x ∈ firstsOf (fillOf (scene d r w) h).ends, 0 ≤ x ∧ x < (counts d w).sum := fun x hx => by
    rcases List.mem_cons.mp hx with rfl | hx
    · omega
    · have := fl.lt x hx
      omega
  have lb : (firstsOf (fillOf (scene d r w) h).ends).length ≤ 105 := by
    show ((fillOf (scene d r w) h).ends.dropLast).length + 1 ≤ 105
    rw [List.length_dropLast]
    omega
  rw [retS_eq, lcE_at D.int (fun b => some (prI (((rowsFrom 0 (counts d w))[b.toNat]?).getD (0, 0)))) (l := firstsOf (fillOf (scene d r w) h).ends) ?_ (by rfl) (small (by omega)) ?_, fm_map (fun b : Int => prI (((rowsFrom 0 (counts d w))[b.toNat]?).getD (0, 0)))]
  · rw [List.map_map]
    rfl
  · have z : 1 + ((fillOf (scene d r w) h).ends.length - 1) ≤ 16777216 := by omega
    have sl : slD (.lst ((fillOf (scene d r w) h).ends.map D.int)) none (some (-1)) = some (.lst ((fillOf (scene d r w) h).ends.dropLast.map D.int)) := by
      show some (D.lst (DL.cutD _ none (some (-1)))) = _
      rw [cut_last]
    simp [c4, c5, fillD]
    rw [sl]
    simp [z, firstsOf]
  · intro b hb
    obtain ⟨b0, b1⟩ := fb b hb
    have lt : b.toNat < (rowsFrom 0 (counts d w)).length := by omega
    have e : L2.atI ((rowsFrom 0 (counts d w)).map prI) b = some (prI (((rowsFrom 0 (counts d w))[b.toNat]?).getD (0, 0))) := by
      obtain ⟨n, rfl⟩ : ∃ n : Nat, b = (n : Int) := ⟨b.toNat, by omega⟩
      rw [Int.toNat_natCast] at lt ⊢
      exact atNat (by rw [List.getElem?_map, List.getElem?_eq_getElem lt]; rfl)
    generalize (rowsFrom 0 (counts d w)).map prI = R at *
    simp [turnL, yesB, wipeR, e]
theorem rows_at {d : List Pt} (v : Vd d) {w : Int} (h1 : least d ≤ w) (h2 : w ≤ 1000000000) : Is f_rows_at [docD d, .int w] (.lst ((rowsFrom 0 (counts d w)).map prI)) := by
  have k := cok v w
  have hrw := rows_with (counts d w) (by have := k.len; have := k.l; omega) fun c hc => ⟨(k.b c hc).1, by have := (k.b c hc).2; omega⟩
  refine is_of rfl (ρ' := [.da (docD d), .da (.int w)]) ?_ (by simp)
  show b_rows_at [.da (docD d), .da (.int w)] = _
  have c1 := ck1 (ρ := [.da (docD d), .da (.int w)]) (need_document v)
  have c2 := ck2 (ρ := [.da (docD d), .da (.int w)]) (need_width_ok v h1 h2)
  have c3 := ck2 (ρ := [.da (docD d), .da (.int w)]) (counts_at d w (by have := v.l8; omega))
  have c4 := ck1 (ρ := [.da (docD d), .da (.int w)]) hrw
  refine (seqS_nx (by simp [c1]; rfl)).trans ((seqS_nx (by simp [c2]; rfl)).trans ?_)
  simp [c3, c4]
/-! ### numbers of pages -/
def numsOf (s : Scn) : List Int := (List.range s.many.toNat).map fun i : Nat => ((fillOf s (1 + (i : Int))).ends.length : Int)
theorem numbers_of {s : Scn} (o : Sok s) : Is f_numbers_of [scnD s] (.lst ((numsOf s).map D.int)) := by
  have m0 := o.m0
  have m1 := o.m1
  refine is_of rfl (ρ' := [.da (scnD s), .un]) ?_ (by simp)
  show b_numbers_of [.da (scnD s), .un] = _
  unfold b_numbers_of
  rw [retS_eq, lcE_at (fun i : Nat => D.int (1 + (i : Nat))) (fun i => some (.int ((fillOf s (1 + (i : Int))).ends.length : Int))) (l := List.range s.many.toNat) ?_ (by rfl) (small (by rw [List.length_range]; omega)) ?_, fm_map (fun i : Nat => D.int ((fillOf s (1 + (i : Int))).ends.length : Int))]
  · unfold numsOf
    rw [List.map_map]
    rfl
  · rw [iterR2_of (i := 1) (j := s.many + 1) (ρ' := [.da (scnD s), .un]) (by simp [scnD]) (by omega) (by omega), rg_map]
    rw [show (s.many + 1 - 1) = s.many by omega]
  · intro i hi
    have c := ck2 (ρ := [.da (scnD s), .da (.int (1 + (i : Int)))]) (filled o (h := 1 + (i : Int)) (by omega))
    simp [turnL, yesB, wipeR, c, fillD]
@[simp] theorem lstF_eq {fas : Rho → Rs (List D × Rho)} {ρ : Rho} : lstF fas ρ = (fas ρ).bind fun r => if r.1.length ≤ sizeLine then .ok (r.1, r.2) else .no := rfl
@[simp] theorem setF_eq {i : Nat} {fa : Rho → Rs (List D × Rho)} {ρ : Rho} : setF i fa ρ = (fa ρ).bind fun r => .ok (.nx (r.2.set i (.mu (.lst r.1)))) := rfl
@[simp] theorem appS_eq {i : Nat} {fa : FE} {ρ : Rho} : appS i fa ρ = if isL ρ[i]? = true then (fa ρ).bind fun r => match r.2[i]? with
    | some (.mu (.lst ds)) => if ds.length < sizeLine then .ok (.nx (r.2.set i (.mu (.lst (ds ++ [r.1]))))) else .no
    | _ => .no
  else .no := rfl
@[simp] theorem isL_mu (ds : List D) : isL (some (.mu (.lst ds))) = true := rfl
@[simp] theorem moveE_eq {i : Nat} {ρ : Rho} : moveE i ρ = match ρ[i]? with
  | some (.mu (.lst ds)) => .ok (.lst ds, ρ.set i .un)
  | _ => .no := rfl
def newNum (ns : List Int) (i : Nat) : Bool := decide (i = 0) || !decide (ns[i - 1]? = ns[i]?)
def pcN (ns : List Int) (n : Nat) : List (Int × Int) := ((List.range n).filter (newNum ns)).map fun i : Nat => ((i : Int) + 1, (ns[i]?).getD 0)
theorem pcN_succ (ns : List Int) (n : Nat) : pcN ns (n + 1) = pcN ns n ++ if newNum ns n = true then [((n : Int) + 1, (ns[n]?).getD 0)] else [] := by
  unfold pcN
  rw [List.range_succ, List.filter_append, List.map_append]
  congr 1
  by_cases h : newNum ns n = true <;> simp [h]
theorem pcN_len (ns : List Int) (n : Nat) : (pcN ns n).length ≤ n := by
  unfold pcN
  rw [List.length_map]
  have := List.length_filter_le (newNum ns) (List.range n)
  rw [List.length_range] at this
  exact this
theorem page_counts {d : List Pt} {r : Int × Int} (v : Vd d) (vr : Vr r) {w : Int} (h1 : least d ≤ w) (h2 : w ≤ 1000000000) : Is f_page_counts [docD d, rulD r, .int w] (.lst ((pcN (numsOf (scene d r w)) (numsOf (scene d r w)).length).map prI)) := by
  have o := sok (r := r) v w
  have c1 := ck2 (ρ := [.da (docD d), .da (rulD r), .da (.int w), .un, .un, .un, .un]) (need_both v vr)
  have c2 := ck2 (ρ := [.da (docD d), .da (rulD r), .da (.int w), .un, .un, .un, .un]) (need_width_ok v h1 h2)
  have c3 := ck3 (ρ := [.da (docD d), .da (rulD r), .da (.int w), .un, .un, .un, .un]) (setting (r := r) v w)
  have c4 := ck1 (ρ := [.da (docD d), .da (rulD r), .da (.int w), .un, .un, .un, .un]) (numbers_of o)
  have nl : (numsOf (scene d r w)).length ≤ 104 := by
    unfold numsOf
    rw [List.length_map, List.length_range]
    have := o.m1
    omega
  generalize numsOf (scene d r w) = ns at *
  have loop := forD_ix (g := tupG 2 (consG (nameG 5) (consG (nameG 6) nilG))) (b := ifS (orB (tstB (binE eqE (varE 5) (retE (.int 0)))) (tstB (binE neE (binE ixD (varE 3) (binE subD (varE 5) (retE (.int 1)))) (varE 6)))) (appS 4 (tupE (consA (binE addD (varE 5) (retE (.int 1))) (consA (varE 6) nilA)))) nxS)
    (fun i ρ => ∃ j5 j6 : Sl, ρ = [.da (docD d), .da (rulD r), .da (.int w), .da (.lst (ns.map D.int)), .mu (.lst ((pcN ns i).map prI)), j5, j6])
    (fun p : Int × Nat => D.tup [.int (p.2 : Nat), .int p.1]) (ns.zipIdx 0) [.da (docD d), .da (rulD r), .da (.int w), .da (.lst (ns.map D.int)), .mu (.lst []), .un, .un] ⟨_, _, rfl⟩ (by
      rintro i ρ ⟨x, k⟩ hi ⟨j5, j6, rfl⟩
      rw [List.getElem?_zipIdx] at hi
      obtain ⟨x', hx, e⟩ := Option.map_eq_some_iff.mp hi
      have e1 : x' = x := congrArg Prod.fst e
      have e2 : 0 + i = k := congrArg Prod.snd e
      subst e1
      have e2 : k = i := by omega
      subst e2
      have hk := (List.getElem?_eq_some_iff.mp hx).1
      have pl := pcN_len ns k
      have z : (pcN ns k).length < 16777216 := by omega
      rw [pcN_succ]
      by_cases k0 : k = 0
      · subst k0
        refine ⟨_, ?_, .da (.int 0), .da (.int x'), rfl⟩
        simp [newNum, hx, z, prI]
      · have ea : L2.atI (ns.map D.int) ((k : Int) - 1) = some (.int ((ns[k - 1]?).getD 0)) := by
          rw [show ((k : Int) - 1) = ((k - 1 : Nat) : Int) by omega]
          have lt : k - 1 < ns.length := by omega
          exact atNat (by rw [List.getElem?_map, List.getElem?_eq_getElem lt]; rfl)
        have lt : k - 1 < ns.length := by omega
        have k0' : ¬ ((k : Int) = 0) := by omega
        have nn : newNum ns k = !decide ((ns[k - 1]?).getD 0 = x') := by
          unfold newNum
          rw [hx, List.getElem?_eq_getElem lt]
          simp [k0]
        rw [nn]
        by_cases hne : (ns[k - 1]?).getD 0 = x'
        · refine ⟨_, ?_, .da (.int k), .da (.int x'), rfl⟩
          simp [k0, ea, hne]
        · refine ⟨_, ?_, .da (.int k), .da (.int x'), rfl⟩
          simp [k0, ea, hne, z, hx, prI])
  obtain ⟨ρ', e, j5, j6, rfl⟩ := loop
  rw [List.length_zipIdx] at e
  refine is_of rfl (ρ' := [.da (docD d), .da (rulD r), .da (.int w), .da (.lst (ns.map D.int)), .un, j5, j6]) ?_ (by simp)
  show b_page_counts [.da (docD d), .da (rulD r), .da (.int w), .un, .un, .un, .un] = _
  refine (seqS_nx (ρ1 := [.da (docD d), .da (rulD r), .da (.int w), .un, .un, .un, .un]) (by simp [c1])).trans ?_
  refine (seqS_nx (ρ1 := [.da (docD d), .da (rulD r), .da (.int w), .un, .un, .un, .un]) (by simp [c2])).trans ?_
  refine (seqS_nx (ρ1 := [.da (docD d), .da (rulD r), .da (.int w), .da (.lst (ns.map D.int)), .un, .un, .un]) (by simp [c3, c4])).trans ?_
  refine (seqS_nx (ρ1 := [.da (docD d), .da (rulD r), .da (.int w), .da (.lst (ns.map D.int)), .mu (.lst []), .un, .un]) (by simp)).trans ?_
  refine (seqS_nx ((forS_of (by simp [enum_map])).trans e)).trans ?_
  simp
end MA

set_option maxHeartbeats 4000000
/-! M9: whole heights, sizes, likeness. -/
namespace MA
open PySem PySem.Spec PyProof.Rows L2 DL PK
def wholeN (s : Scn) : Nat → Int → Int
  | 0, h => h
  | n + 1, h => if 1 < h ∧ (fillOf s (h - 1)).broken = [] then wholeN s n (h - 1) else h
def whole (s : Scn) : Int := wholeN s s.many.toNat s.many
abbrev testW : FB := andB (tstB (binE gtD (varE 1) (retE (.int 1)))) (tstB (binE eqE (binE ixD (callD f_filled (consAr (varE 0) (consAr (binE subD (varE 1) (retE (.int 1))) nilAr))) (retE (.int 1))) (lstE nilA)))
abbrev bodyW : FS := asgS (binE subD (varE 1) (retE (.int 1))) (nameG 1)
theorem while_whole {s : Scn} (o : Sok s) : ∀ (n : Nat) (h : Int) (m : Nat), h.toNat ≤ n → n < m → whileD testW bodyW m [.da (scnD s), .da (.int h)] = .ok (.nx [.da (scnD s), .da (.int (wholeN s n h))])
  | n, h, 0, _, hm => by omega
  | n, h, m + 1, hn, hm => by
    have unf : whileD testW bodyW (m + 1) [.da (scnD s), .da (.int h)] = ((testW [.da (scnD s), .da (.int h)]).bind fun r => if r.1 = true then (bodyW r.2).bind fun o => match o with
      | .nx ρ2 => whileD testW bodyW m ρ2
      | .rt r ρ2 => .ok (.rt r ρ2)
      else .ok (.nx r.2)) := rfl
    have tst : testW [.da (scnD s), .da (.int h)] = .ok (decide (1 < h ∧ (fillOf s (h - 1)).broken = []), [.da (scnD s), .da (.int h)]) := by
      by_cases h1 : 1 < h
      · have c := ck2 (ρ := [.da (scnD s), .da (.int h)]) (filled o (h := h - 1) (by omega))
        have e := eq_nil_int (fillOf s (h - 1)).broken
        simp [h1, c, fillD, e]
      · simp [h1]
    rw [unf, tst]
    by_cases hc : 1 < h ∧ (fillOf s (h - 1)).broken = []
    · cases n with
      | zero => omega
      | succ n =>
        have ih := while_whole o n (h - 1) m (by omega) (by omega)
        have : wholeN s (n + 1) h = wholeN s n (h - 1) := if_pos hc
        rw [this, ← ih]
        simp only [Rs.ok_bind, decide_eq_true hc, if_true]
        simp
    · have : wholeN s n h = h := by
        cases n with
        | zero => rfl
        | succ n => exact if_neg hc
      rw [this]
      simp [hc]
theorem whole_height {s : Scn} (o : Sok s) : Is f_whole_height [scnD s] (.int (whole s)) := by
  have m1 := o.m1
  refine is_of rfl (ρ' := [.da (scnD s), .da (.int (whole s))]) ?_ (by simp)
  show b_whole_height [.da (scnD s), .un] = _
  refine (seqS_nx (ρ1 := [.da (scnD s), .da (.int s.many)]) (by simp [scnD])).trans ?_
  refine (seqS_nx (while_whole o s.many.toNat s.many 1000000 (Nat.le_refl _) (by omega))).trans ?_
  simp [whole]
/-! ### all widths -/
theorem least_b {d : List Pt} (v : Vd d) : 1 ≤ least d ∧ least d ≤ 9 := by
  have h1 : 1 ≤ least d := maxI_ge _ 1 List.mem_cons_self
  refine ⟨h1, ?_⟩
  have h2 := maxI_mem (1 :: (wordsIn d).flatten) (by simp)
  rcases List.mem_cons.mp h2 with h | h
  · show maxI _ ≤ 9
    omega
  · obtain ⟨ws, hws, hw⟩ := List.mem_flatten.mp h
    have := (wordsIn_ok v hws).2.2 _ hw
    exact this.2
theorem widest_b {d : List Pt} (v : Vd d) : least d ≤ widest d ∧ widest d ≤ 119 := by
  refine ⟨maxI_ge _ _ List.mem_cons_self, ?_⟩
  have h2 := maxI_mem (least d :: (wordsIn d).map wideOf) (by simp)
  rcases List.mem_cons.mp h2 with h | h
  · have := least_b v
    show maxI _ ≤ 119
    omega
  · obtain ⟨ws, hws, e⟩ := List.mem_map.mp h
    obtain ⟨a, b, c⟩ := wordsIn_ok v hws
    have hs := sum_le (cs := ws) (m := 9) fun x hx => (c x hx).2
    show maxI _ ≤ 119
    rw [← e]
    unfold wideOf
    omega
def nWid (d : List Pt) : Nat := (widest d + 1 - least d).toNat
theorem all_widths {d : List Pt} (v : Vd d) : Is f_all_widths [docD d] (.lst ((List.range (nWid d)).map fun i : Nat => D.int (least d + (i : Nat)))) := by
  have l := least_b v
  have b := widest_b v
  have c1 := ck1 (ρ := [.da (docD d)]) (least_width v)
  have c2 := ck1 (ρ := [.da (docD d)]) (widest_width v)
  refine is_of rfl (ρ' := [.da (docD d)]) ?_ (by simp)
  show b_all_widths [.da (docD d)] = _
  have e : listRgE (callD f_least_width (consAr (varE 0) nilAr)) (binE addD (callD f_widest_width (consAr (varE 0) nilAr)) (retE (.int 1))) [.da (docD d)] = .ok (.lst (rgD (least d) (nWid d)), [.da (docD d)]) := by
    have a1 : callD f_least_width (consAr (varE 0) nilAr) [.da (docD d)] = .ok (.int (least d), [.da (docD d)]) := by simp [c1]
    have a2 : binE addD (callD f_widest_width (consAr (varE 0) nilAr)) (retE (.int 1)) [.da (docD d)] = .ok (.int (widest d + 1), [.da (docD d)]) := by simp [c2]
    unfold listRgE
    rw [a1, Rs.ok_bind, a2, Rs.ok_bind]
    exact if_pos ⟨by omega, by omega, by omega, by omega, by omega⟩
  unfold b_all_widths
  rw [retS_eq, e]
  rfl
def safe (d : List Pt) (r : Int × Int) : Int := maxI ((List.range (nWid d)).map fun i : Nat => whole (scene d r (least d + (i : Int))))
theorem safe_height {d : List Pt} {r : Int × Int} (v : Vd d) (vr : Vr r) : Is f_safe_height [docD d, rulD r] (.int (safe d r)) := by
  have l := least_b v
  have b := widest_b v
  have nw : nWid d ≤ 119 ∧ 1 ≤ nWid d := by unfold nWid; omega
  have c1 := ck2 (ρ := [.da (docD d), .da (rulD r), .un]) (need_both v vr)
  have c2 := ck1 (ρ := [.da (docD d), .da (rulD r), .un]) (all_widths v)
  refine is_of rfl (ρ' := [.da (docD d), .da (rulD r), .un]) ?_ (by simp)
  show b_safe_height [.da (docD d), .da (rulD r), .un] = _
  refine (seqS_nx (ρ1 := [.da (docD d), .da (rulD r), .un]) (by simp [c1])).trans ?_
  have lc : lcE (iterS (callD f_all_widths (consAr (varE 0) nilAr))) (nameG 2) yesB (callD f_whole_height (consAr (callD f_setting (consAr (varE 0) (consAr (varE 1) (consAr (varE 2) nilAr)))) nilAr)) [2] [.da (docD d), .da (rulD r), .un] =
      .ok (.lst (((List.range (nWid d)).map fun i : Nat => whole (scene d r (least d + (i : Int)))).map D.int), [.da (docD d), .da (rulD r), .un]) := by
    rw [lcE_at (fun i : Nat => D.int (least d + (i : Nat))) (fun i => some (.int (whole (scene d r (least d + (i : Int)))))) (l := List.range (nWid d)) (by simp [c2]) (by rfl) (small (by rw [List.length_range]; omega)) ?_, fm_map (fun i : Nat => D.int (whole (scene d r (least d + (i : Int)))))]
    · rw [List.map_map]
      rfl
    · intro i hi
      have s1 := ck3 (ρ := [.da (docD d), .da (rulD r), .da (.int (least d + (i : Int)))]) (setting (r := r) v (least d + (i : Int)))
      have s2 := ck1 (ρ := [.da (docD d), .da (rulD r), .da (.int (least d + (i : Int)))]) (whole_height (sok (r := r) v (least d + (i : Int))))
      simp [turnL, yesB, wipeR, s1, s2]
  have ne : ((List.range (nWid d)).map fun i : Nat => whole (scene d r (least d + (i : Int)))) ≠ [] := by
    intro z
    have := congrArg List.length z
    simp at this
    omega
  have mx := maxD_ne ne
  unfold safe
  generalize ((List.range (nWid d)).map fun i : Nat => whole (scene d r (least d + (i : Int)))) = L at *
  simp [lc, mx]
/-! ### likeness -/
abbrev bodyI : FS := ifS (tstB (binE neE (callD f_sheets (consAr (varE 6) (consAr (varE 8) nilAr))) (callD f_sheets (consAr (varE 7) (consAr (varE 8) nilAr))))) (retS (tupE (consA (varE 5) (consA (varE 8) nilA)))) nxS
abbrev bodyO : FS := (seqS (parS 6 7 (consA (callD f_setting (consAr (varE 0) (consAr (varE 1) (consAr (varE 5) nilAr)))) (consA (callD f_setting (consAr (varE 2) (consAr (varE 3) (consAr (varE 5) nilAr)))) nilA)))
  (forS (iterR2 (consA (retE (.int 1)) (consA (binE addD (callE maxD (consA (binE ixD (varE 6) (retE (.int 0))) (consA (binE ixD (varE 7) (retE (.int 0))) nilA))) (retE (.int 1))) nilA))) (nameG 8) bodyI))
def max2 (i j : Int) : Int := if j > i then j else i
def max3 (i j k : Int) : Int := if j > i then (if k > j then k else j) else (if k > i then k else i)
@[simp] theorem maxD_two (i j : Int) : maxD [.int i, .int j] = some (.int (max2 i j)) := rfl
@[simp] theorem max3D_three (i j k : Int) : max3D [.int i, .int j, .int k] = some (.int (max3 i j k)) := rfl
theorem ne_same (l : List Int) : neE (.lst (l.map D.int)) (.lst (l.map D.int)) = some (.bl false) := by
  rw [Enc.int.lst.neE (by decide) l l]
  simp
theorem inner_none {s t : Scn} (o : Sok s) (o' : Sok t) (h : ∀ hh : Int, 1 ≤ hh → hh ≤ max2 s.many t.many → sheetsOf (fillOf s hh).ends = sheetsOf (fillOf t hh).ends) (A B C E F : D) (w : D) (j8 : Sl) :
    ∃ k8 : Sl, forS (iterR2 (consA (retE (.int 1)) (consA (binE addD (callE maxD (consA (binE ixD (varE 6) (retE (.int 0))) (consA (binE ixD (varE 7) (retE (.int 0))) nilA))) (retE (.int 1))) nilA))) (nameG 8) bodyI [.da A, .da B, .da C, .da E, .da F, .da w, .da (scnD s), .da (scnD t), j8] =
      .ok (.nx [.da A, .da B, .da C, .da E, .da F, .da w, .da (scnD s), .da (scnD t), k8]) := by
  have a1 := o.m0
  have a2 := o.m1
  have b1 := o'.m0
  have b2 := o'.m1
  have hm : 0 ≤ max2 s.many t.many ∧ max2 s.many t.many ≤ 104 := by unfold max2; split <;> omega
  have loop := forD_ix (g := nameG 8) (b := bodyI) (fun _ ρ => ∃ k8 : Sl, ρ = [.da A, .da B, .da C, .da E, .da F, .da w, .da (scnD s), .da (scnD t), k8]) (fun i : Nat => D.int (1 + (i : Nat))) (List.range (max2 s.many t.many).toNat) [.da A, .da B, .da C, .da E, .da F, .da w, .da (scnD s), .da (scnD t), j8] ⟨_, rfl⟩ (by
    rintro i ρ a hi ⟨k8, rfl⟩
    obtain ⟨hi1, hi2⟩ := List.getElem?_eq_some_iff.mp hi
    rw [List.length_range] at hi1
    rw [List.getElem_range] at hi2
    subst hi2
    have s1 := ck2 (ρ := [.da A, .da B, .da C, .da E, .da F, .da w, .da (scnD s), .da (scnD t), .da (.int (1 + (i : Int)))]) (sheets o (h := 1 + (i : Int)) (by omega))
    have s2 := ck2 (ρ := [.da A, .da B, .da C, .da E, .da F, .da w, .da (scnD s), .da (scnD t), .da (.int (1 + (i : Int)))]) (sheets o' (h := 1 + (i : Int)) (by omega))
    have e := h (1 + (i : Int)) (by omega) (by omega)
    rw [e] at s1
    have n := ne_same (sheetsOf (fillOf t (1 + (i : Int))).ends)
    refine ⟨_, ?_, .da (.int (1 + (i : Int))), rfl⟩
    simp [s1, s2, n])
  obtain ⟨ρ', e, k8, rfl⟩ := loop
  refine ⟨k8, (forS_of ?_).trans e⟩
  rw [iterR2_of (i := 1) (j := max2 s.many t.many + 1) (ρ' := [.da A, .da B, .da C, .da E, .da F, .da w, .da (scnD s), .da (scnD t), j8]) (by simp [scnD]) (by omega) (by omega), rg_map]
  rw [show (max2 s.many t.many + 1 - 1) = max2 s.many t.many by omega]
theorem first_none {d e : List Pt} {r q : Int × Int} (v : Vd d) (v' : Vd e) (h : ∀ w hh : Int, max2 (least d) (least e) ≤ w → 1 ≤ hh → sheetsOf (fillOf (scene d r w) hh).ends = sheetsOf (fillOf (scene e q w) hh).ends) :
    Is f_first_size [docD d, rulD r, docD e, rulD q] .non := by
  have l := least_b v
  have l' := least_b v'
  have b := widest_b v
  have b' := widest_b v'
  have hl : 1 ≤ max2 (least d) (least e) ∧ max2 (least d) (least e) ≤ 9 := by unfold max2; split <;> omega
  have hw : max2 (least d) (least e) ≤ max3 (max2 (least d) (least e)) (widest d) (widest e) ∧ max3 (max2 (least d) (least e)) (widest d) (widest e) ≤ 119 := by
    unfold max3
    split <;> split <;> omega
  generalize hL : max2 (least d) (least e) = L at *
  generalize hW : max3 L (widest d) (widest e) = W at *
  have loop := forD_ix (g := nameG 5) (b := bodyO) (fun _ ρ => ∃ k5 k6 k7 k8 : Sl, ρ = [.da (docD d), .da (rulD r), .da (docD e), .da (rulD q), .da (.int L), k5, k6, k7, k8]) (fun i : Nat => D.int (L + (i : Nat))) (List.range (W + 1 - L).toNat) [.da (docD d), .da (rulD r), .da (docD e), .da (rulD q), .da (.int L), .un, .un, .un, .un] ⟨_, _, _, _, rfl⟩ (by
    rintro i ρ a hi ⟨k5, k6, k7, k8, rfl⟩
    obtain ⟨hi1, hi2⟩ := List.getElem?_eq_some_iff.mp hi
    rw [List.length_range] at hi1
    rw [List.getElem_range] at hi2
    subst hi2
    have s1 := ck3 (ρ := [.da (docD d), .da (rulD r), .da (docD e), .da (rulD q), .da (.int L), .da (.int (L + (i : Int))), k6, k7, k8]) (setting (r := r) v (L + (i : Int)))
    have s2 := ck3 (ρ := [.da (docD d), .da (rulD r), .da (docD e), .da (rulD q), .da (.int L), .da (.int (L + (i : Int))), k6, k7, k8]) (setting (r := q) v' (L + (i : Int)))
    obtain ⟨m8, e8⟩ := inner_none (sok (r := r) v (L + (i : Int))) (sok (r := q) v' (L + (i : Int))) (fun hh h1 _ => h (L + (i : Int)) hh (by omega) h1) (docD d) (rulD r) (docD e) (rulD q) (.int L) (.int (L + (i : Int))) k8
    refine ⟨[.da (docD d), .da (rulD r), .da (docD e), .da (rulD q), .da (.int L), .da (.int (L + (i : Int))), .da (scnD (scene d r (L + (i : Int)))), .da (scnD (scene e q (L + (i : Int)))), m8], ?_, _, _, _, _, rfl⟩
    rw [nameG_eq, Rs.ok_bind]
    refine (seqS_nx (ρ1 := [.da (docD d), .da (rulD r), .da (docD e), .da (rulD q), .da (.int L), .da (.int (L + (i : Int))), .da (scnD (scene d r (L + (i : Int)))), .da (scnD (scene e q (L + (i : Int)))), k8]) ?_).trans e8
    simp [s1, s2])
  obtain ⟨ρ', eL, k5, k6, k7, k8, rfl⟩ := loop
  have c1 := ck1 (ρ := [.da (docD d), .da (rulD r), .da (docD e), .da (rulD q), .un, .un, .un, .un, .un]) (least_width v)
  have c2 := ck1 (ρ := [.da (docD d), .da (rulD r), .da (docD e), .da (rulD q), .un, .un, .un, .un, .un]) (least_width v')
  have c3 := ck1 (ρ := [.da (docD d), .da (rulD r), .da (docD e), .da (rulD q), .da (.int L), .un, .un, .un, .un]) (widest_width v)
  have c4 := ck1 (ρ := [.da (docD d), .da (rulD r), .da (docD e), .da (rulD q), .da (.int L), .un, .un, .un, .un]) (widest_width v')
  refine is_of rfl (ρ' := [.da (docD d), .da (rulD r), .da (docD e), .da (rulD q), .da (.int L), k5, k6, k7, k8]) ?_ (by simp)
  show b_first_size [.da (docD d), .da (rulD r), .da (docD e), .da (rulD q), .un, .un, .un, .un, .un] = _
  refine (seqS_nx (ρ1 := [.da (docD d), .da (rulD r), .da (docD e), .da (rulD q), .da (.int L), .un, .un, .un, .un]) (by simp [c1, c2, hL])).trans ?_
  refine (seqS_nx ((forS_of ?_).trans eL)).trans ?_
  · rw [iterR2_of (i := L) (j := W + 1) (ρ' := [.da (docD d), .da (rulD r), .da (docD e), .da (rulD q), .da (.int L), .un, .un, .un, .un]) (by simp [c3, c4, hW]) (by omega) (by omega), rg_map]
  · simp
theorem set_alike {d e : List Pt} {r : Int × Int} (v : Vd d) (v' : Vd e) (vr : Vr r) (h : ∀ w hh : Int, max2 (least d) (least e) ≤ w → 1 ≤ hh → sheetsOf (fillOf (scene d r w) hh).ends = sheetsOf (fillOf (scene e r w) hh).ends) :
    Is f_set_alike [docD d, docD e, rulD r] (.bl true) := by
  have n1 := ck1 (ρ := [.da (docD d), .da (docD e), .da (rulD r)]) (need_document v)
  have n2 := ck1 (ρ := [.da (docD d), .da (docD e), .da (rulD r)]) (need_document v')
  have n3 := ck1 (ρ := [.da (docD d), .da (docD e), .da (rulD r)]) (need_rules vr)
  have t : Is f_need_three [docD d, docD e, rulD r] .non := by
    refine is_nx rfl (ρ' := [.da (docD d), .da (docD e), .da (rulD r)]) ?_ (by simp)
    show b_need_three [.da (docD d), .da (docD e), .da (rulD r)] = _
    refine (seqS_nx (ρ1 := [.da (docD d), .da (docD e), .da (rulD r)]) (by simp [n1])).trans ((seqS_nx (ρ1 := [.da (docD d), .da (docD e), .da (rulD r)]) (by simp [n2])).trans ?_)
    simp [n3]
  have c1 := ck3 (ρ := [.da (docD d), .da (docD e), .da (rulD r)]) t
  have c2 := ck4 (ρ := [.da (docD d), .da (docD e), .da (rulD r)]) (first_none (r := r) (q := r) v v' h)
  refine is_of rfl (ρ' := [.da (docD d), .da (docD e), .da (rulD r)]) ?_ (by simp)
  show b_set_alike [.da (docD d), .da (docD e), .da (rulD r)] = _
  refine (seqS_nx (ρ1 := [.da (docD d), .da (docD e), .da (rulD r)]) (by simp [c1])).trans ?_
  simp [c2, isE, isD]
end MA

set_option maxHeartbeats 4000000
/-! M10: what the laws draw from a script. -/
namespace MA
open PySem PySem.Spec PyProof.Rows L2 DL PK
theorem mulD_l {a b : Int} (h : -18446744073709551616 < a ∧ a < 18446744073709551616) : mulD (.int a) (.int b) = some (.int (a * b)) := by
  show (if (-(2 ^ 64) < a ∧ a < 2 ^ 64) ∨ (-(2 ^ 64) < b ∧ b < 2 ^ 64) then some (D.int (a * b)) else none) = _
  exact if_pos (.inl ⟨by omega, by omega⟩)
theorem mulD_r {a b : Int} (h : -18446744073709551616 < b ∧ b < 18446744073709551616) : mulD (.int a) (.int b) = some (.int (a * b)) := by
  show (if (-(2 ^ 64) < a ∧ a < 2 ^ 64) ∨ (-(2 ^ 64) < b ∧ b < 2 ^ 64) then some (D.int (a * b)) else none) = _
  exact if_pos (.inr ⟨by omega, by omega⟩)
theorem modD_pos {a b : Int} (h : 0 < b) : modD (.int a) (.int b) = some (.int (a % b)) := if_pos h
def cellOf (ns : List Int) (k : Nat) : Int := if k < ns.length then (ns[k]?).getD 0 else if ns.length = 0 then 7919 * k + 101 else (ns[k % ns.length]?).getD 0 % 1000003 + 7919 * k
@[simp] theorem lenD_scr (ns : List Int) : lenD [.scr ns] = some (.int ns.length) := rfl
theorem ix_scr {ns : List Int} {k : Nat} (h : k < ns.length) : ixD (.scr ns) (.int (k : Int)) = some (.int ((ns[k]?).getD 0)) := by
  show (L2.atI ns (k : Int)).map D.int = _
  rw [atNat (List.getElem?_eq_getElem h), List.getElem?_eq_getElem h]
  rfl
theorem law_cell (ns : List Int) (k : Nat) : Is f__law_cell [.scr ns, .int (k : Int)] (.int (cellOf ns k)) := by
  refine is_of rfl (ρ' := [.da (.scr ns), .da (.int (k : Int))]) ?_ (by simp)
  show b__law_cell [.da (.scr ns), .da (.int (k : Int))] = _
  unfold cellOf
  by_cases h : k < ns.length
  · have e := ix_scr h
    rw [if_pos h]
    exact seqS_rt ((ifS_tt (ρ1 := [.da (.scr ns), .da (.int (k : Int))]) (by simp [h])).trans (by simp [e]))
  · rw [if_neg h]
    refine (seqS_nx ((ifS_ff (ρ1 := [.da (.scr ns), .da (.int (k : Int))]) (by simp; omega)).trans (by rfl))).trans ?_
    by_cases h0 : ns.length = 0
    · rw [if_pos h0]
      have m := mulD_l (a := 7919) (b := (k : Int)) (by omega)
      have h0' : ns = [] := List.length_eq_zero_iff.mp h0
      subst h0'
      exact seqS_rt ((ifS_tt (ρ1 := [.da (.scr []), .da (.int (k : Int))]) (by simp)).trans (by simp [m]))
    · rw [if_neg h0]
      have lt : k % ns.length < ns.length := Nat.mod_lt _ (by omega)
      have m := mulD_l (a := 7919) (b := (k : Int)) (by omega)
      have e := ix_scr lt
      have m1 := modD_pos (a := (k : Int)) (b := (ns.length : Int)) (by omega)
      have m2 := modD_pos (a := (ns[k % ns.length]?).getD 0) (b := 1000003) (by omega)
      have m3 : ((k : Int) % (ns.length : Int)) = ((k % ns.length : Nat) : Int) := by simp
      refine (seqS_nx ((ifS_ff (ρ1 := [.da (.scr ns), .da (.int (k : Int))]) (by simp; intro z; exact h0 (by rw [z]; rfl))).trans (by rfl))).trans ?_
      rw [← m3] at e
      generalize (ns[k % ns.length]?).getD 0 = X at *
      simp [m1, e, m2, m]
/-! ### the draws -/
abbrev primesD : List D := [.int 2147483647, .int 2147483629, .int 2147483587, .int 2147483579, .int 2147483563, .int 2147483549, .int 2147483543, .int 2147483497]
theorem prime_at (x : Int) : ∃ p : Int, L2.atI primesD (x % 8) = some (.int p) ∧ 0 < p ∧ p ≤ 2147483647 := by
  have h : x % 8 = 0 ∨ x % 8 = 1 ∨ x % 8 = 2 ∨ x % 8 = 3 ∨ x % 8 = 4 ∨ x % 8 = 5 ∨ x % 8 = 6 ∨ x % 8 = 7 := by omega
  rcases h with h | h | h | h | h | h | h | h <;> rw [h]
  · exact ⟨_, atNat (i := 0) rfl, by decide, by decide⟩
  · exact ⟨_, atNat (i := 1) rfl, by decide, by decide⟩
  · exact ⟨_, atNat (i := 2) rfl, by decide, by decide⟩
  · exact ⟨_, atNat (i := 3) rfl, by decide, by decide⟩
  · exact ⟨_, atNat (i := 4) rfl, by decide, by decide⟩
  · exact ⟨_, atNat (i := 5) rfl, by decide, by decide⟩
  · exact ⟨_, atNat (i := 6) rfl, by decide, by decide⟩
  · exact ⟨_, atNat (i := 7) rfl, by decide, by decide⟩
abbrev bodyD : FS := (seqS (asgS (binE mulD (binE modD (varE 5) (binE ixD (varE 4) (binE modD (varE 8) (retE (.int 8))))) (binE addD (retE (.int 48271)) (binE mulD (binE mulD (retE (.int 2)) (varE 8)) (varE 8)))) (nameG 9))
  (seqS (asgS (binE addD (binE addD (varE 9) (binE mulD (binE mulD (retE (.int 7919)) (binE addD (varE 8) (retE (.int 1)))) (binE addD (varE 8) (retE (.int 1))))) (binE mulD (retE (.int 104729)) (varE 1))) (nameG 9))
  (seqS (asgS (binE modD (varE 9) (binE ixD (varE 4) (binE modD (binE addD (binE mulD (retE (.int 3)) (varE 8)) (varE 1)) (retE (.int 8))))) (nameG 9))
  (seqS (asgS (binE modD (binE mulD (binE mulD (varE 9) (varE 9)) (varE 9)) (binE ixD (varE 4) (binE modD (binE addD (varE 8) (retE (.int 5))) (retE (.int 8))))) (nameG 9))
  (seqS (ifS (tstB (binE gtD (varE 6) (retE (.int 0)))) (asgS (varE 6) (nameG 9)) nxS)
  (seqS (appS 7 (binE modD (varE 9) (varE 3)))
  (asgS (binE fdivD (varE 6) (varE 3)) (nameG 6))))))))
/-- the state of the draws -/
abbrev dS (S PD : D) (k m cell rest : Int) (row : List Int) (i v : Sl) : Rho := [.da S, .da (.int k), .da (.int m), .da (.int 27720), .da PD, .da (.int cell), .da (.int rest), .mu (.lst (row.map D.int)), i, v]
theorem draw1 {S : D} {PD : List D} {k m cell rest i p : Int} {row : List Int} {j : Sl} (a : L2.atI PD (i % 8) = some (.int p)) (b : 0 < p) (c : p ≤ 2147483647) (hi : 0 ≤ i) (hi2 : i < 1000) : ∃ v : Int, asgS (binE mulD (binE modD (varE 5) (binE ixD (varE 4) (binE modD (varE 8) (retE (.int 8))))) (binE addD (retE (.int 48271)) (binE mulD (binE mulD (retE (.int 2)) (varE 8)) (varE 8)))) (nameG 9) (dS S (.tup PD) k m cell rest row (.da (.int i)) j) = .ok (.nx (dS S (.tup PD) k m cell rest row (.da (.int i)) (.da (.int v)))) := by
  have m1 := modD_pos (a := i) (b := 8) (by omega)
  have m2 := modD_pos (a := cell) (b := p) b
  have q1 := Int.emod_nonneg cell (Int.ne_of_gt b)
  have q2 := Int.emod_lt_of_pos cell b
  have t1 := mulD_r (a := 2) (b := i) (by omega)
  have t2 := mulD_r (a := 2 * i) (b := i) (by omega)
  have t3 := mulD_l (a := cell % p) (b := 48271 + 2 * i * i) (by omega)
  refine ⟨cell % p * (48271 + 2 * i * i), ?_⟩
  generalize (48271 : Int) = c1 at *
  simp [m1, a, m2, t1, t2, t3]
theorem draw2 {S PD : D} {k m cell rest i v1 : Int} {row : List Int} (hi : 0 ≤ i) (hi2 : i < 1000) : ∃ v : Int, asgS (binE addD (binE addD (varE 9) (binE mulD (binE mulD (retE (.int 7919)) (binE addD (varE 8) (retE (.int 1)))) (binE addD (varE 8) (retE (.int 1))))) (binE mulD (retE (.int 104729)) (varE 1))) (nameG 9) (dS S PD k m cell rest row (.da (.int i)) (.da (.int v1))) = .ok (.nx (dS S PD k m cell rest row (.da (.int i)) (.da (.int v)))) := by
  have u1 := mulD_r (a := 7919) (b := i + 1) (by omega)
  have u2 := mulD_r (a := 7919 * (i + 1)) (b := i + 1) (by omega)
  have u3 := mulD_l (a := 104729) (b := k) (by omega)
  refine ⟨v1 + 7919 * (i + 1) * (i + 1) + 104729 * k, ?_⟩
  generalize (7919 : Int) = c1 at *
  generalize (104729 : Int) = c2 at *
  simp [u1, u2, u3]
theorem draw3 {S : D} {PD : List D} {k m cell rest i p v2 : Int} {row : List Int} (a : L2.atI PD ((3 * i + k) % 8) = some (.int p)) (b : 0 < p) : asgS (binE modD (varE 9) (binE ixD (varE 4) (binE modD (binE addD (binE mulD (retE (.int 3)) (varE 8)) (varE 1)) (retE (.int 8))))) (nameG 9) (dS S (.tup PD) k m cell rest row (.da (.int i)) (.da (.int v2))) = .ok (.nx (dS S (.tup PD) k m cell rest row (.da (.int i)) (.da (.int (v2 % p))))) := by
  have w1 := mulD_l (a := 3) (b := i) (by omega)
  have w2 := modD_pos (a := 3 * i + k) (b := 8) (by omega)
  have w3 := modD_pos (a := v2) (b := p) b
  simp [w1, w2, a, w3]
theorem draw4 {S : D} {PD : List D} {k m cell rest i p v3 : Int} {row : List Int} (a : L2.atI PD ((i + 5) % 8) = some (.int p)) (b : 0 < p) (h1 : 0 ≤ v3) (h2 : v3 ≤ 2147483647) : ∃ v : Int, asgS (binE modD (binE mulD (binE mulD (varE 9) (varE 9)) (varE 9)) (binE ixD (varE 4) (binE modD (binE addD (varE 8) (retE (.int 5))) (retE (.int 8))))) (nameG 9) (dS S (.tup PD) k m cell rest row (.da (.int i)) (.da (.int v3))) = .ok (.nx (dS S (.tup PD) k m cell rest row (.da (.int i)) (.da (.int v)))) := by
  have x1 := mulD_l (a := v3) (b := v3) (by omega)
  have x2 := mulD_r (a := v3 * v3) (b := v3) (by omega)
  have x3 := modD_pos (a := i + 5) (b := 8) (by omega)
  have x4 := modD_pos (a := v3 * v3 * v3) (b := p) b
  exact ⟨v3 * v3 * v3 % p, by simp [x1, x2, x3, a, x4]⟩
theorem draw5 {S PD : D} {k m cell rest i v4 : Int} {row : List Int} : ∃ v : Int, ifS (tstB (binE gtD (varE 6) (retE (.int 0)))) (asgS (varE 6) (nameG 9)) nxS (dS S PD k m cell rest row (.da (.int i)) (.da (.int v4))) = .ok (.nx (dS S PD k m cell rest row (.da (.int i)) (.da (.int v)))) := by
  by_cases h : 0 < rest
  · exact ⟨rest, by simp [h]⟩
  · exact ⟨v4, by simp [h]⟩
theorem draw6 {S PD : D} {k m cell rest i v5 : Int} {row : List Int} (hl : row.length ≤ 1000) : appS 7 (binE modD (varE 9) (varE 3)) (dS S PD k m cell rest row (.da (.int i)) (.da (.int v5))) = .ok (.nx (dS S PD k m cell rest (row ++ [v5 % 27720]) (.da (.int i)) (.da (.int v5)))) := by
  have y1 := modD_pos (a := v5) (b := 27720) (by omega)
  have z : row.length < 16777216 := by omega
  simp [y1, z]
theorem draw7 {S PD : D} {k m cell rest i v5 : Int} {row : List Int} : asgS (binE fdivD (varE 6) (varE 3)) (nameG 6) (dS S PD k m cell rest row (.da (.int i)) (.da (.int v5))) = .ok (.nx (dS S PD k m cell (rest / 27720) row (.da (.int i)) (.da (.int v5)))) := by
  have y2 : fdivD (.int rest) (.int 27720) = some (.int (rest / 27720)) := rfl
  simp [y2]
theorem turn_draw {S : D} {k : Int} {m cell rest : Int} {row : List Int} {i : Nat} (hi : i < 1000) (hl : row.length ≤ 1000) (j8 j9 : Sl) : ∃ (rest' v : Int) (k9 : Sl), ((nameG 8 (D.int (0 + (i : Nat))) (dS S (.tup primesD) k m cell rest row j8 j9)).bind bodyD) = .ok (.nx (dS S (.tup primesD) k m cell rest' (row ++ [v]) (.da (.int (i : Int))) k9)) := by
  obtain ⟨p1, a1, b1, c1⟩ := prime_at (i : Int)
  obtain ⟨p2, a2, b2, c2⟩ := prime_at (3 * (i : Int) + k)
  obtain ⟨p3, a3, b3, c3⟩ := prime_at ((i : Int) + 5)
  generalize primesD = PD at *
  have e0 : nameG 8 (D.int (0 + (i : Nat))) (dS S (.tup PD) k m cell rest row j8 j9) = .ok (dS S (.tup PD) k m cell rest row (.da (.int (i : Int))) j9) := by
    simp
  rw [e0, Rs.ok_bind]
  obtain ⟨v1, e1⟩ := draw1 (S := S) (k := k) (m := m) (cell := cell) (rest := rest) (row := row) (j := j9) a1 b1 c1 (by omega) (by omega)
  obtain ⟨v2, e2⟩ := draw2 (S := S) (PD := .tup PD) (k := k) (m := m) (cell := cell) (rest := rest) (row := row) (v1 := v1) (i := (i : Int)) (by omega) (by omega)
  have e3 := draw3 (S := S) (k := k) (m := m) (cell := cell) (rest := rest) (row := row) (v2 := v2) a2 b2
  have q3 := Int.emod_nonneg v2 (Int.ne_of_gt b2)
  have q4 := Int.emod_lt_of_pos v2 b2
  obtain ⟨v4, e4⟩ := draw4 (S := S) (k := k) (m := m) (cell := cell) (rest := rest) (row := row) (v3 := v2 % p2) a3 b3 q3 (by omega)
  obtain ⟨v5, e5⟩ := draw5 (S := S) (PD := .tup PD) (k := k) (m := m) (cell := cell) (rest := rest) (row := row) (v4 := v4) (i := (i : Int))
  have e6 := draw6 (S := S) (PD := .tup PD) (k := k) (m := m) (cell := cell) (rest := rest) (row := row) (v5 := v5) (i := (i : Int)) hl
  have e7 := draw7 (S := S) (PD := .tup PD) (k := k) (m := m) (cell := cell) (rest := rest) (row := row ++ [v5 % 27720]) (v5 := v5) (i := (i : Int))
  exact ⟨rest / 27720, v5 % 27720, .da (.int v5), (seqS_nx e1).trans ((seqS_nx e2).trans ((seqS_nx e3).trans ((seqS_nx e4).trans ((seqS_nx e5).trans ((seqS_nx e6).trans e7)))))⟩
@[simp] theorem moveF_eq {i : Nat} {ρ : Rho} : moveF i ρ = match ρ[i]? with
  | some (.mu (.lst ds)) => .ok (ds, ρ.set i .un)
  | _ => .no := rfl
@[simp] theorem retF_eq {fa : Rho → Rs (List D × Rho)} {ρ : Rho} : retF fa ρ = (fa ρ).bind fun r => .ok (.rt (.fr r.1) r.2) := rfl
theorem law_draws (ns : List Int) (k : Nat) : ∃ row : List Int, f__law_draws [.da (.scr ns), .da (.int (k : Int)), .da (.int 150), .da (.int 27720)] = .ok (.fr (row.map D.int), [.da (.scr ns), .da (.int (k : Int)), .da (.int 150), .da (.int 27720)]) := by
  have c := ck2 (ρ := [.da (.scr ns), .da (.int (k : Int)), .da (.int 150), .da (.int 27720), .da (.tup primesD), .un, .un, .un, .un, .un]) (law_cell ns k)
  obtain ⟨rest, e1⟩ : ∃ rest : Int, ifS (tstB (binE geD (varE 5) (binE powD (retE (.int 10)) (retE (.int 18))))) (asgS (varE 5) (nameG 6)) nxS [.da (.scr ns), .da (.int (k : Int)), .da (.int 150), .da (.int 27720), .da (.tup primesD), .da (.int (cellOf ns k)), .da (.int 0), .un, .un, .un] =
      .ok (.nx [.da (.scr ns), .da (.int (k : Int)), .da (.int 150), .da (.int 27720), .da (.tup primesD), .da (.int (cellOf ns k)), .da (.int rest), .un, .un, .un]) := by
    have pw : powD (.int 10) (.int 18) = some (.int 1000000000000000000) := by kernel_rfl
    by_cases h : 1000000000000000000 ≤ cellOf ns k
    · exact ⟨cellOf ns k, by simp [pw, h]⟩
    · exact ⟨0, by simp [pw, h]⟩
  have loop := forD_ix (g := nameG 8) (b := bodyD) (fun i ρ => ∃ (rest : Int) (row : List Int) (j8 j9 : Sl), row.length = i ∧ ρ = [.da (.scr ns), .da (.int (k : Int)), .da (.int 150), .da (.int 27720), .da (.tup primesD), .da (.int (cellOf ns k)), .da (.int rest), .mu (.lst (row.map D.int)), j8, j9])
    (fun i : Nat => D.int (0 + (i : Nat))) (List.range 150) [.da (.scr ns), .da (.int (k : Int)), .da (.int 150), .da (.int 27720), .da (.tup primesD), .da (.int (cellOf ns k)), .da (.int rest), .mu (.lst []), .un, .un] ⟨rest, [], .un, .un, rfl, rfl⟩ (by
      rintro i ρ a hi ⟨rs, row, j8, j9, hl, rfl⟩
      obtain ⟨hi1, hi2⟩ := List.getElem?_eq_some_iff.mp hi
      rw [List.length_range] at hi1
      rw [List.getElem_range] at hi2
      subst hi2
      obtain ⟨rs', v, k9, e⟩ := turn_draw (S := .scr ns) (k := (k : Int)) (m := 150) (cell := cellOf ns k) (rest := rs) (row := row) (i := i) (by omega) (by omega) j8 j9
      exact ⟨_, e, rs', row ++ [v], _, k9, by simp [hl], rfl⟩)
  obtain ⟨ρ', e2, rs, row, j8, j9, hl, rfl⟩ := loop
  refine ⟨row, ?_⟩
  have body : b__law_draws [.da (.scr ns), .da (.int (k : Int)), .da (.int 150), .da (.int 27720), .un, .un, .un, .un, .un, .un] = .ok (.rt (.fr (row.map D.int)) [.da (.scr ns), .da (.int (k : Int)), .da (.int 150), .da (.int 27720), .da (.tup primesD), .da (.int (cellOf ns k)), .da (.int rs), .un, j8, j9]) := by
    refine (seqS_nx (ρ1 := [.da (.scr ns), .da (.int (k : Int)), .da (.int 150), .da (.int 27720), .da (.tup primesD), .un, .un, .un, .un, .un]) (by simp)).trans ?_
    refine (seqS_nx (ρ1 := [.da (.scr ns), .da (.int (k : Int)), .da (.int 150), .da (.int 27720), .da (.tup primesD), .da (.int (cellOf ns k)), .un, .un, .un, .un]) (by simp [c])).trans ?_
    refine (seqS_nx (ρ1 := [.da (.scr ns), .da (.int (k : Int)), .da (.int 150), .da (.int 27720), .da (.tup primesD), .da (.int (cellOf ns k)), .da (.int 0), .un, .un, .un]) (by simp)).trans ?_
    refine (seqS_nx e1).trans ?_
    refine (seqS_nx (ρ1 := [.da (.scr ns), .da (.int (k : Int)), .da (.int 150), .da (.int 27720), .da (.tup primesD), .da (.int (cellOf ns k)), .da (.int rest), .mu (.lst []), .un, .un]) (by simp)).trans ?_
    refine (seqS_nx ((forS_of ?_).trans e2)).trans ?_
    · rw [iterR1_of (j := 150) (ρ' := [.da (.scr ns), .da (.int (k : Int)), .da (.int 150), .da (.int 27720), .da (.tup primesD), .da (.int (cellOf ns k)), .da (.int rest), .mu (.lst []), .un, .un]) (by simp) (by omega), rg_map]
      rfl
    · simp
  show (b__law_draws [.da (.scr ns), .da (.int (k : Int)), .da (.int 150), .da (.int 27720), .un, .un, .un, .un, .un, .un]).bind _ = _
  rw [body]
  simp
theorem callN_of {f : FD} {fas : FA} {ρ ρ' : Rho} {xs : List D} {ds : List D} (ha : fas ρ = .ok (xs.map Sum.inl, ρ')) (h : f (xs.map Sl.da) = .ok (.fr ds, xs.map Sl.da)) : callN f fas ρ = .ok (ds, ρ') := by
  unfold callN
  rw [callF_eq, ha]
  simp only [Rs.ok_bind]
  unfold callK
  simp only [own_inl, List.nodup_nil, if_true, argSls_inl, Rs.ofO_some, Rs.ok_bind]
  rw [h]
  simp [putB_inl]
theorem law_bag (ns : List Int) (k : Nat) : ∃ row : List Int, f__law_bag [.da (.scr ns), .da (.int (k : Int))] = .ok (.fr (row.map D.int), [.da (.scr ns), .da (.int (k : Int))]) := by
  obtain ⟨row, e⟩ := law_draws ns k
  refine ⟨row, ?_⟩
  have c := callN_of (f := f__law_draws) (fas := consAr (varE 0) (consAr (varE 1) (consAr (retE (.int 150)) (consAr (retE (.int 27720)) nilAr)))) (ρ := [.da (.scr ns), .da (.int (k : Int))]) (ρ' := [.da (.scr ns), .da (.int (k : Int))]) (xs := [.scr ns, .int (k : Int), .int 150, .int 27720]) (by simp) e
  simp [f__law_bag, defF, b__law_bag, c]
end MA

set_option maxHeartbeats 4000000
/-! M11: parts, documents, rules drawn from a bag. -/
namespace MA
open PySem PySem.Spec PyProof.Rows L2 DL PK
abbrev bagS (bs : List Int) : Sl := .mu (.lst (bs.map D.int))
@[simp] theorem backA_mu (m m' : Mo) (ρ ρ' : Rho) : backA (.mu m :: ρ) (.mu m' :: ρ') = (backA ρ ρ').map (.mu m' :: ·) := rfl
@[simp] theorem ownAr_eq {i : Nat} {fas : FA} {ρ : Rho} : ownAr i fas ρ = if isMu ρ[i]? = true then (fas ρ).bind fun s => .ok (.inr i :: s.1, s.2) else .no := rfl
@[simp] theorem isMu_bag (m : Mo) : isMu (some (.mu m)) = true := rfl
theorem ownNe {bs : List Int} {i : Nat} {ρ : Rho} (h : ρ[i]? = some (bagS bs)) : ownNeNil i ρ = .ok (!bs.isEmpty, ρ) := by
  unfold ownNeNil
  rw [h]
  have f := Enc.int.lst.fit (by decide) bs
  show (if (D.lst (bs.map D.int)).fit = true then Rs.ok (!(bs.map D.int).isEmpty, ρ) else .no) = _
  rw [if_pos f]
  cases bs <;> rfl
def takeV (bs : List Int) (m : Int) : Int := bs.headD 0 % m
theorem takeV_b (bs : List Int) {m : Int} (h : 0 < m) : 0 ≤ takeV bs m ∧ takeV bs m < m := ⟨Int.emod_nonneg _ (Int.ne_of_gt h), Int.emod_lt_of_pos _ h⟩
@[simp] theorem intD_int (i : Int) : intD [.int i] = some (.int i) := rfl
theorem law_take (bs : List Int) {m : Int} (h : 0 < m) : f__law_take [bagS bs, .da (.int m)] = .ok (.da (.int (takeV bs m)), [bagS bs.tail, .da (.int m)]) := by
  have mm := modD_pos (a := bs.headD 0) (b := m) h
  have st : asgS (ifE (ownNeNil 0) (pop0E 0) (retE (.int 0))) (nameG 2) [bagS bs, .da (.int m), .un] = .ok (.nx [bagS bs.tail, .da (.int m), .da (.int (bs.headD 0))]) := by
    rw [asgS_eq, ifE_eq, ownNe (bs := bs) rfl]
    cases bs with
    | nil => rfl
    | cons b r => rfl
  show (b__law_take [bagS bs, .da (.int m), .un]).bind _ = _
  rw [show b__law_take [bagS bs, .da (.int m), .un] = .ok (.rt (.da (.int (takeV bs m))) [bagS bs.tail, .da (.int m), .da (.int (bs.headD 0))]) from (seqS_nx st).trans (by unfold takeV; generalize bs.headD 0 = x at *; simp [mm])]
  simp
/-- a call with the bag in slot i, and data -/
theorem ckO {f : FD} {i : Nat} {xs : List D} {ρ : Rho} {m m' : Mo} {r : Rv} (hm : ρ[i]? = some (.mu m)) (h : f (.mu m :: xs.map Sl.da) = .ok (r, .mu m' :: xs.map Sl.da)) : callK f (.inr i :: xs.map Sum.inl) ρ = .ok (r, ρ.set i (.mu m')) := by
  unfold callK
  have e1 : ((Sum.inr i :: xs.map Sum.inl : List DL.Arg).filterMap ownOf) = [i] := by
    show i :: (xs.map Sum.inl).filterMap ownOf = [i]
    rw [own_inl]
  have e2 : argSls ρ (Sum.inr i :: xs.map Sum.inl) = some (.mu m :: xs.map Sl.da) := by
    show (match argSl ρ (Sum.inr i), argSls ρ (xs.map Sum.inl) with
      | some s, some r => some (s :: r)
      | _, _ => none) = _
    rw [argSls_inl]
    have : argSl ρ (Sum.inr i) = some (.mu m) := by
      unfold argSl
      dsimp only
      rw [hm]
    rw [this]
  rw [e1, e2]
  simp only [List.nodup_cons, List.not_mem_nil, not_false_eq_true, List.nodup_nil, and_self, if_true, Rs.ofO_some, Rs.ok_bind]
  rw [h]
  have e3 : putB ρ (Sum.inr i :: xs.map Sum.inl) (.mu m' :: xs.map Sl.da) = ρ.set i (.mu m') := by
    show (putB ρ (xs.map Sum.inl) (xs.map Sl.da)).set i (.mu m') = _
    rw [putB_inl]
  simp [e3]
theorem ckT {i : Nat} {ρ : Rho} (bs : List Int) {m : Int} (hm : ρ[i]? = some (bagS bs)) (h : 0 < m) : callK f__law_take [.inr i, .inl (.int m)] ρ = .ok (.da (.int (takeV bs m)), ρ.set i (bagS bs.tail)) := ckO (xs := [.int m]) hm (law_take bs h)
/-- a comprehension over a state -/
theorem lcD_st {α S : Type} {g : FG} {t : FB} {f : FE} {vs : List Nat} (enc : S → Rho) (e : α → D) (P : D → Prop) : ∀ (l : List α) (s : S), (∀ s a, a ∈ l → ∃ d s', turnL g t f vs (e a) (enc s) = .ok (some d, enc s') ∧ P d) → ∃ ds s', lcD g t f vs (l.map e) (enc s) = .ok (ds, enc s') ∧ ds.length = l.length ∧ ∀ d ∈ ds, P d
  | [], s, _ => ⟨[], s, rfl, rfl, fun _ h => nomatch h⟩
  | a :: l, s, h => by
    obtain ⟨d, s1, h1, p1⟩ := h s a List.mem_cons_self
    obtain ⟨ds, s2, h2, l2, p2⟩ := lcD_st (g := g) (t := t) (f := f) (vs := vs) enc e P l s1 fun s b hb => h s b (List.mem_cons_of_mem _ hb)
    refine ⟨d :: ds, s2, ?_, by simp [l2], fun x hx => (List.mem_cons.mp hx).elim (fun z => z ▸ p1) (p2 x)⟩
    unfold turnL at h1
    show ((noX (g (e a) (enc s))).bind fun ρ1 => (noX (t ρ1)).bind fun r => if r.1 = true then (noX (f r.2)).bind fun s => (lcD g t f vs (l.map e) (wipeR s.2 vs)).bind fun u => .ok (s.1 :: u.1, u.2) else lcD g t f vs (l.map e) (wipeR r.2 vs)) = _
    cases hg : noX (g (e a) (enc s)) with
    | no => rw [hg] at h1; exact nomatch h1
    | er x => rw [hg] at h1; exact nomatch h1
    | ok ρ1 =>
      rw [hg] at h1
      simp only [Rs.ok_bind] at h1 ⊢
      cases ht : noX (t ρ1) with
      | no => rw [ht] at h1; exact nomatch h1
      | er x => rw [ht] at h1; exact nomatch h1
      | ok r =>
        rw [ht] at h1
        simp only [Rs.ok_bind] at h1 ⊢
        by_cases hr : r.1 = true
        · rw [if_pos hr] at h1 ⊢
          cases hf : noX (f r.2) with
          | no => rw [hf] at h1; exact nomatch h1
          | er x => rw [hf] at h1; exact nomatch h1
          | ok u =>
            rw [hf] at h1
            simp only [Rs.ok_bind, Rs.ok.injEq, Prod.mk.injEq, Option.some.injEq] at h1 ⊢
            rw [h1.2, h2, h1.1]
            rfl
        · rw [if_neg hr] at h1
          simp only [Rs.ok.injEq, Prod.mk.injEq] at h1
          exact nomatch h1.1
theorem lcE_st {α S : Type} {fi : FI} {g : FG} {t : FB} {f : FE} {vs : List Nat} {ρ ρ' : Rho} (enc : S → Rho) (e : α → D) (P : D → Prop) (l : List α) (s : S) (hi : fi ρ = .ok (l.map e, ρ')) (hm : noMus ρ' vs = true) (hl : l.length ≤ sizeLine) (hs : wipeR ρ' vs = enc s)
    (h : ∀ s a, a ∈ l → ∃ d s', turnL g t f vs (e a) (enc s) = .ok (some d, enc s') ∧ P d) : ∃ ds s', lcE fi g t f vs ρ = .ok (.lst ds, restR ρ' (enc s') vs) ∧ ds.length = l.length ∧ ∀ d ∈ ds, P d := by
  obtain ⟨ds, s', h1, h2, h3⟩ := lcD_st (g := g) (t := t) (f := f) (vs := vs) enc e P l s h
  refine ⟨ds, s', ?_, h2, h3⟩
  unfold lcE
  rw [hi]
  simp only [Rs.ok_bind]
  rw [if_pos ⟨hm, by rw [List.length_map]; exact hl⟩, hs, h1]
  rfl
/-- a part as it is drawn -/
def Pt.sm : Pt → Prop
  | .brk => True
  | .blk n _ => 1 ≤ n ∧ n ≤ 4
  | .txt ws _ _ => 1 ≤ ws.length ∧ ws.length ≤ 7 ∧ ∀ w ∈ ws, 1 ≤ w ∧ w ≤ 5
theorem Pt.sm_ok {p : Pt} (h : p.sm) : p.ok := by
  cases p with
  | brk => trivial
  | blk n nx => exact ⟨h.1, Int.le_trans h.2 (by decide)⟩
  | txt ws nx wh => exact ⟨h.1, Nat.le_trans h.2.1 (by decide), fun w hw => ⟨(h.2.2 w hw).1, Int.le_trans (h.2.2 w hw).2 (by decide)⟩⟩
theorem ints_of : ∀ (ds : List D), (∀ d ∈ ds, ∃ w : Int, d = .int w ∧ 1 ≤ w ∧ w ≤ 5) → ∃ ws : List Int, ds = ws.map D.int ∧ ∀ w ∈ ws, 1 ≤ w ∧ w ≤ 5
  | [], _ => ⟨[], rfl, fun _ h => nomatch h⟩
  | d :: ds, h => by
    obtain ⟨w, rfl, hw⟩ := h d List.mem_cons_self
    obtain ⟨ws, rfl, hws⟩ := ints_of ds fun x hx => h x (List.mem_cons_of_mem _ hx)
    exact ⟨w :: ws, rfl, fun x hx => (List.mem_cons.mp hx).elim (fun z => z ▸ hw) (hws x)⟩
theorem parts_of : ∀ (ds : List D), (∀ d ∈ ds, ∃ p : Pt, d = p.d ∧ p.sm) → ∃ ps : List Pt, ds = ps.map Pt.d ∧ ∀ p ∈ ps, p.sm
  | [], _ => ⟨[], rfl, fun _ h => nomatch h⟩
  | d :: ds, h => by
    obtain ⟨w, rfl, hw⟩ := h d List.mem_cons_self
    obtain ⟨ws, rfl, hws⟩ := parts_of ds fun x hx => h x (List.mem_cons_of_mem _ hx)
    exact ⟨w :: ws, rfl, fun x hx => (List.mem_cons.mp hx).elim (fun z => z ▸ hw) (hws x)⟩
@[simp] theorem tupleD_lst (ds : List D) : tupleD [.lst ds] = some (.tup ds) := rfl
abbrev marksD : List D := [.tup [.str sNext], .tup [.str sWhole], .tup [.str sNext, .str sWhole], .tup [], .tup [], .tup []]
theorem marks_at (x : Int) (h : 0 ≤ x ∧ x < 6) : ∃ nx wh : Bool, L2.atI marksD x = some (markD nx wh) := by
  have h : x = 0 ∨ x = 1 ∨ x = 2 ∨ x = 3 ∨ x = 4 ∨ x = 5 := by omega
  rcases h with h | h | h | h | h | h <;> rw [h]
  · exact ⟨true, false, atNat (i := 0) rfl⟩
  · exact ⟨false, true, atNat (i := 1) rfl⟩
  · exact ⟨true, true, atNat (i := 2) rfl⟩
  · exact ⟨false, false, atNat (i := 3) rfl⟩
  · exact ⟨false, false, atNat (i := 4) rfl⟩
  · exact ⟨false, false, atNat (i := 5) rfl⟩
theorem take_eq {i : Nat} {ρ : Rho} {m : Int} (bs : List Int) (hm : ρ[i]? = some (bagS bs)) (h : 0 < m) : callD f__law_take (ownAr i (consAr (retE (.int m)) nilAr)) ρ = .ok (.int (takeV bs m), ρ.set i (bagS bs.tail)) := by
  have c := ckT (i := i) (ρ := ρ) bs hm h
  have mu : isMu ρ[i]? = true := by rw [hm]; rfl
  simp [c, mu]
theorem law_part (bs : List Int) : ∃ (p : Pt) (bs' : List Int), p.sm ∧ f__law_part [bagS bs] = .ok (.da p.d, [bagS bs']) := by
  have t10 := takeV_b bs (m := 10) (by omega)
  have e1 : asgS (callD f__law_take (ownAr 0 (consAr (retE (.int 10)) nilAr))) (nameG 1) [bagS bs, .un, .un, .un, .un] = .ok (.nx [bagS bs.tail, .da (.int (takeV bs 10)), .un, .un, .un]) := by
    rw [asgS_eq, take_eq bs rfl (by omega)]
    rfl
  generalize takeV bs 10 = way at *
  generalize bs.tail = b1 at *
  have fin : ∀ (p : Pt) (bs' : List Int) (j1 j2 j3 j4 : Sl), p.sm → b__law_part [bagS bs, .un, .un, .un, .un] = .ok (.rt (.da p.d) [bagS bs', j1, j2, j3, j4]) → ∃ (p : Pt) (bs' : List Int), p.sm ∧ f__law_part [bagS bs] = .ok (.da p.d, [bagS bs']) := fun p bs' j1 j2 j3 j4 ok h => by
    refine ⟨p, bs', ok, ?_⟩
    show (b__law_part [bagS bs, .un, .un, .un, .un]).bind _ = _
    rw [h]
    simp
  by_cases h0 : way = 0
  · refine fin .brk b1 (.da (.int way)) .un .un .un trivial ?_
    refine (seqS_nx e1).trans (seqS_rt ((ifS_tt (ρ1 := [bagS b1, .da (.int way), .un, .un, .un]) (by simp [h0])).trans (by simp [Pt.d])))
  · have n1 : ifS (tstB (binE eqE (varE 1) (retE (.int 0)))) (retS (tupE (consA (retE (.str sBreak)) nilA))) nxS [bagS b1, .da (.int way), .un, .un, .un] = .ok (.nx [bagS b1, .da (.int way), .un, .un, .un]) := (ifS_ff (by simp [h0])).trans rfl
    by_cases h4 : way < 4
    · have t1 := takeV_b b1 (m := 4) (by omega)
      have c1 := take_eq (i := 0) (ρ := [bagS b1, .da (.int way), .un, .un, .un]) (m := 4) b1 rfl (by omega)
      have c2 := take_eq (i := 0) (ρ := [bagS b1.tail, .da (.int way), .un, .un, .un]) (m := 4) b1.tail rfl (by omega)
      have c1 : callD f__law_take (ownAr 0 (consAr (retE (.int 4)) nilAr)) [bagS b1, .da (.int way), .un, .un, .un] = .ok (.int (takeV b1 4), [bagS b1.tail, .da (.int way), .un, .un, .un]) := c1
      have c2 : callD f__law_take (ownAr 0 (consAr (retE (.int 4)) nilAr)) [bagS b1.tail, .da (.int way), .un, .un, .un] = .ok (.int (takeV b1.tail 4), [bagS b1.tail.tail, .da (.int way), .un, .un, .un]) := c2
      generalize takeV b1 4 = n at *
      generalize takeV b1.tail 4 = k at *
      refine fin (.blk (1 + n) (decide (k = 0))) b1.tail.tail (.da (.int way)) .un .un .un ⟨by omega, by omega⟩ ?_
      refine (seqS_nx e1).trans ((seqS_nx n1).trans (seqS_rt ((ifS_tt (ρ1 := [bagS b1, .da (.int way), .un, .un, .un]) (by simp [h4])).trans ?_)))
      generalize hf : callD f__law_take (ownAr 0 (consAr (retE (.int 4)) nilAr)) = F at *
      by_cases hk : k = 0
      · simp [c1, c2, hk, Pt.d, markD]
      · simp [c1, c2, hk, Pt.d, markD]
    · have n2 : ∀ f : FS, ifS (tstB (binE ltD (varE 1) (retE (.int 4)))) f nxS [bagS b1, .da (.int way), .un, .un, .un] = .ok (.nx [bagS b1, .da (.int way), .un, .un, .un]) := fun f => (ifS_ff (by simp [h4])).trans rfl
      have t7 := takeV_b b1 (m := 7) (by omega)
      have c1 : callD f__law_take (ownAr 0 (consAr (retE (.int 7)) nilAr)) [bagS b1, .da (.int way), .un, .un, .un] = .ok (.int (takeV b1 7), [bagS b1.tail, .da (.int way), .un, .un, .un]) := take_eq (i := 0) b1 rfl (by omega)
      generalize takeV b1 7 = n at *
      have it : iterR1 (consA (binE addD (retE (.int 1)) (callD f__law_take (ownAr 0 (consAr (retE (.int 7)) nilAr)))) nilA) [bagS b1, .da (.int way), .un, .un, .un] = .ok ((List.range (1 + n).toNat).map (fun i : Nat => D.int (0 + (i : Nat))), [bagS b1.tail, .da (.int way), .un, .un, .un]) := by
        generalize hf : callD f__law_take (ownAr 0 (consAr (retE (.int 7)) nilAr)) = F at *
        rw [iterR1_of (j := 1 + n) (ρ' := [bagS b1.tail, .da (.int way), .un, .un, .un]) (by simp [c1]) (by omega), rg_map]
      obtain ⟨ds, b2, e2, l2, p2⟩ := lcE_st (g := nameG 4) (t := yesB) (f := binE addD (retE (.int 1)) (callD f__law_take (ownAr 0 (consAr (retE (.int 5)) nilAr)))) (vs := [4]) (fun b : List Int => [bagS b, .da (.int way), .un, .un, .un]) (fun i : Nat => D.int (0 + (i : Nat))) (fun d => ∃ w : Int, d = .int w ∧ 1 ≤ w ∧ w ≤ 5) (List.range (1 + n).toNat) b1.tail it rfl (small (by rw [List.length_range]; omega)) rfl (by
          intro b a ha
          have t5 := takeV_b b (m := 5) (by omega)
          have c5 : callD f__law_take (ownAr 0 (consAr (retE (.int 5)) nilAr)) [bagS b, .da (.int way), .un, .un, .da (.int (a : Int))] = .ok (.int (takeV b 5), [bagS b.tail, .da (.int way), .un, .un, .da (.int (a : Int))]) := take_eq (i := 0) b rfl (by omega)
          generalize hf : callD f__law_take (ownAr 0 (consAr (retE (.int 5)) nilAr)) = F at *
          refine ⟨.int (1 + takeV b 5), b.tail, ?_, _, rfl, by omega, by omega⟩
          simp [turnL, yesB, wipeR, c5])
      obtain ⟨ws, rfl, hws⟩ := ints_of ds p2
      rw [List.length_map, List.length_range] at l2
      have t6 := takeV_b b2 (m := 6) (by omega)
      obtain ⟨nx, wh, em⟩ := marks_at (takeV b2 6) t6
      have e2 : lcE (iterR1 (consA (binE addD (retE (.int 1)) (callD f__law_take (ownAr 0 (consAr (retE (.int 7)) nilAr)))) nilA)) (nameG 4) yesB (binE addD (retE (.int 1)) (callD f__law_take (ownAr 0 (consAr (retE (.int 5)) nilAr)))) [4] [bagS b1, .da (.int way), .un, .un, .un] = .ok (.lst (ws.map D.int), [bagS b2, .da (.int way), .un, .un, .un]) := e2
      have c6 : callD f__law_take (ownAr 0 (consAr (retE (.int 6)) nilAr)) [bagS b2, .da (.int way), .da (wD ws), .un, .un] = .ok (.int (takeV b2 6), [bagS b2.tail, .da (.int way), .da (wD ws), .un, .un]) := take_eq (i := 0) b2 rfl (by omega)
      refine fin (.txt ws nx wh) b2.tail (.da (.int way)) (.da (wD ws)) (.da (markD nx wh)) .un ⟨by omega, by omega, hws⟩ ?_
      refine (seqS_nx e1).trans ((seqS_nx n1).trans ((seqS_nx (n2 _)).trans ?_))
      refine (seqS_nx (ρ1 := [bagS b2, .da (.int way), .da (wD ws), .un, .un]) ?_).trans ?_
      · generalize hf : lcE (iterR1 (consA (binE addD (retE (.int 1)) (callD f__law_take (ownAr 0 (consAr (retE (.int 7)) nilAr)))) nilA)) (nameG 4) yesB (binE addD (retE (.int 1)) (callD f__law_take (ownAr 0 (consAr (retE (.int 5)) nilAr)))) [4] = F at *
        simp [e2]
      · generalize hf : callD f__law_take (ownAr 0 (consAr (retE (.int 6)) nilAr)) = F at *
        refine (seqS_nx (ρ1 := [bagS b2.tail, .da (.int way), .da (wD ws), .da (markD nx wh), .un]) ?_).trans ?_
        · simp [c6, em]
        · simp [Pt.d]
end MA

set_option maxHeartbeats 4000000
/-! M12: documents and rules drawn. -/
namespace MA
open PySem PySem.Spec PyProof.Rows L2 DL PK
theorem take_var {i j : Nat} {ρ : Rho} {m : Int} (bs : List Int) (hm : ρ[i]? = some (bagS bs)) (hj : ρ[j]? = some (.da (.int m))) (h : 0 < m) : callD f__law_take (ownAr i (consAr (varE j) nilAr)) ρ = .ok (.int (takeV bs m), ρ.set i (bagS bs.tail)) := by
  have c := ckT (i := i) (ρ := ρ) bs hm h
  have mu : isMu ρ[i]? = true := by rw [hm]; rfl
  simp [c, mu, hj]
theorem part_eq {i : Nat} {ρ : Rho} (bs : List Int) (hm : ρ[i]? = some (bagS bs)) : ∃ (p : Pt) (bs' : List Int), p.sm ∧ callD f__law_part (ownAr i nilAr) ρ = .ok (p.d, ρ.set i (bagS bs')) := by
  obtain ⟨p, bs', ok, e⟩ := law_part bs
  refine ⟨p, bs', ok, ?_⟩
  have c := ckO (f := f__law_part) (i := i) (xs := []) (ρ := ρ) (m := .lst (bs.map D.int)) (m' := .lst (bs'.map D.int)) hm e
  have c : callK f__law_part [.inr i] ρ = .ok (.da p.d, ρ.set i (bagS bs')) := c
  have mu : isMu ρ[i]? = true := by rw [hm]; rfl
  simp [mu, c]
theorem law_documentS (bs : List Int) {m : Int} (h1 : 1 ≤ m) (h8 : m ≤ 8) : ∃ (d : List Pt) (bs' : List Int), Vd d ∧ (∀ p ∈ d, p.sm) ∧ (d.length : Int) ≤ m ∧ f__law_document [bagS bs, .da (.int m)] = .ok (.da (docD d), [bagS bs', .da (.int m)]) := by
  have tm := takeV_b bs (m := m) (by omega)
  have c1 : callD f__law_take (ownAr 0 (consAr (varE 1) nilAr)) [bagS bs, .da (.int m), .un, .un, .un] = .ok (.int (takeV bs m), [bagS bs.tail, .da (.int m), .un, .un, .un]) := take_var (i := 0) (j := 1) bs rfl rfl (by omega)
  generalize takeV bs m = n at *
  have it : iterR1 (consA (binE addD (retE (.int 1)) (callD f__law_take (ownAr 0 (consAr (varE 1) nilAr)))) nilA) [bagS bs, .da (.int m), .un, .un, .un] = .ok ((List.range (1 + n).toNat).map (fun i : Nat => D.int (0 + (i : Nat))), [bagS bs.tail, .da (.int m), .un, .un, .un]) := by
    generalize hf : callD f__law_take (ownAr 0 (consAr (varE 1) nilAr)) = F at *
    rw [iterR1_of (j := 1 + n) (ρ' := [bagS bs.tail, .da (.int m), .un, .un, .un]) (by simp [c1]) (by omega), rg_map]
  obtain ⟨ds, b2, e2, l2, p2⟩ := lcE_st (g := nameG 3) (t := yesB) (f := callD f__law_part (ownAr 0 nilAr)) (vs := [3]) (fun b : List Int => [bagS b, .da (.int m), .un, .un, .un]) (fun i : Nat => D.int (0 + (i : Nat))) (fun d => ∃ p : Pt, d = p.d ∧ p.sm) (List.range (1 + n).toNat) bs.tail it rfl (small (by rw [List.length_range]; omega)) rfl (by
      intro b a ha
      obtain ⟨p, b', ok, e⟩ := part_eq (i := 0) (ρ := [bagS b, .da (.int m), .un, .da (.int (a : Int)), .un]) b rfl
      have e : callD f__law_part (ownAr 0 nilAr) [bagS b, .da (.int m), .un, .da (.int (a : Int)), .un] = .ok (p.d, [bagS b', .da (.int m), .un, .da (.int (a : Int)), .un]) := e
      generalize hf : callD f__law_part (ownAr 0 nilAr) = F at *
      refine ⟨p.d, b', ?_, p, rfl, ok⟩
      simp [turnL, yesB, wipeR, e])
  obtain ⟨ps, rfl, hps⟩ := parts_of ds p2
  rw [List.length_map, List.length_range] at l2
  have e2 : lcE (iterR1 (consA (binE addD (retE (.int 1)) (callD f__law_take (ownAr 0 (consAr (varE 1) nilAr)))) nilA)) (nameG 3) yesB (callD f__law_part (ownAr 0 nilAr)) [3] [bagS bs, .da (.int m), .un, .un, .un] = .ok (.lst (ps.map Pt.d), [bagS b2, .da (.int m), .un, .un, .un]) := e2
  have st1 : asgS (callE tupleD (consA (lcE (iterR1 (consA (binE addD (retE (.int 1)) (callD f__law_take (ownAr 0 (consAr (varE 1) nilAr)))) nilA)) (nameG 3) yesB (callD f__law_part (ownAr 0 nilAr)) [3]) nilA)) (nameG 2) [bagS bs, .da (.int m), .un, .un, .un] = .ok (.nx [bagS b2, .da (.int m), .da (docD ps), .un, .un]) := by
    generalize hf : lcE (iterR1 (consA (binE addD (retE (.int 1)) (callD f__law_take (ownAr 0 (consAr (varE 1) nilAr)))) nilA)) (nameG 3) yesB (callD f__law_part (ownAr 0 nilAr)) [3] = F at *
    simp [e2, docD]
  have lc : lcE (iterS (varE 2)) (nameG 4) (tstB (binE neE (binE ixD (varE 4) (retE (.int 0))) (retE (.str sBreak)))) (varE 4) [4] [bagS b2, .da (.int m), .da (docD ps), .un, .un] = .ok (.lst ((ps.filter fun p => !p.isB).map Pt.d), [bagS b2, .da (.int m), .da (docD ps), .un, .un]) := by
    rw [lcE_at Pt.d (fun p => if (!p.isB) = true then some p.d else none) (l := ps) (by simp [docD]) (by rfl) (small (by omega)) ?_, fm_filter (fun p : Pt => !p.isB)]
    · simp [restR, wipeR]
    · intro p hp
      cases hB : p.isB <;> simp [turnL, wipeR, hB]
  have eq0 : eqE (.lst ((ps.filter fun p => !p.isB).map Pt.d)) (.lst []) = some (.bl (decide ((ps.filter fun p => !p.isB) = []))) := encPt.lst.eqE (by decide) _ []
  have fin : ∀ (d : List Pt) (b' : List Int) (j2 j3 j4 : Sl), b__law_document [bagS bs, .da (.int m), .un, .un, .un] = .ok (.rt (.da (docD d)) [bagS b', .da (.int m), j2, j3, j4]) → f__law_document [bagS bs, .da (.int m)] = .ok (.da (docD d), [bagS b', .da (.int m)]) := fun d b' j2 j3 j4 e => by
    show (b__law_document [bagS bs, .da (.int m), .un, .un, .un]).bind _ = _
    rw [e]
    simp
  by_cases hz : (ps.filter fun p => !p.isB) = []
  · refine ⟨[.blk 2 false], b2, ⟨by simp, by simp, ?_, ⟨_, List.mem_singleton.mpr rfl, rfl⟩⟩, fun p hp => by rw [List.mem_singleton.mp hp]; exact ⟨by decide, by decide⟩, by simp; omega, fin _ b2 (.da (docD ps)) .un .un ?_⟩
    · intro p hp
      have : p = .blk 2 false := by simpa using hp
      subst this
      exact ⟨by decide, by decide⟩
    · have eq1 : eqE (.lst []) (.lst []) = some (.bl true) := eq_nil_int []
      refine (seqS_nx st1).trans (seqS_rt ((ifS_tt (ρ1 := [bagS b2, .da (.int m), .da (docD ps), .un, .un]) ?_).trans ?_))
      · generalize hf : lcE (iterS (varE 2)) (nameG 4) (tstB (binE neE (binE ixD (varE 4) (retE (.int 0))) (retE (.str sBreak)))) (varE 4) [4] = F at *
        simp [lc, eq1, hz]
      · simp [docD, Pt.d, markD]
  · refine ⟨ps, b2, ⟨by omega, by omega, fun p hp => Pt.sm_ok (hps p hp), ?_⟩, hps, by omega, fin _ b2 (.da (docD ps)) .un .un ?_⟩
    · obtain ⟨p, hp⟩ := List.exists_mem_of_ne_nil _ hz
      obtain ⟨h1, h2⟩ := List.mem_filter.mp hp
      exact ⟨p, h1, by simpa using h2⟩
    · refine (seqS_nx st1).trans ((seqS_nx ((ifS_ff (ρ1 := [bagS b2, .da (.int m), .da (docD ps), .un, .un]) ?_).trans rfl)).trans (by simp))
      generalize hf : lcE (iterS (varE 2)) (nameG 4) (tstB (binE neE (binE ixD (varE 4) (retE (.int 0))) (retE (.str sBreak)))) (varE 4) [4] = F at *
      simp [lc, eq0, hz]
theorem law_document (bs : List Int) {m : Int} (h1 : 1 ≤ m) (h8 : m ≤ 8) : ∃ (d : List Pt) (bs' : List Int), Vd d ∧ (d.length : Int) ≤ m ∧ f__law_document [bagS bs, .da (.int m)] = .ok (.da (docD d), [bagS bs', .da (.int m)]) := by
  obtain ⟨d, bs', v, _, l, e⟩ := law_documentS bs h1 h8
  exact ⟨d, bs', v, l, e⟩
theorem law_rules (bs : List Int) : ∃ (r : Int × Int) (bs' : List Int), Vr r ∧ f__law_rules [bagS bs] = .ok (.da (rulD r), [bagS bs']) := by
  have t1 := takeV_b bs (m := 3) (by omega)
  have t2 := takeV_b bs.tail (m := 3) (by omega)
  have c1 : callD f__law_take (ownAr 0 (consAr (retE (.int 3)) nilAr)) [bagS bs] = .ok (.int (takeV bs 3), [bagS bs.tail]) := take_eq (i := 0) bs rfl (by omega)
  have c2 : callD f__law_take (ownAr 0 (consAr (retE (.int 3)) nilAr)) [bagS bs.tail] = .ok (.int (takeV bs.tail 3), [bagS bs.tail.tail]) := take_eq (i := 0) bs.tail rfl (by omega)
  refine ⟨(1 + takeV bs 3, 1 + takeV bs.tail 3), bs.tail.tail, ⟨by simp only; omega, by simp only; omega, by simp only; omega, by simp only; omega⟩, ?_⟩
  show (b__law_rules [bagS bs]).bind _ = _
  unfold b__law_rules
  generalize hf : callD f__law_take (ownAr 0 (consAr (retE (.int 3)) nilAr)) = F at *
  simp [c1, c2, rulD]
theorem doc_eq {i : Nat} {ρ : Rho} (bs : List Int) {m : Int} (h1 : 1 ≤ m) (h8 : m ≤ 8) (hm : ρ[i]? = some (bagS bs)) : ∃ (d : List Pt) (bs' : List Int), Vd d ∧ (d.length : Int) ≤ m ∧ callD f__law_document (ownAr i (consAr (retE (.int m)) nilAr)) ρ = .ok (docD d, ρ.set i (bagS bs')) := by
  obtain ⟨d, bs', v, l, e⟩ := law_document bs h1 h8
  refine ⟨d, bs', v, l, ?_⟩
  have c := ckO (f := f__law_document) (i := i) (xs := [.int m]) (ρ := ρ) (m := .lst (bs.map D.int)) (m' := .lst (bs'.map D.int)) hm e
  have c : callK f__law_document [.inr i, .inl (.int m)] ρ = .ok (.da (docD d), ρ.set i (bagS bs')) := c
  have mu : isMu ρ[i]? = true := by rw [hm]; rfl
  simp [mu, c]
theorem rules_eq {i : Nat} {ρ : Rho} (bs : List Int) (hm : ρ[i]? = some (bagS bs)) : ∃ (r : Int × Int) (bs' : List Int), Vr r ∧ callD f__law_rules (ownAr i nilAr) ρ = .ok (rulD r, ρ.set i (bagS bs')) := by
  obtain ⟨r, bs', v, e⟩ := law_rules bs
  refine ⟨r, bs', v, ?_⟩
  have c := ckO (f := f__law_rules) (i := i) (xs := []) (ρ := ρ) (m := .lst (bs.map D.int)) (m' := .lst (bs'.map D.int)) hm e
  have c : callK f__law_rules [.inr i] ρ = .ok (.da (rulD r), ρ.set i (bagS bs')) := c
  have mu : isMu ρ[i]? = true := by rw [hm]; rfl
  simp [mu, c]
theorem bag_eq {i j : Nat} {ρ : Rho} {ns : List Int} {k : Nat} (hi : ρ[i]? = some (.da (.scr ns))) (hj : ρ[j]? = some (.da (.int (k : Int)))) : ∃ row : List Int, callN f__law_bag (consAr (varE i) (consAr (varE j) nilAr)) ρ = .ok (row.map D.int, ρ) := by
  obtain ⟨row, e⟩ := law_bag ns k
  exact ⟨row, callN_of (xs := [.scr ns, .int (k : Int)]) (by simp [hi, hj]) e⟩
end MA

set_option maxHeartbeats 4000000
/-! N1: running functions on data step by step, from what is wanted of the end. -/
namespace MA
open PySem PySem.Spec PyProof.Rows L2 DL PK
def Pt.isK : Pt → Bool
  | .blk _ _ => true
  | _ => false
theorem kind_block (p : Pt) : eqE (.str p.kind) (.str sBlock) = some (.bl p.isK) := by cases p <;> simp [Pt.kind, Pt.isK]
theorem isB_brk : Pt.brk.isB = true := rfl
theorem isB_blk (n : Int) (nx : Bool) : (Pt.blk n nx).isB = false := rfl
theorem isB_txt (ws : List Int) (nx wh : Bool) : (Pt.txt ws nx wh).isB = false := rfl
theorem isT_brk : Pt.brk.isT = false := rfl
theorem isT_blk (n : Int) (nx : Bool) : (Pt.blk n nx).isT = false := rfl
theorem isT_txt (ws : List Int) (nx wh : Bool) : (Pt.txt ws nx wh).isT = true := rfl
theorem isK_brk : Pt.brk.isK = false := rfl
theorem isK_blk (n : Int) (nx : Bool) : (Pt.blk n nx).isK = true := rfl
theorem isK_txt (ws : List Int) (nx wh : Bool) : (Pt.txt ws nx wh).isK = false := rfl
/-! ### what is wanted of a run; X: of an error -/
def Wd {α : Type} (r : Rs α) (P : α → Prop) (X : Xc → Prop) : Prop := match r with | .ok a => P a | .er x => X x | .no => False
section
variable {α β : Type} {P Q : α → Prop} {P2 : β → Prop} {X : Xc → Prop}
theorem Wd.bind {r : Rs α} {f : α → Rs β} (h : Wd r (fun a => Wd (f a) P2 X) X) : Wd (r.bind f) P2 X := by cases r <;> exact h
theorem Wd.mono {r : Rs α} (h : Wd r P X) (k : ∀ a, P a → Q a) : Wd r Q X := by
  cases r with
  | ok a => exact k a h
  | er x => exact h
  | no => exact h
theorem Wd.opt {o : Option α} {f : α → Rs β} {a : α} (e : o = some a) (h : Wd (f a) P2 X) : Wd ((Rs.ofO o).bind f) P2 X := by rw [e]; exact h
theorem Wd.noX {r : Rs α} (h : Wd r P fun _ => False) : Wd (DL.noX r) P X := by
  cases r with
  | ok a => exact h
  | er x => exact h.elim
  | no => exact h.elim
theorem Wd.ok {r : Rs α} (h : Wd r P fun _ => False) : ∃ a, r = .ok a ∧ P a := by
  cases r with
  | ok a => exact ⟨a, rfl, h⟩
  | er x => exact h.elim
  | no => exact h.elim
theorem Wd.of {r : Rs α} {a : α} (e : r = .ok a) (h : P a) : Wd r P X := by rw [e]; exact h
theorem Wd.er {r : Rs α} {x : Xc} (e : r = .er x) (h : X x) : Wd r P X := by rw [e]; exact h
end
structure WE (f : FE) (ρ : Rho) (P : D → Rho → Prop) (X : Xc → Prop) : Prop where
  w : Wd (f ρ) (fun r => P r.1 r.2) X
structure WB (f : FB) (ρ : Rho) (P : Bool → Rho → Prop) (X : Xc → Prop) : Prop where
  w : Wd (f ρ) (fun r => P r.1 r.2) X
structure WL (f : Rho → Rs (List D × Rho)) (ρ : Rho) (P : List D → Rho → Prop) (X : Xc → Prop) : Prop where
  w : Wd (f ρ) (fun r => P r.1 r.2) X
structure WA (f : FA) (ρ : Rho) (P : List DL.Arg → Rho → Prop) (X : Xc → Prop) : Prop where
  w : Wd (f ρ) (fun r => P r.1 r.2) X
structure WO (f : FO) (ρ : Rho) (P : Option Int → Rho → Prop) (X : Xc → Prop) : Prop where
  w : Wd (f ρ) (fun r => P r.1 r.2) X
structure WG (g : FG) (d : D) (ρ : Rho) (P : Rho → Prop) (X : Xc → Prop) : Prop where
  w : Wd (g d ρ) P X
structure WGs (g : List D → Rho → Rs Rho) (ds : List D) (ρ : Rho) (P : Rho → Prop) (X : Xc → Prop) : Prop where
  w : Wd (g ds ρ) P X
def outP (N : Rho → Prop) (R : Rv → Rho → Prop) : Out → Prop
  | .nx ρ => N ρ
  | .rt r ρ => R r ρ
structure WS (f : FS) (ρ : Rho) (N : Rho → Prop) (R : Rv → Rho → Prop) (X : Xc → Prop) : Prop where
  w : Wd (f ρ) (outP N R) X
/-- an operation -/
def OpK {α : Type} (o : Option α) (P : α → Prop) : Prop := ∃ z, o = some z ∧ P z
theorem OpK.mk {α : Type} {o : Option α} {P : α → Prop} {z : α} (h : o = some z) (p : P z) : OpK o P := ⟨z, h, p⟩
/-- a call with data -/
def IsK (f : FD) (xs : List D) (P : D → Prop) (X : Xc → Prop) : Prop := (∃ r, Is f xs r ∧ P r) ∨ ∃ x, Er f xs x ∧ X x
theorem IsK.mk {f : FD} {xs : List D} {P : D → Prop} {X : Xc → Prop} {r : D} (h : Is f xs r) (p : P r) : IsK f xs P X := .inl ⟨r, h, p⟩
theorem IsK.er {f : FD} {xs : List D} {P : D → Prop} {X : Xc → Prop} {x : Xc} (h : Er f xs x) (p : X x) : IsK f xs P X := .inr ⟨x, h, p⟩
/-- .. with a bag ahead -/
def IsB (f : FD) (m : Mo) (xs : List D) (r : D) (m' : Mo) : Prop := f (.mu m :: xs.map Sl.da) = .ok (.da r, .mu m' :: xs.map Sl.da)
def BagK (f : FD) (m : Mo) (xs : List D) (P : D → Mo → Prop) : Prop := ∃ r m', IsB f m xs r m' ∧ P r m'
theorem BagK.mk {f : FD} {m m' : Mo} {xs : List D} {r : D} {P : D → Mo → Prop} (h : IsB f m xs r m') (p : P r m') : BagK f m xs P := ⟨r, m', h, p⟩
/-- a value of one kind -/
def BlK (d : D) (P : Bool → Prop) : Prop := ∃ k, d = .bl k ∧ P k
def InK (d : D) (P : Int → Prop) : Prop := ∃ k, d = .int k ∧ P k
def StK (d : D) (P : Str → Prop) : Prop := ∃ k, d = .str k ∧ P k
def TuK (d : D) (P : List D → Prop) : Prop := ∃ k, d = .tup k ∧ P k
def LsK (d : D) (P : List D → Prop) : Prop := ∃ k, d = .lst k ∧ P k
def SqK (d : D) (P : List D → Prop) : Prop := ∃ k, (d = .lst k ∨ d = .tup k) ∧ P k
def P2K (ds : List D) (P : D → D → Prop) : Prop := ∃ d e, ds = [d, e] ∧ P d e
def P3K (ds : List D) (P : D → D → D → Prop) : Prop := ∃ d e f, ds = [d, e, f] ∧ P d e f
def I1K (ds : List D) (P : Int → Prop) : Prop := ∃ j, ds = [.int j] ∧ P j
def I2K (ds : List D) (P : Int → Int → Prop) : Prop := ∃ i j, ds = [.int i, .int j] ∧ P i j
def ZiK (ds : List D) (P : List D → List D → Prop) : Prop := ∃ x y, (ds = [.lst x, .lst y] ∨ ds = [.tup x, .tup y]) ∧ P x y
def E1K (ds : List D) (P : List D → Prop) : Prop := ∃ x, ds = [.lst x] ∧ P x
def MoK (m : Mo) (P : List D → Prop) : Prop := ∃ ds, m = .lst ds ∧ P ds
theorem P2K.mk {ds : List D} {d e : D} {P : D → D → Prop} (h0 : ds = [d, e]) (h : P d e) : P2K ds P := ⟨d, e, h0, h⟩
theorem P3K.mk {ds : List D} {d e f : D} {P : D → D → D → Prop} (h0 : ds = [d, e, f]) (h : P d e f) : P3K ds P := ⟨d, e, f, h0, h⟩
theorem I1K.mk {ds : List D} {j : Int} {P : Int → Prop} (h0 : ds = [.int j]) (h : P j) : I1K ds P := ⟨j, h0, h⟩
theorem I2K.mk {ds : List D} {i j : Int} {P : Int → Int → Prop} (h0 : ds = [.int i, .int j]) (h : P i j) : I2K ds P := ⟨i, j, h0, h⟩
theorem ZiK.lst {ds x y : List D} {P : List D → List D → Prop} (h0 : ds = [.lst x, .lst y]) (h : P x y) : ZiK ds P := ⟨x, y, .inl h0, h⟩
theorem ZiK.tup {ds x y : List D} {P : List D → List D → Prop} (h0 : ds = [.tup x, .tup y]) (h : P x y) : ZiK ds P := ⟨x, y, .inr h0, h⟩
theorem E1K.mk {ds x : List D} {P : List D → Prop} (h0 : ds = [.lst x]) (h : P x) : E1K ds P := ⟨x, h0, h⟩
theorem MoK.mk {m : Mo} {ds : List D} {P : List D → Prop} (h0 : m = .lst ds) (h : P ds) : MoK m P := ⟨ds, h0, h⟩
theorem BlK.mk {d : D} {k : Bool} {P : Bool → Prop} (h0 : d = .bl k) (h : P k) : BlK d P := ⟨k, h0, h⟩
theorem InK.mk {d : D} {k : Int} {P : Int → Prop} (h0 : d = .int k) (h : P k) : InK d P := ⟨k, h0, h⟩
theorem StK.mk {d : D} {k : Str} {P : Str → Prop} (h0 : d = .str k) (h : P k) : StK d P := ⟨k, h0, h⟩
theorem TuK.mk {d : D} {k : List D} {P : List D → Prop} (h0 : d = .tup k) (h : P k) : TuK d P := ⟨k, h0, h⟩
theorem LsK.mk {d : D} {k : List D} {P : List D → Prop} (h0 : d = .lst k) (h : P k) : LsK d P := ⟨k, h0, h⟩
theorem SqK.lst {d : D} {k : List D} {P : List D → Prop} (h0 : d = .lst k) (h : P k) : SqK d P := ⟨k, .inl h0, h⟩
theorem SqK.tup {d : D} {k : List D} {P : List D → Prop} (h0 : d = .tup k) (h : P k) : SqK d P := ⟨k, .inr h0, h⟩
theorem if_t {c : Prop} [Decidable c] {A B : Prop} (h : c) (p : A) : if c then A else B := by rw [if_pos h]; exact p
theorem if_nt {c : Bool} {A B : Prop} (h : c = true) (p : B) : if (!c) = true then A else B := by subst h; exact p
theorem if_nf {c : Bool} {A B : Prop} (h : c = false) (p : A) : if (!c) = true then A else B := by subst h; exact p
theorem if_f {c : Bool} {A B : Prop} (h : c = false) (p : B) : if c = true then A else B := by subst h; rw [if_neg Bool.false_ne_true]; exact p
section
variable {ρ ρ1 ρ2 ρ3 : Rho} {i j k : Nat} {d a b c : D} {fa fb fd : FE} {fas : Rho → Rs (List D × Rho)} {g : D → D → Option D} {u : D → Option D} {P : D → Rho → Prop} {B : Bool → Rho → Prop} {PL : List D → Rho → Prop} {N : Rho → Prop} {R : Rv → Rho → Prop} {X : Xc → Prop} {t t' : FB} {s s' : FS} {ds : List D} {gs : List D → Rho → Rs Rho}
theorem WE_ret (p : P d ρ) : WE (retE d) ρ P X := ⟨p⟩
theorem WE_var (h : ρ[i]? = some (.da d)) (p : P d ρ) : WE (varE i) ρ P X := ⟨Wd.of (a := (d, ρ)) (by unfold varE; rw [h]) p⟩
theorem WE_move (h : ρ[i]? = some (.mu (.lst ds))) (hs : ρ.set i .un = ρ1) (p : P (.lst ds) ρ1) : WE (moveE i) ρ P X := by refine ⟨?_⟩; subst hs; exact Wd.of (a := (.lst ds, _)) (by unfold moveE; rw [h]) p
theorem WE_pop (h : ρ[i]? = some (.mu (.lst (ds ++ [d])))) (hs : ρ.set i (.mu (.lst ds)) = ρ1) (p : P d ρ1) : WE (popE i) ρ P X := by refine ⟨?_⟩; subst hs; exact Wd.of (a := (d, _)) (by unfold popE; rw [h]; simp) p
theorem WE_bin (h : WE fa ρ (fun a ρ1 => WE fb ρ1 (fun b ρ2 => OpK (g a b) fun z => P z ρ2) X) X) : WE (binE g fa fb) ρ P X := ⟨Wd.bind (Wd.mono h.w fun _ h2 => Wd.bind (Wd.mono h2.w fun _ ⟨_, e, q⟩ => Wd.opt e q))⟩
theorem WE_un (h : WE fa ρ (fun a ρ1 => OpK (u a) fun z => P z ρ1) X) : WE (unE u fa) ρ P X := ⟨Wd.bind (Wd.mono h.w fun _ ⟨_, e, q⟩ => Wd.opt e q)⟩
theorem WE_isi {T : String} (h : WE fa ρ (fun a ρ1 => OpK (isiD T a) fun z => P z ρ1) X) : WE (isiE T fa) ρ P X := WE_un h
theorem WE_and (h : WE fa ρ (fun a ρ1 => BlK a fun k => if k = true then WE fb ρ1 P X else P (.bl false) ρ1) X) : WE (andE fa fb) ρ P X := ⟨Wd.bind (Wd.mono h.w fun r ⟨k, e, q⟩ => by
    obtain ⟨r1, r2⟩ := r
    cases (show r1 = _ from e)
    cases k with
    | true => rw [if_pos rfl] at q; (first | exact q.w | exact q)
    | false => rw [if_neg Bool.false_ne_true] at q; (first | exact q.w | exact q))⟩
theorem WE_or (h : WE fa ρ (fun a ρ1 => BlK a fun k => if k = true then P (.bl true) ρ1 else WE fb ρ1 P X) X) : WE (orE fa fb) ρ P X := ⟨Wd.bind (Wd.mono h.w fun r ⟨k, e, q⟩ => by
    obtain ⟨r1, r2⟩ := r
    cases (show r1 = _ from e)
    cases k with
    | true => rw [if_pos rfl] at q; (first | exact q.w | exact q)
    | false => rw [if_neg Bool.false_ne_true] at q; (first | exact q.w | exact q))⟩
theorem WE_not (h : WE fa ρ (fun a ρ1 => BlK a fun k => P (.bl (!k)) ρ1) X) : WE (notE fa) ρ P X := ⟨Wd.bind (Wd.mono h.w fun r ⟨k, e, q⟩ => by
    obtain ⟨r1, r2⟩ := r
    cases (show r1 = _ from e)
    (first | exact q.w | exact q))⟩
theorem WE_if (h : WB t ρ (fun k ρ1 => if k = true then WE fa ρ1 P X else WE fb ρ1 P X) X) : WE (ifE t fa fb) ρ P X := ⟨Wd.bind (Wd.mono h.w fun r q => by
    obtain ⟨k, r2⟩ := r
    dsimp only at q ⊢
    cases k with
    | true => rw [if_pos rfl] at q ⊢; (first | exact q.w | exact q)
    | false => rw [if_neg Bool.false_ne_true] at q ⊢; (first | exact q.w | exact q))⟩
theorem WE_tup (h : WL fas ρ (fun ds ρ1 => ds.length ≤ sizeLine ∧ P (.tup ds) ρ1) X) : WE (tupE fas) ρ P X := ⟨Wd.bind (Wd.mono h.w fun _ ⟨l, q⟩ => by rw [if_pos l]; (first | exact q.w | exact q))⟩
theorem WE_lst (h : WL fas ρ (fun ds ρ1 => ds.length ≤ sizeLine ∧ P (.lst ds) ρ1) X) : WE (lstE fas) ρ P X := ⟨Wd.bind (Wd.mono h.w fun _ ⟨l, q⟩ => by rw [if_pos l]; (first | exact q.w | exact q))⟩
theorem WE_fun {g : List D → Option D} (h : WL fas ρ (fun ds ρ1 => OpK (g ds) fun z => P z ρ1) X) : WE (callE g fas) ρ P X := ⟨Wd.bind (Wd.mono h.w fun _ ⟨_, e, q⟩ => Wd.opt e q)⟩
theorem WE_mt1 {g : Str → D → Option D} (h : WE fa ρ (fun a ρ1 => StK a fun x => WE fb ρ1 (fun b ρ2 => OpK (g x b) fun z => P z ρ2) X) X) : WE (mt1E g fa fb) ρ P X := ⟨Wd.bind (Wd.mono h.w fun r ⟨x, e, q⟩ => by
    obtain ⟨r1, r2⟩ := r
    cases (show r1 = _ from e)
    exact Wd.bind (Wd.mono q.w fun _ ⟨_, e, q⟩ => Wd.opt e q))⟩
theorem WE_chain {g' : D → D → Option D} (h : WE fa ρ (fun a ρ1 => WE fb ρ1 (fun b ρ2 => OpK (g a b) fun z => BlK z fun k => if k = true then WE fd ρ2 (fun c ρ3 => OpK (g' b c) fun z => P z ρ3) X else P (.bl false) ρ2) X) X) : WE (chainE g g' fa fb fd) ρ P X := ⟨Wd.bind (Wd.mono h.w fun _ h2 => Wd.bind (Wd.mono h2.w fun _ ⟨_, e, k, e2, q⟩ => Wd.opt e (by
    subst e2
    cases k with
    | true => rw [if_pos rfl] at q; exact Wd.bind (Wd.mono q.w fun _ ⟨_, e, q⟩ => Wd.opt e q)
    | false => rw [if_neg Bool.false_ne_true] at q; (first | exact q.w | exact q))))⟩
theorem WO_no {PO : Option Int → Rho → Prop} (p : PO none ρ) : WO noO ρ PO X := ⟨p⟩
theorem WO_some {PO : Option Int → Rho → Prop} (h : WE fa ρ (fun a ρ1 => InK a fun i => PO (some i) ρ1) X) : WO (someO fa) ρ PO X := ⟨Wd.bind (Wd.mono h.w fun r ⟨k, e, q⟩ => by
    obtain ⟨r1, r2⟩ := r
    cases (show r1 = _ from e)
    (first | exact q.w | exact q))⟩
theorem WE_sl {fl fh : FO} (h : WE fa ρ (fun a ρ1 => WO fl ρ1 (fun l ρ2 => WO fh ρ2 (fun hh ρ3 => OpK (slD a l hh) fun z => P z ρ3) X) X) X) : WE (slE fa fl fh) ρ P X := ⟨Wd.bind (Wd.mono h.w fun _ h2 => Wd.bind (Wd.mono h2.w fun _ h3 => Wd.bind (Wd.mono h3.w fun _ ⟨_, e, q⟩ => Wd.opt e q)))⟩
theorem WE_listRg (h : WE fa ρ (fun a ρ1 => WE fb ρ1 (fun b ρ2 => InK a fun i => InK b fun j => ((-1000000 ≤ i ∧ i ≤ 2000000000) ∧ (-1000000 ≤ j ∧ j ≤ 2000000000) ∧ j - i ≤ 1000000) ∧ P (.lst (rgD i (j - i).toNat)) ρ2) X) X) : WE (listRgE fa fb) ρ P X := ⟨Wd.bind (Wd.mono h.w fun r h2 => Wd.bind (Wd.mono h2.w fun s ⟨i, e1, j, e2, h, q⟩ => by
    obtain ⟨r1, r2⟩ := r
    obtain ⟨s1, s2⟩ := s
    cases (show r1 = _ from e1)
    cases (show s1 = _ from e2)
    exact Wd.of (a := (.lst (rgD i (j - i).toNat), s2)) (if_pos ⟨by omega, by omega, by omega, by omega, by omega⟩) q))⟩
theorem WL_nil (p : PL [] ρ) : WL nilA ρ PL X := ⟨p⟩
theorem WL_cons (h : WE fa ρ (fun a ρ1 => WL fas ρ1 (fun ds ρ2 => PL (a :: ds) ρ2) X) X) : WL (consA fa fas) ρ PL X := ⟨Wd.bind (Wd.mono h.w fun _ h2 => Wd.bind (Wd.mono h2.w fun _ q => q))⟩
theorem WA_nil {PA : List DL.Arg → Rho → Prop} (p : PA [] ρ) : WA nilAr ρ PA X := ⟨p⟩
theorem WA_cons {PA : List DL.Arg → Rho → Prop} {far : FA} (h : WE fa ρ (fun a ρ1 => WA far ρ1 (fun xs ρ2 => PA (.inl a :: xs) ρ2) X) X) : WA (consAr fa far) ρ PA X := ⟨Wd.bind (Wd.mono h.w fun _ h2 => Wd.bind (Wd.mono h2.w fun _ q => q))⟩
theorem WA_own {PA : List DL.Arg → Rho → Prop} {far : FA} {m : Mo} (hm : ρ[i]? = some (.mu m)) (h : WA far ρ (fun xs ρ2 => PA (.inr i :: xs) ρ2) X) : WA (ownAr i far) ρ PA X := by
  refine ⟨?_⟩
  show Wd (ownAr i far ρ) _ _
  rw [ownAr_eq, if_pos (by rw [hm]; rfl)]
  exact Wd.bind (Wd.mono h.w fun _ q => q)
/-- the arguments of a call: all data -/
def ArK (xs : List DL.Arg) (P : List D → Prop) : Prop := ∃ ds : List D, xs = ds.map Sum.inl ∧ P ds
theorem callD_data {f : FD} {far : FA} (h : WA far ρ (fun xs ρ1 => ArK xs fun ds => IsK f ds (fun r => P r ρ1) X) X) : WE (callD f far) ρ P X := by
  refine ⟨?_⟩
  refine Wd.bind (Wd.bind (Wd.mono h.w fun r q => ?_))
  obtain ⟨xs, ρ1⟩ := r
  obtain ⟨ds, e, q⟩ := q
  cases (show xs = _ from e)
  show Wd (callK f (ds.map Sum.inl) ρ1) _ _
  rcases q with ⟨r, h1, h2⟩ | ⟨x, h1, h2⟩
  · exact Wd.of (callK_is h1) h2
  · exact Wd.er (callK_er h1) h2
theorem callD_data0 {f : FD} (h : WA nilAr ρ (fun xs ρ1 => ArK xs fun ds => IsK f ds (fun r => P r ρ1) X) X) : WE (callD f nilAr) ρ P X := callD_data h
theorem callD_data1 {f : FD} {far : FA} (h : WA (consAr fa far) ρ (fun xs ρ1 => ArK xs fun ds => IsK f ds (fun r => P r ρ1) X) X) : WE (callD f (consAr fa far)) ρ P X := callD_data h
theorem ArK.a0 {P : List D → Prop} (h : P []) : ArK [] P := ⟨[], rfl, h⟩
theorem ArK.a1 {P : List D → Prop} (h : P [a]) : ArK [.inl a] P := ⟨[a], rfl, h⟩
theorem ArK.a2 {P : List D → Prop} (h : P [a, b]) : ArK [.inl a, .inl b] P := ⟨[a, b], rfl, h⟩
theorem ArK.a3 {P : List D → Prop} (h : P [a, b, c]) : ArK [.inl a, .inl b, .inl c] P := ⟨[a, b, c], rfl, h⟩
theorem ArK.a4 {P : List D → Prop} (h : P [a, b, c, d]) : ArK [.inl a, .inl b, .inl c, .inl d] P := ⟨[a, b, c, d], rfl, h⟩
theorem ArK.a5 {e : D} {P : List D → Prop} (h : P [a, b, c, d, e]) : ArK [.inl a, .inl b, .inl c, .inl d, .inl e] P := ⟨[a, b, c, d, e], rfl, h⟩
/-- .. a bag ahead, then data -/
def ArB (xs : List DL.Arg) (P : Nat → List D → Prop) : Prop := ∃ (i : Nat) (ds : List D), xs = .inr i :: ds.map Sum.inl ∧ P i ds
theorem ArB.a0 {P : Nat → List D → Prop} (h : P i []) : ArB [.inr i] P := ⟨i, [], rfl, h⟩
theorem ArB.a1 {P : Nat → List D → Prop} (h : P i [a]) : ArB [.inr i, .inl a] P := ⟨i, [a], rfl, h⟩
theorem ArB.a2 {P : Nat → List D → Prop} (h : P i [a, b]) : ArB [.inr i, .inl a, .inl b] P := ⟨i, [a, b], rfl, h⟩
theorem ArB.a3 {P : Nat → List D → Prop} (h : P i [a, b, c]) : ArB [.inr i, .inl a, .inl b, .inl c] P := ⟨i, [a, b, c], rfl, h⟩
/-- the bag in a slot -/
def SlK (ρ : Rho) (i : Nat) (P : Mo → Prop) : Prop := ∃ m, ρ[i]? = some (.mu m) ∧ P m
theorem SlK.mk {m : Mo} {P : Mo → Prop} (h : ρ[i]? = some (.mu m)) (p : P m) : SlK ρ i P := ⟨m, h, p⟩
def SetK (ρ : Rho) (i : Nat) (s : Sl) (P : Rho → Prop) : Prop := P (ρ.set i s)
theorem SetK.mk {s : Sl} {P : Rho → Prop} (h : ρ.set i s = ρ1) (p : P ρ1) : SetK ρ i s P := by unfold SetK; rw [h]; exact p
def AppK (ds : List D) (d : D) (P : List D → Prop) : Prop := P (ds ++ [d])
theorem AppK.mk {ds es : List D} {d : D} {P : List D → Prop} (h : ds ++ [d] = es) (p : P es) : AppK ds d P := by unfold AppK; rw [h]; exact p
theorem callD_bag {f : FD} {far : FA} (h : WA far ρ (fun xs ρ1 => ArB xs fun i ds => SlK ρ1 i fun m => BagK f m ds fun r m' => SetK ρ1 i (.mu m') fun ρ2 => P r ρ2) X) : WE (callD f far) ρ P X := by
  refine ⟨?_⟩
  refine Wd.bind (Wd.bind (Wd.mono h.w fun r q => ?_))
  obtain ⟨xs, ρ1⟩ := r
  obtain ⟨i, ds, e, m, hm, r, m', hf, q⟩ := q
  cases (show xs = _ from e)
  show Wd (callK f (.inr i :: ds.map Sum.inl) ρ1) _ _
  exact Wd.of (ckO (xs := ds) hm hf) q
/-- a def that hands back a new list -/
def IsF (f : FD) (xs : List D) (row : List D) : Prop := f (xs.map Sl.da) = .ok (.fr row, xs.map Sl.da)
def FrK (f : FD) (xs : List D) (P : List D → Prop) : Prop := ∃ row, IsF f xs row ∧ P row
theorem FrK.mk {f : FD} {xs row : List D} {P : List D → Prop} (h : IsF f xs row) (p : P row) : FrK f xs P := ⟨row, h, p⟩
theorem WL_callN {f : FD} {far : FA} (h : WA far ρ (fun xs ρ1 => ArK xs fun ds => FrK f ds fun row => PL row ρ1) X) : WL (callN f far) ρ PL X := by
  refine ⟨Wd.bind (Wd.bind (Wd.mono h.w fun r q => ?_))⟩
  obtain ⟨xs, ρ1⟩ := r
  obtain ⟨ds, e, row, h1, h2⟩ := q
  cases (show xs = _ from e)
  show Wd (callK f (ds.map Sum.inl) ρ1) _ _
  have hk : callK f (ds.map Sum.inl) ρ1 = .ok (.fr row, ρ1) := by
    unfold callK
    simp only [own_inl, List.nodup_nil, if_true, argSls_inl, Rs.ofO_some, Rs.ok_bind]
    rw [show f (ds.map Sl.da) = .ok (.fr row, ds.map Sl.da) from h1]
    simp [putB_inl]
  exact Wd.of hk h2
theorem callD_bag1 {f : FD} {far : FA} (h : WA (ownAr i far) ρ (fun xs ρ1 => ArB xs fun i ds => SlK ρ1 i fun m => BagK f m ds fun r m' => SetK ρ1 i (.mu m') fun ρ2 => P r ρ2) X) : WE (callD f (ownAr i far)) ρ P X := callD_bag h
theorem WE_err {nm : Xc → Option Str} {fe : FE} (hh : hide ρ = ρ1) (h : WE fe ρ1 (fun _ _ => P (.str "") ρ) (fun x => OpK (nm x) fun w => P (.str w) ρ)) : WE (errF nm fe) ρ P X := by
  refine ⟨?_⟩
  subst hh
  have h := h.w
  unfold errF
  cases hf : fe (hide ρ) with
  | no => rw [hf] at h; exact h
  | ok r => rw [hf] at h; exact h
  | er x =>
    rw [hf] at h
    obtain ⟨w, e, q⟩ := h
    dsimp only
    rw [e]
    (first | exact q.w | exact q)
theorem WB_tst (h : WE fa ρ (fun a ρ1 => BlK a fun k => B k ρ1) X) : WB (tstB fa) ρ B X := ⟨Wd.bind (Wd.mono h.w fun r ⟨k, e, q⟩ => by
    obtain ⟨r1, r2⟩ := r
    cases (show r1 = _ from e)
    (first | exact q.w | exact q))⟩
theorem WB_yes (p : B true ρ) : WB yesB ρ B X := ⟨p⟩
theorem WB_and (h : WB t ρ (fun k ρ1 => if k = true then WB t' ρ1 B X else B false ρ1) X) : WB (andB t t') ρ B X := ⟨Wd.bind (Wd.mono h.w fun r q => by
    obtain ⟨k, r2⟩ := r
    dsimp only at q ⊢
    cases k with
    | true => rw [if_pos rfl] at q ⊢; (first | exact q.w | exact q)
    | false => rw [if_neg Bool.false_ne_true] at q ⊢; (first | exact q.w | exact q))⟩
theorem WB_or (h : WB t ρ (fun k ρ1 => if k = true then B true ρ1 else WB t' ρ1 B X) X) : WB (orB t t') ρ B X := ⟨Wd.bind (Wd.mono h.w fun r q => by
    obtain ⟨k, r2⟩ := r
    dsimp only at q ⊢
    cases k with
    | true => rw [if_pos rfl] at q ⊢; (first | exact q.w | exact q)
    | false => rw [if_neg Bool.false_ne_true] at q ⊢; (first | exact q.w | exact q))⟩
theorem WB_not (h : WB t ρ (fun k ρ1 => B (!k) ρ1) X) : WB (notB t) ρ B X := ⟨Wd.bind (Wd.mono h.w fun _ q => q)⟩
/-! ### targets -/
theorem WG_name (h : SetK ρ i (.da d) N) : WG (nameG i) d ρ N X := ⟨h⟩
theorem WG_tup {n : Nat} (h : TuK d fun ds => ds.length = n ∧ WGs gs ds ρ N X) : WG (tupG n gs) d ρ N X := by
  refine ⟨?_⟩
  obtain ⟨ds, rfl, l, q⟩ := h
  show Wd (tupG n gs (.tup ds) ρ) _ _
  rw [tupG_eq, if_pos l]
  (first | exact q.w | exact q)
theorem WG_lst {n : Nat} (h : LsK d fun ds => ds.length = n ∧ WGs gs ds ρ N X) : WG (lstG n gs) d ρ N X := by
  refine ⟨?_⟩
  obtain ⟨ds, rfl, l, q⟩ := h
  show Wd (lstG n gs (.lst ds) ρ) _ _
  rw [lstG_eq, if_pos l]
  (first | exact q.w | exact q)
theorem WGs_nil (p : N ρ) : WGs nilG [] ρ N X := ⟨p⟩
theorem WGs_cons {gg : FG} (h : WG gg d ρ (fun ρ1 => WGs gs ds ρ1 N X) X) : WGs (consG gg gs) (d :: ds) ρ N X := ⟨Wd.bind (Wd.mono h.w fun _ q => q.w)⟩
/-! ### statements -/
theorem WS_nx (p : N ρ) : WS nxS ρ N R X := ⟨p⟩
theorem WS_seq (h : WS s ρ (fun ρ1 => WS s' ρ1 N R X) R X) : WS (seqS s s') ρ N R X := ⟨Wd.bind (Wd.mono h.w fun o q => by
    cases o with
    | nx ρ1 => (first | exact q.w | exact q)
    | rt r ρ1 => (first | exact q.w | exact q))⟩
theorem WS_hyp (h : WS s ρ N R X) : WS s ρ N R X := h
theorem WS_cut (Q : Rho → Prop) (h : WS s ρ Q R X) (k : ∀ ρ, Q ρ → WS s' ρ N R X) : WS (seqS s s') ρ N R X :=
  WS_seq ⟨Wd.mono h.w fun o q => by
    cases o with
    | nx ρ1 => exact k ρ1 q
    | rt r ρ1 => exact q⟩
theorem WS_ret (h : WE fa ρ (fun d ρ1 => R (.da d) ρ1) X) : WS (retS fa) ρ N R X := ⟨Wd.bind (Wd.mono h.w fun _ q => q)⟩
theorem WS_drop (h : WE fa ρ (fun d ρ1 => N ρ1) X) : WS (dropS fa) ρ N R X := ⟨Wd.bind (Wd.mono h.w fun _ q => q)⟩
theorem WS_if (h : WB t ρ (fun k ρ1 => if k = true then WS s ρ1 N R X else WS s' ρ1 N R X) X) : WS (ifS t s s') ρ N R X := ⟨Wd.bind (Wd.mono h.w fun r q => by
    obtain ⟨k, r2⟩ := r
    dsimp only at q ⊢
    cases k with
    | true => rw [if_pos rfl] at q ⊢; (first | exact q.w | exact q)
    | false => rw [if_neg Bool.false_ne_true] at q ⊢; (first | exact q.w | exact q))⟩
theorem WS_asg {gg : FG} (h : WE fa ρ (fun d ρ1 => WG gg d ρ1 N X) X) : WS (asgS fa gg) ρ N R X := ⟨Wd.bind (Wd.mono h.w fun _ q => Wd.bind (Wd.mono q.w fun _ p => p))⟩
theorem WS_par (h : WL fas ρ (fun ds ρ1 => P2K ds fun d e => SetK ρ1 i (.da d) fun ρ2 => SetK ρ2 j (.da e) N) X) : WS (parS i j fas) ρ N R X := ⟨Wd.bind (Wd.mono h.w fun r ⟨d, e, e1, q⟩ => by
    obtain ⟨r1, r2⟩ := r
    cases (show r1 = _ from e1)
    (first | exact q.w | exact q))⟩
theorem WS_par3 (h : WL fas ρ (fun ds ρ1 => P3K ds fun d e f => SetK ρ1 i (.da d) fun ρ2 => SetK ρ2 j (.da e) fun ρ3 => SetK ρ3 k (.da f) N) X) : WS (par3S i j k fas) ρ N R X := ⟨Wd.bind (Wd.mono h.w fun r ⟨d, e, f, e1, q⟩ => by
    obtain ⟨r1, r2⟩ := r
    cases (show r1 = _ from e1)
    (first | exact q.w | exact q))⟩
theorem WS_setF (h : WL fas ρ (fun ds ρ1 => SetK ρ1 i (.mu (.lst ds)) N) X) : WS (setF i fas) ρ N R X := ⟨Wd.bind (Wd.mono h.w fun _ q => q)⟩
theorem WS_app (hl : ρ[i]? = some (.mu (.lst ds))) (h : WE fa ρ (fun d ρ1 => SlK ρ1 i fun m => MoK m fun ds => ds.length < 16777216 ∧ AppK ds d fun es => SetK ρ1 i (.mu (.lst es)) N) X) : WS (appS i fa) ρ N R X := by
  refine ⟨?_⟩
  show Wd (appS i fa ρ) _ _
  unfold appS
  rw [hl, if_pos (isL_mu ds)]
  refine Wd.bind (Wd.mono h.w fun r ⟨m, hm, ds2, em, l, q⟩ => ?_)
  subst em
  rw [hm]
  show Wd (if ds2.length < sizeLine then _ else _) _ _
  rw [if_pos (by rw [sz]; exact l)]
  (first | exact q.w | exact q)
theorem WS_raise {x : Xc} (h : X x) : WS (raiseS x) ρ N R X := ⟨h⟩
theorem WL_lst (h : WL fas ρ (fun ds ρ1 => ds.length ≤ sizeLine ∧ PL ds ρ1) X) : WL (lstF fas) ρ PL X := ⟨Wd.bind (Wd.mono h.w fun _ ⟨l, q⟩ => by rw [if_pos l]; (first | exact q.w | exact q))⟩
theorem WL_move (h : ρ[i]? = some (.mu (.lst ds))) (hs : ρ.set i .un = ρ1) (p : PL ds ρ1) : WL (moveF i) ρ PL X := by refine ⟨?_⟩; subst hs; exact Wd.of (a := (ds, _)) (by unfold moveF; rw [h]) p
theorem WL_cat (h : WE fa ρ (fun a ρ1 => WE fb ρ1 (fun b ρ2 => LsK a fun x => LsK b fun y => x.length + y.length ≤ sizeLine ∧ PL (x ++ y) ρ2) X) X) : WL (catF fa fb) ρ PL X := ⟨Wd.bind (Wd.mono h.w fun r h2 => Wd.bind (Wd.mono h2.w fun s ⟨x, e1, y, e2, l, q⟩ => by
    obtain ⟨r1, r2⟩ := r
    obtain ⟨s1, s2⟩ := s
    cases (show r1 = _ from e1)
    cases (show s1 = _ from e2)
    exact Wd.of (a := (x ++ y, s2)) (if_pos l) q))⟩
/-! ### what is walked -/
theorem WL_iterS (h : WE fa ρ (fun d ρ1 => SqK d fun ds => PL ds ρ1) X) : WL (iterS fa) ρ PL X := ⟨Wd.bind (Wd.mono h.w fun r ⟨ds, e, q⟩ => by
    obtain ⟨r1, r2⟩ := r
    rcases e with e | e <;> (cases (show r1 = _ from e); (first | exact q.w | exact q)))⟩
theorem WL_iterR1 (h : WL fas ρ (fun ds ρ1 => I1K ds fun j => (-1000000 ≤ j ∧ j ≤ 2000000000) ∧ PL (rgD 0 j.toNat) ρ1) X) : WL (iterR1 fas) ρ PL X := ⟨Wd.bind (Wd.mono h.w fun r ⟨j, e, l, q⟩ => by
    obtain ⟨r1, r2⟩ := r
    cases (show r1 = _ from e)
    exact Wd.of (a := (rgD 0 j.toNat, r2)) (if_pos ⟨by omega, by omega⟩) q)⟩
theorem WL_iterR2 (h : WL fas ρ (fun ds ρ1 => I2K ds fun i j => ((-1000000 ≤ i ∧ i ≤ 2000000000) ∧ (-1000000 ≤ j ∧ j ≤ 2000000000)) ∧ PL (rgD i (j - i).toNat) ρ1) X) : WL (iterR2 fas) ρ PL X := ⟨Wd.bind (Wd.mono h.w fun r ⟨i, j, e, l, q⟩ => by
    obtain ⟨r1, r2⟩ := r
    cases (show r1 = _ from e)
    exact Wd.of (a := (rgD i (j - i).toNat, r2)) (if_pos ⟨by omega, by omega, by omega, by omega⟩) q)⟩
theorem WL_iterZ (h : WL fas ρ (fun ds ρ1 => ZiK ds fun x y => PL (pairD x y) ρ1) X) : WL (iterZ fas) ρ PL X := ⟨Wd.bind (Wd.mono h.w fun r ⟨x, y, e, q⟩ => by
    obtain ⟨r1, r2⟩ := r
    rcases e with e | e <;> (cases (show r1 = _ from e); (first | exact q.w | exact q)))⟩
theorem WL_iterE (h : WL fas ρ (fun ds ρ1 => E1K ds fun x => PL (enumFrom 0 x) ρ1) X) : WL (iterE fas) ρ PL X := ⟨Wd.bind (Wd.mono h.w fun r ⟨x, e, q⟩ => by
    obtain ⟨r1, r2⟩ := r
    cases (show r1 = _ from e)
    (first | exact q.w | exact q))⟩
theorem forD_wp {gg : FG} {α : Type} (e : α → D) : ∀ (l : List α) (I : Nat → Rho → Prop) (ρ : Rho), I 0 ρ → (∀ (i : Nat) (a : α) (ρ : Rho), l[i]? = some a → I i ρ → WG gg (e a) ρ (fun ρ1 => WS s ρ1 (I (i + 1)) R X) X) → (∀ ρ, I l.length ρ → N ρ) → Wd (forD gg s (l.map e) ρ) (outP N R) X
  | [], I, ρ, h0, _, fin => fin ρ h0
  | a :: l, I, ρ, h0, step, fin => by
    refine Wd.bind (Wd.mono (step 0 a ρ rfl h0).w fun ρ2 h2 => Wd.bind (Wd.mono h2.w fun o h3 => ?_))
    cases o with
    | nx ρ3 => exact forD_wp e l (fun i => I (i + 1)) ρ3 h3 (fun i b ρ e r => step (i + 1) b ρ e r) fin
    | rt r ρ3 => exact h3
/-- a loop; I: what holds ahead of each turn -/
theorem WS_for {fi : FI} {gg : FG} {α : Type} (e : α → D) (l : List α) (I : Nat → Rho → Prop) (hi : WL fi ρ (fun ds ρ1 => ds = l.map e ∧ I 0 ρ1) X)
    (step : ∀ (i : Nat) (a : α) (ρ : Rho), l[i]? = some a → I i ρ → WG gg (e a) ρ (fun ρ1 => WS s ρ1 (I (i + 1)) R X) X) (fin : ∀ ρ, I l.length ρ → N ρ) : WS (forS fi gg s) ρ N R X := by
  refine ⟨Wd.bind (Wd.mono hi.w fun r ⟨e1, q⟩ => ?_)⟩
  obtain ⟨ds, ρ1⟩ := r
  cases (show ds = _ from e1)
  exact forD_wp e l I ρ1 q step fin
theorem WS_while {n : Nat} (I : Nat → Rho → Prop) (m : Nat) (hm : m < n) (h0 : I m ρ) (step : ∀ (m : Nat) (ρ : Rho), I m ρ → WB t ρ (fun k ρ1 => if k = true then WS s ρ1 (fun ρ2 => ∃ m', m' < m ∧ I m' ρ2) R X else N ρ1) X) : WS (whileD t s n) ρ N R X := by
  induction n generalizing m ρ with
  | zero => exact absurd hm (Nat.not_lt_zero _)
  | succ n ih =>
    refine ⟨?_⟩
    show Wd (whileD t s (n + 1) ρ) _ _
    refine Wd.bind (Wd.mono (step m ρ h0).w fun r q => ?_)
    obtain ⟨k, ρ1⟩ := r
    dsimp only at q ⊢
    cases k with
    | false => rw [if_neg Bool.false_ne_true] at q ⊢; exact q
    | true =>
      rw [if_pos rfl] at q ⊢
      refine Wd.bind (Wd.mono q.w fun o h3 => ?_)
      cases o with
      | nx ρ3 =>
        obtain ⟨m', lt, h4⟩ := h3
        exact (ih m' (by omega) h4).w
      | rt r ρ3 => exact h3
/-- a comprehension -/
theorem WE_lc {fi : FI} {gg : FG} {fe : FE} {vs : List Nat} {α : Type} (e : α → D) (φ : α → Option D) (l : List α) (hi : WL fi ρ (fun ds ρ1 => ds = l.map e ∧ ρ1 = ρ2) X) (hm : noMus ρ2 vs = true) (hw : wipeR ρ2 vs = ρ3) (hr : restR ρ2 ρ3 vs = ρ1) (hl : l.length ≤ 1000)
    (step : ∀ a ∈ l, WG gg (e a) ρ3 (fun ρ4 => WB t ρ4 (fun k ρ5 => if k = true then WE fe ρ5 (fun d ρ6 => φ a = some d ∧ wipeR ρ6 vs = ρ3) (fun _ => False) else φ a = none ∧ wipeR ρ5 vs = ρ3) (fun _ => False)) (fun _ => False))
    (p : P (.lst (l.filterMap φ)) ρ1) : WE (lcE fi gg t fe vs) ρ P X := by
  subst hw hr
  refine ⟨Wd.bind (Wd.mono hi.w fun r ⟨e1, e2⟩ => ?_)⟩
  obtain ⟨ds, ρ9⟩ := r
  cases (show ds = _ from e1)
  cases (show ρ9 = _ from e2)
  show Wd (if noMus ρ2 vs = true ∧ (l.map e).length ≤ sizeLine then _ else _) _ _
  rw [if_pos ⟨hm, by rw [List.length_map]; exact small hl⟩]
  refine Wd.bind (Wd.of (lcD_map e φ fun a ha => ?_) p)
  obtain ⟨ρ4, e4, h4⟩ := Wd.ok (step a ha).w
  obtain ⟨r5, e5, h5⟩ := Wd.ok h4.w
  obtain ⟨k, ρ5⟩ := r5
  unfold turnL
  rw [e4]
  simp only [noX_ok, Rs.ok_bind, e5]
  dsimp only at h5
  cases k with
  | false =>
    rw [if_neg Bool.false_ne_true] at h5
    simp only [Bool.false_eq_true, if_false]
    rw [h5.1, h5.2]
  | true =>
    rw [if_pos rfl] at h5
    obtain ⟨r6, e6, h6⟩ := Wd.ok h5.w
    obtain ⟨z, ρ6⟩ := r6
    simp only [if_true, e6, noX_ok, Rs.ok_bind]
    rw [show wipeR ρ6 vs = _ from h6.2, h6.1]
/-- .. without a test -/
theorem WE_lcM {fi : FI} {gg : FG} {fe : FE} {vs : List Nat} {α : Type} (e : α → D) (f : α → D) (l : List α) (hi : WL fi ρ (fun ds ρ1 => ds = l.map e ∧ ρ1 = ρ2) X) (hm : noMus ρ2 vs = true) (hw : wipeR ρ2 vs = ρ3) (hr : restR ρ2 ρ3 vs = ρ1) (hl : l.length ≤ 1000)
    (step : ∀ a ∈ l, WG gg (e a) ρ3 (fun ρ4 => WE fe ρ4 (fun d ρ6 => d = f a ∧ wipeR ρ6 vs = ρ3) (fun _ => False)) (fun _ => False))
    (p : P (.lst (l.map f)) ρ1) : WE (lcE fi gg yesB fe vs) ρ P X := by
  refine WE_lc (P := P) (X := X) e (fun a => some (f a)) l hi hm hw hr hl (fun a ha => ⟨Wd.mono (step a ha).w fun ρ4 h => ⟨?_⟩⟩) (by rw [fm_map f]; exact p)
  refine Wd.of (a := (true, ρ4)) rfl ?_
  show ite _ _ _
  exact if_t rfl ⟨Wd.mono h.w fun r ⟨h1, h2⟩ => ⟨by rw [h1], h2⟩⟩
/-- .. with a test -/
theorem WE_lcF {fi : FI} {gg : FG} {fe : FE} {vs : List Nat} {α : Type} (e : α → D) (c : α → Bool) (f : α → D) (l : List α) (hi : WL fi ρ (fun ds ρ1 => ds = l.map e ∧ ρ1 = ρ2) X) (hm : noMus ρ2 vs = true) (hw : wipeR ρ2 vs = ρ3) (hr : restR ρ2 ρ3 vs = ρ1) (hl : l.length ≤ 1000)
    (step : ∀ a ∈ l, WG gg (e a) ρ3 (fun ρ4 => WB t ρ4 (fun k ρ5 => k = c a ∧ wipeR ρ5 vs = ρ3 ∧ (c a = true → WE fe ρ5 (fun d ρ6 => d = f a ∧ wipeR ρ6 vs = ρ3) (fun _ => False))) (fun _ => False)) (fun _ => False))
    (p : P (.lst ((l.filter c).map f)) ρ1) : WE (lcE fi gg t fe vs) ρ P X := by
  refine WE_lc (P := P) (X := X) e (fun a => if c a = true then some (f a) else none) l hi hm hw hr hl (fun a ha => ⟨Wd.mono (step a ha).w fun ρ4 h => ⟨Wd.mono h.w fun r ⟨h1, h2, h3⟩ => ?_⟩⟩) (by rw [fm_filter c f]; exact p)
  obtain ⟨k, ρ5⟩ := r
  dsimp only at h1 h2 h3 ⊢
  subst h1
  cases hc : c a with
  | false => rw [if_neg Bool.false_ne_true]; exact ⟨by rw [if_neg Bool.false_ne_true], h2⟩
  | true => rw [if_pos rfl]; exact ⟨Wd.mono (h3 hc).w fun r ⟨h1, h2⟩ => ⟨by rw [if_pos rfl, h1], h2⟩⟩
theorem WE_ownNe (h : ρ[i]? = some (.mu (.lst ds))) (hf : (D.lst ds).fit = true) (p : B (!ds.isEmpty) ρ) : WB (ownNeNil i) ρ B X := ⟨Wd.of (a := (!ds.isEmpty, ρ)) (by unfold ownNeNil; rw [h]; exact if_pos hf) p⟩
end
/-! ### a def by its body -/
theorem backA_das : ∀ (xs : List D) (ρ : Rho), xs.length ≤ ρ.length → backA (xs.map Sl.da) ρ = some (xs.map Sl.da)
  | [], ρ, _ => rfl
  | x :: xs, [], h => absurd h (Nat.not_succ_le_zero _)
  | x :: xs, s :: ρ, h => by
    show (backA (xs.map Sl.da) ρ).map _ = _
    rw [backA_das xs ρ (Nat.le_of_succ_le_succ h)]
    rfl
theorem is_wp {n m : Nat} {b : FS} {xs : List D} {r : D} (hn : xs.length = n) (h : WS b (xs.map Sl.da ++ List.replicate (m - n) .un) (fun ρ => r = .non ∧ n ≤ ρ.length) (fun v ρ => v = .da r ∧ n ≤ ρ.length) fun _ => False) : Is (defF n m b) xs r := by
  obtain ⟨o, e, q⟩ := Wd.ok h.w
  subst hn
  cases o with
  | nx ρ => obtain ⟨rfl, l⟩ := q; exact is_nx rfl e (backA_das xs ρ l)
  | rt v ρ => obtain ⟨rfl, l⟩ := q; exact is_of rfl e (backA_das xs ρ l)
theorem er_wp {n m : Nat} {b : FS} {xs : List D} {x : Xc} (hn : xs.length = n) (h : WS b (xs.map Sl.da ++ List.replicate (m - n) .un) (fun _ => False) (fun _ _ => False) fun y => y = x) : Er (defF n m b) xs x := by
  refine er_of hn ?_
  have h := h.w
  cases e : b (xs.map Sl.da ++ List.replicate (m - n) .un) with
  | ok o =>
    rw [e] at h
    cases o with
    | nx ρ => exact h.elim
    | rt r ρ => exact h.elim
  | er y =>
    rw [e] at h
    rw [show y = x from h]
  | no => rw [e] at h; exact h.elim
theorem bag_wp {n m : Nat} {b : FS} {xs : List D} {r : D} {m0 m' : Mo} (hn : xs.length + 1 = n) (h : WS b (.mu m0 :: xs.map Sl.da ++ List.replicate (m - n) .un) (fun ρ => r = .non ∧ ∃ ρ', ρ = .mu m' :: ρ' ∧ xs.length ≤ ρ'.length) (fun v ρ => v = .da r ∧ ∃ ρ', ρ = .mu m' :: ρ' ∧ xs.length ≤ ρ'.length) fun _ => False) : IsB (defF n m b) m0 xs r m' := by
  obtain ⟨o, e, q⟩ := Wd.ok h.w
  subst hn
  unfold IsB defF
  rw [if_pos (by simp)]
  rw [e]
  have key : ∀ (v : Rv) (ρ : Rho), v = .da r → (∃ ρ', ρ = .mu m' :: ρ' ∧ xs.length ≤ ρ'.length) → ((Rs.ofO (backA (.mu m0 :: xs.map Sl.da) ρ)).bind fun ρ2 => Rs.ok (v, ρ2)) = .ok (.da r, .mu m' :: xs.map Sl.da) := fun v ρ e1 ⟨ρ', e2, l⟩ => by
    subst e1 e2
    rw [backA_mu, backA_das xs ρ' l]
    rfl
  cases o with
  | nx ρ => exact key _ _ (by rw [q.1]; rfl) q.2
  | rt v ρ => exact key v ρ q.1 q.2
/-- .. told by what holds of the answer -/
theorem bag_wpX {n m : Nat} {b : FS} {xs : List D} {m0 : Mo} (Pr : D → Prop) (hn : xs.length + 1 = n) (h : WS b (.mu m0 :: xs.map Sl.da ++ List.replicate (m - n) .un) (fun ρ => Pr .non ∧ ∃ (bs : List Int) (ρ' : Rho), ρ = .mu (.lst (bs.map D.int)) :: ρ' ∧ xs.length ≤ ρ'.length) (fun v ρ => ∃ r, v = .da r ∧ Pr r ∧ ∃ (bs : List Int) (ρ' : Rho), ρ = .mu (.lst (bs.map D.int)) :: ρ' ∧ xs.length ≤ ρ'.length) fun _ => False) :
    ∃ (r : D) (bs : List Int), Pr r ∧ IsB (defF n m b) m0 xs r (.lst (bs.map D.int)) := by
  obtain ⟨o, e, q⟩ := Wd.ok h.w
  have key : ∀ (r : D) (o : Out), b (.mu m0 :: xs.map Sl.da ++ List.replicate (m - n) .un) = .ok o → (outV o).1 = .da r → Pr r → (∃ (bs : List Int) (ρ' : Rho), (outV o).2 = .mu (.lst (bs.map D.int)) :: ρ' ∧ xs.length ≤ ρ'.length) → ∃ (r : D) (bs : List Int), Pr r ∧ IsB (defF n m b) m0 xs r (.lst (bs.map D.int)) := fun r o e e1 pr ⟨bs, ρ', e2, l⟩ => by
    refine ⟨r, bs, pr, ?_⟩
    subst hn
    unfold IsB defF
    rw [if_pos (by simp), e]
    simp only [Rs.ok_bind]
    rw [e1, e2, backA_mu, backA_das xs ρ' l]
    rfl
  cases o with
  | nx ρ => exact key .non _ e rfl q.1 q.2
  | rt v ρ =>
    obtain ⟨r, e1, pr, q2⟩ := q
    exact key r _ e e1 pr q2
end MA

set_option maxHeartbeats 4000000
/-! N3: what the laws write out: widths, lines. -/
namespace MA
open PySem PySem.Spec PyProof.Rows L2 DL PK
local macro_rules | `(tactic| array_mem_dec) => `(tactic| (simp only [List.set_cons_zero, List.set_cons_succ]; first | done | rfl))
local macro_rules | `(tactic| sizeOf_list_dec) => `(tactic| first | (with_reducible assumption) | exact rfl | assumption | exact Nat.le_of_ble_eq_true rfl | (rw [sz]; exact Nat.le_of_ble_eq_true rfl) | omega | (constructor <;> omega) | (refine ⟨⟨?_, ?_⟩, ?_, ?_⟩ <;> omega) | (refine ⟨⟨?_, ?_⟩, ⟨?_, ?_⟩, ?_⟩ <;> omega))
local macro_rules | `(tactic| array_get_dec) => `(tactic| first
  | ((with_reducible apply WE_var); exact rfl) | with_reducible refine WE_ret ?_ | ((with_reducible apply WS_hyp); (with_reducible assumption)) | with_reducible refine WS_seq ?_ | with_reducible refine WL_cons ?_ | with_reducible refine WL_nil ?_ | with_reducible refine WE_bin ?_
  | ((with_reducible apply OpK.mk); (with_reducible assumption)) | ((with_reducible apply OpK.mk); (simp only [eq_int, ne_int, allD_map, ix_kind, kind_break, kind_nbreak, kind_text, kind_block, isB_brk, isB_blk, isB_txt, isT_brk, isT_blk, isT_txt, isK_brk, isK_blk, isK_txt]; first | done | rfl)) | ((with_reducible apply OpK.mk); exact rfl) | ((with_reducible apply OpK.mk); (simp; rfl))
  | with_reducible refine WS_asg ?_ | with_reducible refine WG_name ?_ | with_reducible refine SetK.mk (by array_mem_dec) ?_
  | with_reducible refine WA_cons ?_ | with_reducible refine WA_nil ?_ | with_reducible refine callD_data1 ?_ | with_reducible refine ArK.a1 ?_ | with_reducible refine ArK.a2 ?_ | with_reducible refine ArK.a3 ?_ | with_reducible refine ArK.a4 ?_ | with_reducible refine ArK.a5 ?_ | with_reducible refine ArK.a0 ?_
  | ((with_reducible apply IsK.mk); (with_reducible assumption)) | ((with_reducible apply IsK.er); (with_reducible assumption))
  | with_reducible refine WS_if ?_ | with_reducible refine WB_tst ?_ | ((with_reducible apply BlK.mk); exact rfl) | with_reducible refine if_t rfl ?_ | with_reducible refine if_f rfl ?_ | with_reducible refine if_nt rfl ?_ | with_reducible refine if_nf rfl ?_ | ((with_reducible apply if_t); (with_reducible assumption)) | ((with_reducible apply if_f); (with_reducible assumption)) | ((with_reducible apply if_nt); (with_reducible assumption)) | ((with_reducible apply if_nf); (with_reducible assumption))
  | with_reducible refine WE_lst ?_ | with_reducible refine WE_tup ?_ | ((with_reducible refine And.intro ?_ ?_); (· sizeOf_list_dec)) | with_reducible refine WE_fun ?_ | with_reducible refine WS_ret ?_ | with_reducible refine WS_nx ?_
  | with_reducible refine WE_un ?_ | with_reducible refine WE_isi ?_ | with_reducible refine WE_and ?_ | with_reducible refine WE_or ?_ | with_reducible refine WE_not ?_ | with_reducible refine WE_if ?_ | with_reducible refine WE_mt1 ?_ | with_reducible refine WE_chain ?_ | with_reducible refine WE_sl ?_ | with_reducible refine WE_listRg ?_
  | with_reducible refine WO_no ?_ | with_reducible refine WO_some ?_ | ((with_reducible apply InK.mk); exact rfl) | ((with_reducible apply StK.mk); exact rfl) | ((with_reducible apply TuK.mk); exact rfl) | ((with_reducible apply LsK.mk); exact rfl) | ((with_reducible apply SqK.lst); exact rfl) | ((with_reducible apply SqK.tup); exact rfl)
  | with_reducible refine WB_yes ?_ | with_reducible refine WB_and ?_ | with_reducible refine WB_or ?_ | with_reducible refine WB_not ?_ | with_reducible refine WG_tup ?_ | with_reducible refine WG_lst ?_ | with_reducible refine WGs_nil ?_ | with_reducible refine WGs_cons ?_
  | with_reducible refine WS_drop ?_ | with_reducible refine WS_par ?_ | with_reducible refine WS_par3 ?_ | with_reducible refine WS_setF ?_ | with_reducible refine WS_raise ?_ | ((with_reducible apply WS_app); exact rfl) | ((with_reducible apply SlK.mk); exact rfl)
  | with_reducible refine WL_lst ?_ | with_reducible refine WL_cat ?_ | with_reducible refine WL_iterS ?_ | with_reducible refine WL_iterR1 ?_ | with_reducible refine WL_iterR2 ?_ | with_reducible refine WL_iterZ ?_ | with_reducible refine WL_iterE ?_
  | ((with_reducible apply WE_move); exact rfl; array_mem_dec) | ((with_reducible apply WL_move); exact rfl; array_mem_dec)
  | ((with_reducible apply WA_own); exact rfl) | with_reducible refine callD_bag1 ?_ | with_reducible refine callD_data0 ?_ | with_reducible refine ArB.a0 ?_ | with_reducible refine ArB.a1 ?_ | with_reducible refine ArB.a2 ?_ | with_reducible refine ArB.a3 ?_ | ((with_reducible apply BagK.mk); (with_reducible assumption))
  | with_reducible refine AppK.mk (by (try simp only [List.cons_append, List.nil_append]); first | done | rfl) ?_ | with_reducible refine WL_callN ?_ | ((with_reducible apply FrK.mk); (with_reducible assumption))
  | with_reducible refine WE_err (by simp only [DL.hide, List.map_cons, List.map_nil]; first | done | rfl) ?_
  | ((with_reducible apply P2K.mk); exact rfl) | ((with_reducible apply P3K.mk); exact rfl) | ((with_reducible apply I1K.mk); exact rfl) | ((with_reducible apply I2K.mk); exact rfl) | ((with_reducible apply ZiK.lst); exact rfl) | ((with_reducible apply ZiK.tup); exact rfl) | ((with_reducible apply E1K.mk); exact rfl) | ((with_reducible apply MoK.mk); exact rfl) | ((with_reducible apply Nat.le_of_ble_eq_true); exact rfl) | ((with_reducible apply Eq.symm); exact rfl) | (with_reducible refine fun (_ : _ = true) => ?_))
local macro_rules | `(tactic| clean_wf) => `(tactic| (refine is_wp rfl ?_; simp only [List.map_cons, List.map_nil, List.cons_append, List.nil_append, Nat.reduceSub, List.replicate]))
local macro_rules | `(tactic| simp_wf) => `(tactic| ((· (repeat array_get_dec)); (· exact rfl); (· (simp only [wipeR, List.set_cons_zero, List.set_cons_succ]; first | done | rfl)); (· (simp only [restR, List.set_cons_zero, List.set_cons_succ, List.getElem?_cons_zero, List.getElem?_cons_succ, Option.getD_some]; first | done | rfl))))
theorem maxI_is' {l : List Int} {m : Int} (h : m ∈ l) (h2 : ∀ x ∈ l, x ≤ m) : maxI l = m :=
  Int.le_antisymm (h2 _ (maxI_mem l (fun z => by rw [z] at h; cases h))) (maxI_ge l m h)
theorem maxI_glue (m : Int) (a r : List Int) : maxI (maxI (m :: a) :: r) = maxI (m :: (a ++ r)) := by
  have h1 := maxI_mem (m :: (a ++ r)) (by simp)
  have h2 := maxI_mem (m :: a) (by simp)
  refine maxI_is' ?_ fun x hx => ?_
  · rcases List.mem_cons.mp h1 with e | e
    · have := maxI_ge (m :: a) m List.mem_cons_self
      have := maxI_ge (m :: (a ++ r)) (maxI (m :: a)) (by
        rcases List.mem_cons.mp h2 with e2 | e2
        · rw [e2]; exact List.mem_cons_self
        · exact List.mem_cons_of_mem _ (List.mem_append_left _ e2))
      have : maxI (m :: (a ++ r)) = maxI (m :: a) := by omega
      rw [this]; exact List.mem_cons_self
    · rcases List.mem_append.mp e with e | e
      · have := maxI_ge (m :: a) _ (List.mem_cons_of_mem _ e)
        have := maxI_ge (m :: (a ++ r)) (maxI (m :: a)) (by
          rcases List.mem_cons.mp h2 with e2 | e2
          · rw [e2]; exact List.mem_cons_self
          · exact List.mem_cons_of_mem _ (List.mem_append_left _ e2))
        have : maxI (m :: (a ++ r)) = maxI (m :: a) := by omega
        rw [this]; exact List.mem_cons_self
      · exact List.mem_cons_of_mem _ e
  · rcases List.mem_cons.mp hx with e | e
    · rw [e]
      rcases List.mem_cons.mp h2 with e2 | e2
      · rw [e2]; exact maxI_ge _ _ List.mem_cons_self
      · exact maxI_ge _ _ (List.mem_cons_of_mem _ (List.mem_append_left _ e2))
    · exact maxI_ge _ _ (List.mem_cons_of_mem _ (List.mem_append_right _ e))
theorem foldl_low : ∀ (L : List (List Int)) (m : Int), L.foldl (fun l ws => maxI (l :: ws)) m = maxI (m :: L.flatten)
  | [], m => rfl
  | ws :: L, m => by
    rw [List.foldl_cons, foldl_low L, maxI_glue]
    rfl
theorem law_texts (d : List Pt) (h : d.length ≤ 1000) : Is f__law_texts [docD d] (.lst ((wordsIn d).map wD)) := words_in d h
theorem take_succ_foldl {α β : Type} (f : β → α → β) (b : β) {l : List α} {i : Nat} {a : α} (h : l[i]? = some a) : (l.take (i + 1)).foldl f b = f ((l.take i).foldl f b) a := by
  rw [List.take_succ, h]
  simp
theorem fm_int (ws : List Int) : ws.filterMap (fun w => some (D.int w)) = ws.map D.int := fm_map D.int ws
theorem law_low {d : List Pt} (v : Vd d) : Is f__law_low [docD d] (.int (least d)) := by
  have c := law_texts d (by have := v.l8; omega)
  clean_wf
  unfold b__law_low
  repeat array_get_dec
  refine WS_for wD (wordsIn d) (fun i ρ => ∃ j2, ρ = [.da (docD d), .da (.int (((wordsIn d).take i).foldl (fun l ws => maxI (l :: ws)) 1)), j2, .un]) ?_ ?_ ?_
  · repeat array_get_dec
    exact ⟨_, rfl⟩
  · rintro i ws ρ hi ⟨j2, rfl⟩
    have hw := (wordsIn_ok v (List.mem_of_getElem? hi)).2.1
    repeat array_get_dec
    apply WE_lc D.int (fun w => some (.int w)) ws
    simp_wf
    · omega
    · intro w hw
      repeat array_get_dec
    · rw [fm_int]
      have e := addD_lst [.int (((wordsIn d).take i).foldl (fun l ws => maxI (l :: ws)) 1)] (ws.map D.int)
      rw [if_pos (small (by simp; omega))] at e
      have e2 := maxD_ints (((wordsIn d).take i).foldl (fun l ws => maxI (l :: ws)) 1) ws
      repeat array_get_dec
      refine ⟨_, by rw [take_succ_foldl _ _ hi]⟩
  · rintro ρ ⟨j2, rfl⟩
    repeat array_get_dec
    rw [List.take_length, foldl_low]
    repeat array_get_dec
/-! ### the widest width -/
abbrev sX : Str := PySem.Str.ofString "x"
abbrev sB : Str := PySem.Str.ofString " "
def xs (w : Int) : Str := repS sX w.toNat
theorem sX_len : sX.length = 1 := by decide +kernel
theorem sB_len : sB.length = 1 := by decide +kernel
theorem xs_len (w : Int) : (xs w).length = w.toNat := by unfold xs; rw [repS_length, sX_len, Nat.mul_one]
theorem mul_x {w : Int} (h : 0 ≤ w ∧ w ≤ 1000) : mulD (.str sX) (.int w) = some (.str (xs w)) := by
  show (if -(2 ^ 63) ≤ w ∧ w < 2 ^ 63 ∧ sX.length * w.toNat ≤ sizeLine then some (D.str (repS sX w.toNat)) else none) = _
  rw [sX_len, sz]
  exact if_pos ⟨by omega, by omega, by omega⟩
theorem sum_xs : ∀ {ws : List Int}, (∀ w ∈ ws, 1 ≤ w ∧ w ≤ 9) → ((((ws.map xs).map (·.length)).sum : Nat) : Int) = ws.sum ∧ 1 * (ws.length : Int) ≤ ws.sum ∧ ws.sum ≤ 9 * ws.length
  | [], _ => ⟨rfl, by simp, by simp⟩
  | w :: ws, h => by
    obtain ⟨h1, h2, h3⟩ := sum_xs (ws := ws) fun x hx => h x (List.mem_cons_of_mem _ hx)
    have := h w List.mem_cons_self
    simp only [List.map_cons, List.sum_cons, xs_len, List.length_cons] at h1 ⊢
    refine ⟨by omega, by omega, by omega⟩
theorem join_xs {ws : List Int} (h1 : 1 ≤ ws.length) (h2 : ws.length ≤ 12) (h : ∀ w ∈ ws, 1 ≤ w ∧ w ≤ 9) : joinD sB (.lst ((ws.map xs).map D.str)) = some (.str (Txt.join sB (ws.map xs))) ∧ ((Txt.join sB (ws.map xs)).length : Int) = wideOf ws ∧ (Txt.join sB (ws.map xs)).length ≤ sizeLine := by
  obtain ⟨e1, e2, e3⟩ := sum_xs h
  have l : (Txt.join sB (ws.map xs)).length = ((ws.map xs).map (·.length)).sum + ((ws.map xs).length - 1) * sB.length := size_glued sB (ws.map xs)
  rw [sB_len, List.length_map] at l
  have e : strsD ((ws.map xs).map D.str) = some (ws.map xs) := strsD_strs (ws.map xs)
  refine ⟨?_, by unfold wideOf; omega, by rw [sz]; omega⟩
  show (strsD ((ws.map xs).map D.str)).bind _ = _
  rw [e]
  show (if ((ws.map xs).map (·.length)).sum + (ws.map xs).length * sB.length ≤ 16777216 then _ else none) = _
  rw [if_pos]
  rw [sB_len, List.length_map]
  omega
theorem foldl_high : ∀ (L : List (List Int)) (m : Int), L.foldl (fun l ws => if wideOf ws > l then wideOf ws else l) m = maxI (m :: L.map wideOf)
  | [], m => rfl
  | ws :: L, m => by
    rw [List.foldl_cons, foldl_high L]
    have e := maxI_glue m [wideOf ws] (L.map wideOf)
    have e2 : maxI [m, wideOf ws] = if wideOf ws > m then wideOf ws else m := by
      show (if wideOf ws ≤ m then m else wideOf ws) = _
      by_cases h : wideOf ws ≤ m
      · rw [if_pos h, if_neg (by omega)]
      · rw [if_neg h, if_pos (by omega)]
    rw [e2] at e
    exact e
theorem lenD_str {x : Str} (h : x.length ≤ sizeLine) : lenD [.str x] = some (.int x.length) := if_pos h
theorem law_high {d : List Pt} (v : Vd d) : Is f__law_high [docD d] (.int (widest d)) := by
  have c := law_texts d (by have := v.l8; omega)
  have c2 := law_low v
  clean_wf
  unfold b__law_high
  repeat array_get_dec
  refine WS_for wD (wordsIn d) (fun i ρ => ∃ j2, ρ = [.da (docD d), .da (.int (((wordsIn d).take i).foldl (fun l ws => if wideOf ws > l then wideOf ws else l) (least d))), j2, .un]) ?_ ?_ ?_
  · repeat array_get_dec
    exact ⟨_, rfl⟩
  · rintro i ws ρ hi ⟨j2, rfl⟩
    obtain ⟨h1, h2, h3⟩ := wordsIn_ok v (List.mem_of_getElem? hi)
    obtain ⟨q1, q2, q3⟩ := join_xs h1 h2 h3
    repeat array_get_dec
    apply WE_lc D.int (fun w => some (.str (xs w))) ws
    simp_wf
    · omega
    · intro w hw
      have m := mul_x (w := w) (by have := h3 w hw; omega)
      repeat array_get_dec
    · rw [fm_map (fun w => D.str (xs w)), show ws.map (fun w => D.str (xs w)) = (ws.map xs).map D.str by rw [List.map_map]; rfl]
      have q4 := lenD_str q3
      rw [q2] at q4
      repeat array_get_dec
      refine ⟨_, by rw [take_succ_foldl _ _ hi]⟩
  · rintro ρ ⟨j2, rfl⟩
    repeat array_get_dec
    rw [List.take_length, foldl_high]
    repeat array_get_dec
end MA

set_option maxHeartbeats 4000000
/-! N4: the laws' lines. -/
namespace MA
open PySem PySem.Spec PyProof.Rows L2 DL PK
local macro_rules | `(tactic| array_mem_dec) => `(tactic| (simp only [List.set_cons_zero, List.set_cons_succ]; first | done | rfl))
local macro_rules | `(tactic| sizeOf_list_dec) => `(tactic| first | (with_reducible assumption) | exact rfl | assumption | exact Nat.le_of_ble_eq_true rfl | (rw [sz]; exact Nat.le_of_ble_eq_true rfl) | omega | (constructor <;> omega) | (refine ⟨⟨?_, ?_⟩, ?_, ?_⟩ <;> omega) | (refine ⟨⟨?_, ?_⟩, ⟨?_, ?_⟩, ?_⟩ <;> omega))
local macro_rules | `(tactic| array_get_dec) => `(tactic| first
  | ((with_reducible apply WE_var); exact rfl) | with_reducible refine WE_ret ?_ | ((with_reducible apply WS_hyp); (with_reducible assumption)) | with_reducible refine WS_seq ?_ | with_reducible refine WL_cons ?_ | with_reducible refine WL_nil ?_ | with_reducible refine WE_bin ?_
  | ((with_reducible apply OpK.mk); (with_reducible assumption)) | ((with_reducible apply OpK.mk); (simp only [eq_int, ne_int, allD_map, ix_kind, kind_break, kind_nbreak, kind_text, kind_block, isB_brk, isB_blk, isB_txt, isT_brk, isT_blk, isT_txt, isK_brk, isK_blk, isK_txt]; first | done | rfl)) | ((with_reducible apply OpK.mk); exact rfl) | ((with_reducible apply OpK.mk); (simp; rfl))
  | with_reducible refine WS_asg ?_ | with_reducible refine WG_name ?_ | with_reducible refine SetK.mk (by array_mem_dec) ?_
  | with_reducible refine WA_cons ?_ | with_reducible refine WA_nil ?_ | with_reducible refine callD_data1 ?_ | with_reducible refine ArK.a1 ?_ | with_reducible refine ArK.a2 ?_ | with_reducible refine ArK.a3 ?_ | with_reducible refine ArK.a4 ?_ | with_reducible refine ArK.a5 ?_ | with_reducible refine ArK.a0 ?_
  | ((with_reducible apply IsK.mk); (with_reducible assumption)) | ((with_reducible apply IsK.er); (with_reducible assumption))
  | with_reducible refine WS_if ?_ | with_reducible refine WB_tst ?_ | ((with_reducible apply BlK.mk); exact rfl) | with_reducible refine if_t rfl ?_ | with_reducible refine if_f rfl ?_ | with_reducible refine if_nt rfl ?_ | with_reducible refine if_nf rfl ?_ | ((with_reducible apply if_t); (with_reducible assumption)) | ((with_reducible apply if_f); (with_reducible assumption)) | ((with_reducible apply if_nt); (with_reducible assumption)) | ((with_reducible apply if_nf); (with_reducible assumption))
  | with_reducible refine WE_lst ?_ | with_reducible refine WE_tup ?_ | ((with_reducible refine And.intro ?_ ?_); (· sizeOf_list_dec)) | with_reducible refine WE_fun ?_ | with_reducible refine WS_ret ?_ | with_reducible refine WS_nx ?_
  | with_reducible refine WE_un ?_ | with_reducible refine WE_isi ?_ | with_reducible refine WE_and ?_ | with_reducible refine WE_or ?_ | with_reducible refine WE_not ?_ | with_reducible refine WE_if ?_ | with_reducible refine WE_mt1 ?_ | with_reducible refine WE_chain ?_ | with_reducible refine WE_sl ?_ | with_reducible refine WE_listRg ?_
  | with_reducible refine WO_no ?_ | with_reducible refine WO_some ?_ | ((with_reducible apply InK.mk); exact rfl) | ((with_reducible apply StK.mk); exact rfl) | ((with_reducible apply TuK.mk); exact rfl) | ((with_reducible apply LsK.mk); exact rfl) | ((with_reducible apply SqK.lst); exact rfl) | ((with_reducible apply SqK.tup); exact rfl)
  | with_reducible refine WB_yes ?_ | with_reducible refine WB_and ?_ | with_reducible refine WB_or ?_ | with_reducible refine WB_not ?_ | with_reducible refine WG_tup ?_ | with_reducible refine WG_lst ?_ | with_reducible refine WGs_nil ?_ | with_reducible refine WGs_cons ?_
  | with_reducible refine WS_drop ?_ | with_reducible refine WS_par ?_ | with_reducible refine WS_par3 ?_ | with_reducible refine WS_setF ?_ | with_reducible refine WS_raise ?_ | ((with_reducible apply WS_app); exact rfl) | ((with_reducible apply SlK.mk); exact rfl)
  | with_reducible refine WL_lst ?_ | with_reducible refine WL_cat ?_ | with_reducible refine WL_iterS ?_ | with_reducible refine WL_iterR1 ?_ | with_reducible refine WL_iterR2 ?_ | with_reducible refine WL_iterZ ?_ | with_reducible refine WL_iterE ?_
  | ((with_reducible apply WE_move); exact rfl; array_mem_dec) | ((with_reducible apply WL_move); exact rfl; array_mem_dec)
  | ((with_reducible apply WA_own); exact rfl) | with_reducible refine callD_bag1 ?_ | with_reducible refine callD_data0 ?_ | with_reducible refine ArB.a0 ?_ | with_reducible refine ArB.a1 ?_ | with_reducible refine ArB.a2 ?_ | with_reducible refine ArB.a3 ?_ | ((with_reducible apply BagK.mk); (with_reducible assumption))
  | with_reducible refine AppK.mk (by (try simp only [List.cons_append, List.nil_append]); first | done | rfl) ?_ | with_reducible refine WL_callN ?_ | ((with_reducible apply FrK.mk); (with_reducible assumption))
  | with_reducible refine WE_err (by simp only [DL.hide, List.map_cons, List.map_nil]; first | done | rfl) ?_
  | ((with_reducible apply P2K.mk); exact rfl) | ((with_reducible apply P3K.mk); exact rfl) | ((with_reducible apply I1K.mk); exact rfl) | ((with_reducible apply I2K.mk); exact rfl) | ((with_reducible apply ZiK.lst); exact rfl) | ((with_reducible apply ZiK.tup); exact rfl) | ((with_reducible apply E1K.mk); exact rfl) | ((with_reducible apply MoK.mk); exact rfl) | ((with_reducible apply Nat.le_of_ble_eq_true); exact rfl) | ((with_reducible apply Eq.symm); exact rfl) | (with_reducible refine fun (_ : _ = true) => ?_))
local macro_rules | `(tactic| clean_wf) => `(tactic| (refine is_wp rfl ?_; simp only [List.map_cons, List.map_nil, List.cons_append, List.nil_append, Nat.reduceSub, List.replicate]))
local macro_rules | `(tactic| simp_wf) => `(tactic| ((· (repeat array_get_dec)); (· exact rfl); (· (simp only [wipeR, List.set_cons_zero, List.set_cons_succ]; first | done | rfl)); (· (simp only [restR, List.set_cons_zero, List.set_cons_succ, List.getElem?_cons_zero, List.getElem?_cons_succ, Option.getD_some]; first | done | rfl))))
theorem strOk_iff {x : Str} : PyData.strOk x = true ↔ ∀ c ∈ x.cps.toList, c < 0x110000 := by
  unfold PyData.strOk
  rw [← Array.all_toList, List.all_eq_true]
  simp
theorem strOk_app {x y : Str} (hx : PyData.strOk x = true) (hy : PyData.strOk y = true) : PyData.strOk (x ++ y) = true := by
  rw [strOk_iff] at *
  intro c hc
  rw [show (x ++ y).cps = x.cps ++ y.cps from rfl, Array.toList_append] at hc
  exact (List.mem_append.mp hc).elim (hx c) (hy c)
theorem strOk_rep {x : Str} (hx : PyData.strOk x = true) (n : Nat) : PyData.strOk (repS x n) = true := by
  rw [strOk_iff] at *
  intro c hc
  have hc : c ∈ (List.replicate n x.cps.toList).flatten := hc
  obtain ⟨l, h1, h2⟩ := List.mem_flatten.mp hc
  rw [(List.mem_replicate.mp h1).2] at h2
  exact hx c h2
theorem xs_ok (w : Int) : PyData.strOk (xs w) = true := strOk_rep (by decide +kernel) _
theorem lay_strs : ∀ {rs : List Str}, (∀ r ∈ rs, PyData.strOk r = true) → PyData.canLayAll0 (D.pys (rs.map D.str)) = true
  | [], _ => by with_unfolding_all rfl
  | r :: rs, h => by
    show PyData.canLayAll0 (PyData.str r :: D.pys (rs.map D.str)) = true
    simp only [PyData.canLayAll0, PyData.canLay0, Bool.and_eq_true]
    exact ⟨h r List.mem_cons_self, lay_strs fun x hx => h x (List.mem_cons_of_mem _ hx)⟩
theorem dep_strs : ∀ {rs : List Str}, PyData.depthAll (D.pys (rs.map D.str)) ≤ 1
  | [] => by with_unfolding_all exact Nat.zero_le _
  | r :: rs => by
    show PyData.depthAll (PyData.str r :: D.pys (rs.map D.str)) ≤ 1
    have := dep_strs (rs := rs)
    simp only [PyData.depthAll, PyData.depth]
    omega
theorem fit_strs {rs : List Str} (h : ∀ r ∈ rs, PyData.strOk r = true) : (D.lst (rs.map D.str)).fit = true := by
  unfold D.fit SeqAt.shaped
  show ((PyData.list (D.pys (rs.map D.str))).canLay0 && decide ((PyData.list (D.pys (rs.map D.str))).depth ≤ 64)) = true
  have := dep_strs (rs := rs)
  rw [Bool.and_eq_true]
  refine ⟨by simp only [PyData.canLay0]; exact lay_strs h, decide_eq_true ?_⟩
  simp only [PyData.depth]
  omega
theorem fitL0 : (D.lst []).fit = true := by kernel_rfl
theorem ne_nil_strs {rs : List Str} (h : ∀ r ∈ rs, PyData.strOk r = true) : neE (.lst (rs.map D.str)) (.lst []) = some (.bl (!decide (rs = []))) := by
  rw [neE_fit (fit_strs h) fitL0]
  cases rs with
  | nil => kernel_rfl
  | cons r rs =>
    show some (D.bl (!PyData.eqv (.list (PyData.str r :: D.pys (rs.map D.str))) (.list []))) = _
    simp [PyData.eqv, PyData.eqvAll]
/-! ### the rows of a text, written out -/
def lineStep (w : Int) (rows : List Str) (x : Int) : List Str := match rows.getLast? with
  | some r => if (((r ++ sB ++ xs x).length : Nat) : Int) ≤ w then rows.dropLast ++ [r ++ sB ++ xs x] else rows ++ [xs x]
  | none => [xs x]
def lines (w : Int) (ws : List Int) : List Str := ws.foldl (lineStep w) []
/-- what the lines and the counting of rows share -/
structure LInv (n : Nat) (rows : List Str) (s : Int × Int) : Prop where
  ok : ∀ r ∈ rows, PyData.strOk r = true ∧ r.length ≤ 10 * n
  l : rows.length ≤ n
  c : (rows = [] ∧ s = (1, 0)) ∨ (∃ q r, rows = q ++ [r] ∧ s.1 = (rows.length : Int) ∧ s.2 = (r.length : Int) ∧ 1 ≤ r.length)
theorem app_len (a b : Str) : (a ++ b).length = a.length + b.length := Str.length_append a b
theorem linv_step {n : Nat} {rows : List Str} {s : Int × Int} {x w : Int} (h : LInv n rows s) (hx : 1 ≤ x ∧ x ≤ 9) : LInv (n + 1) (lineStep w rows x) (rowStep w s x) := by
  have lx := xs_len x
  have ox := xs_ok x
  have ob : PyData.strOk sB = true := by decide +kernel
  obtain ⟨ok, l, c⟩ := h
  rcases c with ⟨rfl, rfl⟩ | ⟨q, r, rfl, s1, s2, r1⟩
  · have e : lineStep w [] x = [xs x] := rfl
    rw [e]
    refine ⟨fun r hr => ?_, by simp, .inr ⟨[], xs x, rfl, by simp [rowStep], by simp [rowStep]; omega, by omega⟩⟩
    rw [List.mem_singleton.mp hr]
    exact ⟨ox, by omega⟩
  · have okr := ok r (by simp)
    have lr : (r ++ sB ++ xs x).length = r.length + 1 + x.toNat := by rw [app_len, app_len, sB_len, lx]
    have e : lineStep w (q ++ [r]) x = if (((r ++ sB ++ xs x).length : Nat) : Int) ≤ w then q ++ [r ++ sB ++ xs x] else q ++ [r] ++ [xs x] := by
      unfold lineStep
      rw [List.getLast?_concat, List.dropLast_concat]
    rw [e]
    obtain ⟨a, b⟩ := s
    simp only at s1 s2
    have b0 : ¬ b = 0 := by omega
    by_cases hw : (((r ++ sB ++ xs x).length : Nat) : Int) ≤ w
    · have hw2 : b + 1 + x ≤ w := by omega
      rw [if_pos hw]
      have e3 : rowStep w (a, b) x = (a, b + 1 + x) := by simp [rowStep, b0, hw2]
      rw [e3]
      refine ⟨fun t ht => ?_, by simp at l ⊢; omega, .inr ⟨q, _, rfl, by simp at s1 ⊢; omega, by show b + 1 + x = _; omega, by omega⟩⟩
      rcases List.mem_append.mp ht with ht | ht
      · have := ok t (List.mem_append_left _ ht)
        exact ⟨this.1, by omega⟩
      · rw [List.mem_singleton.mp ht]
        exact ⟨strOk_app (strOk_app okr.1 ob) ox, by omega⟩
    · have hw2 : ¬ b + 1 + x ≤ w := by omega
      rw [if_neg hw]
      have e3 : rowStep w (a, b) x = (a + 1, x) := by simp [rowStep, b0, hw2]
      rw [e3]
      refine ⟨fun t ht => ?_, by simp at l ⊢; omega, .inr ⟨q ++ [r], _, rfl, by simp at s1 ⊢; omega, by show x = _; omega, by omega⟩⟩
      rcases List.mem_append.mp ht with ht | ht
      · have := ok t ht
        exact ⟨this.1, by omega⟩
      · rw [List.mem_singleton.mp ht]
        exact ⟨ox, by omega⟩
theorem linv (w : Int) : ∀ (ws : List Int), (∀ x ∈ ws, 1 ≤ x ∧ x ≤ 9) → ∀ (n : Nat) (rows : List Str) (s : Int × Int), LInv n rows s → LInv (n + ws.length) (ws.foldl (lineStep w) rows) (ws.foldl (rowStep w) s)
  | [], _, n, rows, s, h => h
  | x :: ws, hw, n, rows, s, h => by
    have := linv w ws (fun y hy => hw y (List.mem_cons_of_mem _ hy)) (n + 1) _ _ (linv_step (w := w) h (hw x List.mem_cons_self))
    rw [List.length_cons, show n + (ws.length + 1) = n + 1 + ws.length by omega]
    exact this
theorem linv_take {w : Int} {ws : List Int} (h : ∀ x ∈ ws, 1 ≤ x ∧ x ≤ 9) (i : Nat) : LInv i (lines w (ws.take i)) ((ws.take i).foldl (rowStep w) (1, 0)) := by
  have z := linv w (ws.take i) (fun x hx => h x (List.mem_of_mem_take hx)) 0 [] (1, 0) ⟨by simp, by simp, .inl ⟨rfl, rfl⟩⟩
  have hl : (ws.take i).length ≤ i := by rw [List.length_take]; omega
  obtain ⟨a, b, c⟩ := z
  exact ⟨fun r hr => ⟨(a r hr).1, by have := (a r hr).2; omega⟩, by have : (lines w (ws.take i)).length ≤ 0 + (ws.take i).length := b; omega, c⟩
theorem lines_len {w : Int} {ws : List Int} (h : ∀ x ∈ ws, 1 ≤ x ∧ x ≤ 9) (h1 : 1 ≤ ws.length) : ((lines w ws).length : Int) = (ws.foldl (rowStep w) (1, 0)).1 := by
  have z := linv_take (w := w) h ws.length
  rw [List.take_length] at z
  rcases z.c with ⟨e1, e2⟩ | ⟨q, r, e, s1, _, _⟩
  · exfalso
    cases ws with
    | nil => simp at h1
    | cons x ws =>
      have key : ∀ (ws : List Int) (rows : List Str), rows ≠ [] → ws.foldl (lineStep w) rows ≠ [] := fun ws => by
        induction ws with
        | nil => exact fun rows h => h
        | cons y ws ih =>
          intro rows h
          refine ih _ ?_
          unfold lineStep
          split
          · split <;> simp
          · simp
      exact key ws [xs x] (by simp) e1
  · rw [← s1]
theorem cut_lastG {α : Type} (e : α → D) (es : List α) : DL.cutD (es.map e) none (some (-1)) = es.dropLast.map e := by
  have e1 : HT.sIx es.length es.length (some (-1)) = es.length - 1 := by
    show (if (-1 : Int) < 0 then ((-1 : Int) + (es.length : Int)).toNat else min (-1 : Int).toNat es.length) = _
    rw [if_pos (by omega)]
    omega
  unfold DL.cutD
  rw [List.length_map, e1]
  show ((es.map e).drop 0).take (es.length - 1 - 0) = _
  rw [List.drop_zero, Nat.sub_zero, List.dropLast_eq_take, List.map_take]
theorem addD_str {x y : Str} (h : x.length + y.length ≤ sizeLine) : addD (.str x) (.str y) = some (.str (x ++ y)) := if_pos h
theorem law_lines {ws : List Int} (hl : ws.length ≤ 12) (h : ∀ x ∈ ws, 1 ≤ x ∧ x ≤ 9) (w : Int) : Is f__law_lines [wD ws, .int w] (.lst ((lines w ws).map D.str)) := by
  clean_wf
  unfold b__law_lines
  repeat array_get_dec
  refine WS_for D.int ws (fun i ρ => ∃ j3, ρ = [.da (wD ws), .da (.int w), .da (.lst ((lines w (ws.take i)).map D.str)), j3]) ?_ ?_ ?_
  · repeat array_get_dec
    exact ⟨_, rfl⟩
  · rintro i x ρ hi ⟨j3, rfl⟩
    have hx := h x (List.mem_of_getElem? hi)
    have hi2 := (List.getElem?_eq_some_iff.mp hi).1
    have z := linv_take (w := w) h i
    have e : lines w (ws.take (i + 1)) = lineStep w (lines w (ws.take i)) x := take_succ_foldl _ _ hi
    rw [e]
    generalize lines w (ws.take i) = rows at *
    have n0 := ne_nil_strs fun r hr => (z.ok r hr).1
    have m := mul_x (w := x) (by omega)
    have lx := xs_len x
    rcases z.c with ⟨rfl, _⟩ | ⟨q, r, rfl, _, _, _⟩
    · have n0 : neE (.lst []) (.lst []) = some (.bl false) := n0
      repeat array_get_dec
      exact ⟨_, rfl⟩
    · have zl := z.l
      rw [List.length_append, List.length_singleton] at zl
      have e1 : ((q ++ [r]).map D.str) = q.map D.str ++ [.str r] := by simp
      have n0 : neE (.lst ((q ++ [r]).map D.str)) (.lst []) = some (.bl true) := by rw [n0]; simp
      have okr := z.ok r (by simp)
      have a1 : addD (.str r) (.str sB) = some (.str (r ++ sB)) := addD_str (by rw [sB_len, sz]; omega)
      have a2 : addD (.str (r ++ sB)) (.str (xs x)) = some (.str (r ++ sB ++ xs x)) := addD_str (by rw [app_len, sB_len, sz]; omega)
      have l2 : lenD [.str (r ++ sB ++ xs x)] = some (.int ((r ++ sB ++ xs x).length : Nat)) := lenD_str (by rw [app_len, app_len, sB_len, sz]; omega)
      have i1 : ixD (.lst ((q ++ [r]).map D.str)) (.int (-1)) = some (.str r) := by rw [e1]; exact atNeg1
      have s1 : slD (.lst ((q ++ [r]).map D.str)) none (some (-1)) = some (.lst (q.map D.str)) := by
        have cl := cut_lastG D.str (q ++ [r])
        rw [List.dropLast_concat] at cl
        exact congrArg (fun z => some (D.lst z)) cl
      have e5 : lineStep w (q ++ [r]) x = if (((r ++ sB ++ xs x).length : Nat) : Int) ≤ w then q ++ [r ++ sB ++ xs x] else q ++ [r] ++ [xs x] := by
        unfold lineStep
        rw [List.getLast?_concat, List.dropLast_concat]
      rw [e5]
      repeat array_get_dec
      by_cases hw : (((r ++ sB ++ xs x).length : Nat) : Int) ≤ w
      · have hd : decide ((((r ++ sB ++ xs x).length : Nat) : Int) ≤ w) = true := decide_eq_true hw
        have a3 : addD (.lst (q.map D.str)) (.lst [.str (r ++ sB ++ xs x)]) = some (.lst ((q ++ [r ++ sB ++ xs x]).map D.str)) := by
          rw [addD_lst, if_pos (by rw [sz, List.length_map]; simp; omega)]
          simp
        rw [if_pos hw]
        repeat array_get_dec
        exact ⟨_, rfl⟩
      · have hd : decide ((((r ++ sB ++ xs x).length : Nat) : Int) ≤ w) = false := decide_eq_false hw
        have a3 : addD (.lst ((q ++ [r]).map D.str)) (.lst [.str (xs x)]) = some (.lst ((q ++ [r] ++ [xs x]).map D.str)) := by
          rw [addD_lst, if_pos (by rw [sz, List.length_map]; simp; omega)]
          simp
        rw [if_neg hw]
        repeat array_get_dec
        exact ⟨_, rfl⟩
  · rintro ρ ⟨j3, rfl⟩
    rw [List.take_length]
    repeat array_get_dec
end MA

set_option maxHeartbeats 4000000
/-! N5: the laws' rows and kinds of places. -/
namespace MA
open PySem PySem.Spec PyProof.Rows L2 DL PK
local macro_rules | `(tactic| array_mem_dec) => `(tactic| (simp only [List.set_cons_zero, List.set_cons_succ]; first | done | rfl))
local macro_rules | `(tactic| sizeOf_list_dec) => `(tactic| first | (with_reducible assumption) | exact rfl | assumption | exact Nat.le_of_ble_eq_true rfl | (rw [sz]; exact Nat.le_of_ble_eq_true rfl) | omega | (constructor <;> omega) | (refine ⟨⟨?_, ?_⟩, ?_, ?_⟩ <;> omega) | (refine ⟨⟨?_, ?_⟩, ⟨?_, ?_⟩, ?_⟩ <;> omega))
local macro_rules | `(tactic| array_get_dec) => `(tactic| first
  | ((with_reducible apply WE_var); exact rfl) | with_reducible refine WE_ret ?_ | ((with_reducible apply WS_hyp); (with_reducible assumption)) | with_reducible refine WS_seq ?_ | with_reducible refine WL_cons ?_ | with_reducible refine WL_nil ?_ | with_reducible refine WE_bin ?_
  | ((with_reducible apply OpK.mk); (with_reducible assumption)) | ((with_reducible apply OpK.mk); (simp only [eq_int, ne_int, allD_map, ix_kind, kind_break, kind_nbreak, kind_text, kind_block, isB_brk, isB_blk, isB_txt, isT_brk, isT_blk, isT_txt, isK_brk, isK_blk, isK_txt]; first | done | rfl)) | ((with_reducible apply OpK.mk); exact rfl) | ((with_reducible apply OpK.mk); (simp; rfl))
  | with_reducible refine WS_asg ?_ | with_reducible refine WG_name ?_ | with_reducible refine SetK.mk (by array_mem_dec) ?_
  | with_reducible refine WA_cons ?_ | with_reducible refine WA_nil ?_ | with_reducible refine callD_data1 ?_ | with_reducible refine ArK.a1 ?_ | with_reducible refine ArK.a2 ?_ | with_reducible refine ArK.a3 ?_ | with_reducible refine ArK.a4 ?_ | with_reducible refine ArK.a5 ?_ | with_reducible refine ArK.a0 ?_
  | ((with_reducible apply IsK.mk); (with_reducible assumption)) | ((with_reducible apply IsK.er); (with_reducible assumption))
  | with_reducible refine WS_if ?_ | with_reducible refine WB_tst ?_ | ((with_reducible apply BlK.mk); exact rfl) | with_reducible refine if_t rfl ?_ | with_reducible refine if_f rfl ?_ | with_reducible refine if_nt rfl ?_ | with_reducible refine if_nf rfl ?_ | ((with_reducible apply if_t); (with_reducible assumption)) | ((with_reducible apply if_f); (with_reducible assumption)) | ((with_reducible apply if_nt); (with_reducible assumption)) | ((with_reducible apply if_nf); (with_reducible assumption))
  | with_reducible refine WE_lst ?_ | with_reducible refine WE_tup ?_ | ((with_reducible refine And.intro ?_ ?_); (· sizeOf_list_dec)) | with_reducible refine WE_fun ?_ | with_reducible refine WS_ret ?_ | with_reducible refine WS_nx ?_
  | with_reducible refine WE_un ?_ | with_reducible refine WE_isi ?_ | with_reducible refine WE_and ?_ | with_reducible refine WE_or ?_ | with_reducible refine WE_not ?_ | with_reducible refine WE_if ?_ | with_reducible refine WE_mt1 ?_ | with_reducible refine WE_chain ?_ | with_reducible refine WE_sl ?_ | with_reducible refine WE_listRg ?_
  | with_reducible refine WO_no ?_ | with_reducible refine WO_some ?_ | ((with_reducible apply InK.mk); exact rfl) | ((with_reducible apply StK.mk); exact rfl) | ((with_reducible apply TuK.mk); exact rfl) | ((with_reducible apply LsK.mk); exact rfl) | ((with_reducible apply SqK.lst); exact rfl) | ((with_reducible apply SqK.tup); exact rfl)
  | with_reducible refine WB_yes ?_ | with_reducible refine WB_and ?_ | with_reducible refine WB_or ?_ | with_reducible refine WB_not ?_ | with_reducible refine WG_tup ?_ | with_reducible refine WG_lst ?_ | with_reducible refine WGs_nil ?_ | with_reducible refine WGs_cons ?_
  | with_reducible refine WS_drop ?_ | with_reducible refine WS_par ?_ | with_reducible refine WS_par3 ?_ | with_reducible refine WS_setF ?_ | with_reducible refine WS_raise ?_ | ((with_reducible apply WS_app); exact rfl) | ((with_reducible apply SlK.mk); exact rfl)
  | with_reducible refine WL_lst ?_ | with_reducible refine WL_cat ?_ | with_reducible refine WL_iterS ?_ | with_reducible refine WL_iterR1 ?_ | with_reducible refine WL_iterR2 ?_ | with_reducible refine WL_iterZ ?_ | with_reducible refine WL_iterE ?_
  | ((with_reducible apply WE_move); exact rfl; array_mem_dec) | ((with_reducible apply WL_move); exact rfl; array_mem_dec)
  | ((with_reducible apply WA_own); exact rfl) | with_reducible refine callD_bag1 ?_ | with_reducible refine callD_data0 ?_ | with_reducible refine ArB.a0 ?_ | with_reducible refine ArB.a1 ?_ | with_reducible refine ArB.a2 ?_ | with_reducible refine ArB.a3 ?_ | ((with_reducible apply BagK.mk); (with_reducible assumption))
  | with_reducible refine AppK.mk (by (try simp only [List.cons_append, List.nil_append]); first | done | rfl) ?_ | with_reducible refine WL_callN ?_ | ((with_reducible apply FrK.mk); (with_reducible assumption))
  | with_reducible refine WE_err (by simp only [DL.hide, List.map_cons, List.map_nil]; first | done | rfl) ?_
  | ((with_reducible apply P2K.mk); exact rfl) | ((with_reducible apply P3K.mk); exact rfl) | ((with_reducible apply I1K.mk); exact rfl) | ((with_reducible apply I2K.mk); exact rfl) | ((with_reducible apply ZiK.lst); exact rfl) | ((with_reducible apply ZiK.tup); exact rfl) | ((with_reducible apply E1K.mk); exact rfl) | ((with_reducible apply MoK.mk); exact rfl) | ((with_reducible apply Nat.le_of_ble_eq_true); exact rfl) | ((with_reducible apply Eq.symm); exact rfl) | (with_reducible refine fun (_ : _ = true) => ?_))
local macro_rules | `(tactic| clean_wf) => `(tactic| (refine is_wp rfl ?_; simp only [List.map_cons, List.map_nil, List.cons_append, List.nil_append, Nat.reduceSub, List.replicate]))
local macro_rules | `(tactic| simp_wf) => `(tactic| ((· (repeat array_get_dec)); (· exact rfl); (· (simp only [wipeR, List.set_cons_zero, List.set_cons_succ]; first | done | rfl)); (· (simp only [restR, List.set_cons_zero, List.set_cons_succ, List.getElem?_cons_zero, List.getElem?_cons_succ, Option.getD_some]; first | done | rfl))))
/-! ### rows with the number of rows of the part -/
def triD (t : Int × Int × Int) : D := .tup [.int t.1, .int t.2.1, .int t.2.2]
def r3 : Nat → List Int → List (Int × Int × Int)
  | _, [] => []
  | k, c :: cs => ((List.range c.toNat).map fun r : Nat => ((k : Int), (r : Int), c)) ++ r3 (k + 1) cs
theorem r3_app : ∀ (k : Nat) (a b : List Int), r3 k (a ++ b) = r3 k a ++ r3 (k + a.length) b
  | k, [], b => by simp [r3]
  | k, c :: a, b => by
    show ((List.range c.toNat).map fun r : Nat => ((k : Int), (r : Int), c)) ++ r3 (k + 1) (a ++ b) = _
    rw [r3_app (k + 1) a b, ← List.append_assoc, List.length_cons, show k + 1 + a.length = k + (a.length + 1) by omega]
    rfl
theorem r3_rows : ∀ (k : Nat) (cs : List Int), (r3 k cs).map (fun t => (t.1, t.2.1)) = rowsFrom k cs
  | _, [] => rfl
  | k, c :: cs => by
    show (((List.range c.toNat).map fun r : Nat => ((k : Int), (r : Int), c)) ++ r3 (k + 1) cs).map _ = ((List.range c.toNat).map fun r : Nat => ((k : Int), (r : Int))) ++ rowsFrom (k + 1) cs
    rw [List.map_append, r3_rows (k + 1) cs, List.map_map]
    rfl
theorem r3_mem : ∀ {k : Nat} {cs : List Int} {t : Int × Int × Int}, t ∈ r3 k cs → ∃ i : Nat, t.1 = ((k + i : Nat) : Int) ∧ cs[i]? = some t.2.2 ∧ 0 ≤ t.2.1 ∧ t.2.1 < t.2.2
  | _, [], _, h => by cases h
  | k, c :: cs, t, h => by
    rcases List.mem_append.mp (show t ∈ ((List.range c.toNat).map fun r : Nat => ((k : Int), (r : Int), c)) ++ r3 (k + 1) cs from h) with h | h
    · obtain ⟨r, hr, rfl⟩ := List.mem_map.mp h
      have := List.mem_range.mp hr
      exact ⟨0, rfl, rfl, by simp only; omega, by show (r : Int) < c; omega⟩
    · obtain ⟨i, e1, e2, e3, e4⟩ := r3_mem h
      exact ⟨i + 1, by rw [e1]; congr 1; omega, e2, e3, e4⟩
theorem r3_next : ∀ {k : Nat} {cs : List Int} {i : Nat} {a b : Int × Int × Int}, (r3 k cs)[i]? = some a → (r3 k cs)[i + 1]? = some b → (a.1 = b.1 ∧ b.2.1 = a.2.1 + 1 ∧ b.2.2 = a.2.2) ∨ a.1 < b.1
  | _, [], _, _, _, h, _ => by simp [r3] at h
  | k, c :: cs, i, a, b, h1, h2 => by
    have e : r3 k (c :: cs) = ((List.range c.toNat).map fun r : Nat => ((k : Int), (r : Int), c)) ++ r3 (k + 1) cs := rfl
    rw [e] at h1 h2
    have ll : ((List.range c.toNat).map fun r : Nat => ((k : Int), (r : Int), c)).length = c.toNat := by rw [List.length_map, List.length_range]
    by_cases q1 : i + 1 < c.toNat
    · rw [List.getElem?_append_left (by omega), List.getElem?_map, List.getElem?_range (by omega)] at h1 h2
      cases h1
      cases h2
      exact .inl ⟨rfl, by simp only; omega, rfl⟩
    · by_cases q2 : i < c.toNat
      · rw [List.getElem?_append_left (by omega), List.getElem?_map, List.getElem?_range q2] at h1
        cases h1
        rw [List.getElem?_append_right (by omega)] at h2
        obtain ⟨j, e1, _⟩ := r3_mem (List.mem_of_getElem? h2)
        exact .inr (by rw [e1]; simp only; omega)
      · rw [List.getElem?_append_right (by omega), ll] at h1 h2
        rw [show i + 1 - c.toNat = (i - c.toNat) + 1 by omega] at h2
        exact r3_next h1 h2
theorem r3_get {cs : List Int} {i : Nat} : (rowsFrom 0 cs)[i]? = ((r3 0 cs)[i]?).map fun t => (t.1, t.2.1) := by
  rw [← r3_rows 0 cs, List.getElem?_map]
theorem r3_len (cs : List Int) : (r3 0 cs).length = (rowsFrom 0 cs).length := by rw [← r3_rows 0 cs, List.length_map]
theorem r3_len_le : ∀ (k : Nat) (cs : List Int), (∀ c ∈ cs, 0 ≤ c ∧ c ≤ 13) → (r3 k cs).length ≤ 13 * cs.length
  | _, [], _ => by simp [r3]
  | k, c :: cs, h => by
    have ih := r3_len_le (k + 1) cs fun x hx => h x (List.mem_cons_of_mem _ hx)
    have := h c List.mem_cons_self
    show ((((List.range c.toNat).map fun r : Nat => ((k : Int), (r : Int), c)) ++ r3 (k + 1) cs)).length ≤ _
    rw [List.length_append, List.length_map, List.length_range, List.length_cons]
    omega
theorem add_tri (a b : List (Int × Int × Int)) (h : a.length + b.length ≤ 1000) : addD (.lst (a.map triD)) (.lst (b.map triD)) = some (.lst ((a ++ b).map triD)) := by
  rw [addD_lst, if_pos (by rw [List.length_map, List.length_map]; exact small h), ← List.map_append]
theorem law_rows {d : List Pt} (v : Vd d) (w : Int) : Is f__law_rows [docD d, .int w] (.lst ((r3 0 (counts d w)).map triD)) := by
  have k := cok v w
  have l8 := v.l8
  have hlen := k.len
  have ld : (d.map Pt.d).length = d.length := List.length_map _
  clean_wf
  unfold b__law_rows
  repeat array_get_dec
  refine WS_for (fun i : Nat => D.int (0 + (i : Nat))) (List.range d.length) (fun i ρ => ∃ j3 j4, ρ = [.da (docD d), .da (.int w), .da (.lst ((r3 0 ((counts d w).take i)).map triD)), j3, j4, .un]) ?_ ?_ ?_
  · have e : lenD [docD d] = some (.int d.length) := by show some (D.int ((d.map Pt.d).length : Nat)) = _; rw [ld]
    repeat array_get_dec
    exact ⟨_, _, rfl⟩
  · rintro i x ρ hi ⟨j3, j4, rfl⟩
    obtain ⟨hi1, hi2⟩ := List.getElem?_eq_some_iff.mp hi
    rw [List.length_range] at hi1
    rw [List.getElem_range] at hi2
    subst hi2
    have z0 : (0 : Int) + (i : Nat) = (i : Nat) := by omega
    rw [z0]
    have hp : d[i]? = some d[i] := List.getElem?_eq_getElem hi1
    have hc : (counts d w)[i]? = some (rowCount w d[i]) := by rw [counts_get, hp]; rfl
    have okp := v.ok d[i] (List.getElem_mem hi1)
    have hb := rowCount_b okp w
    have tk : (counts d w).take (i + 1) = (counts d w).take i ++ [rowCount w d[i]] := by rw [List.take_succ, hc]; rfl
    have lt : ((counts d w).take i).length = i := by rw [List.length_take]; omega
    have e5 : r3 0 ((counts d w).take (i + 1)) = r3 0 ((counts d w).take i) ++ (List.range (rowCount w d[i]).toNat).map fun r : Nat => ((i : Int), (r : Int), rowCount w d[i]) := by
      rw [tk, r3_app, lt]
      simp [r3]
    have l1 : (r3 0 ((counts d w).take i)).length ≤ 13 * 8 := by
      have := r3_len_le 0 ((counts d w).take i) fun c hc => k.b c (List.mem_of_mem_take hc)
      omega
    rw [e5]
    generalize r3 0 ((counts d w).take i) = R at *
    have e4 : ixD (docD d) (.int (i : Int)) = some d[i].d := atNat (by rw [List.getElem?_map, hp]; rfl)
    have LC : ∀ (c : Int) (P : D → Rho → Prop), 0 ≤ c → c ≤ 13 → P (.lst ((List.range c.toNat).map fun r : Nat => triD ((i : Int), (r : Int), c))) [.da (docD d), .da (.int w), .da (.lst (R.map triD)), .da (.int (i : Int)), .da (.int c), .un] →
        WE (lcE (iterR1 (consA (varE 4) nilA)) (nameG 5) yesB (tupE (consA (varE 3) (consA (varE 5) (consA (varE 4) nilA)))) [5]) [.da (docD d), .da (.int w), .da (.lst (R.map triD)), .da (.int (i : Int)), .da (.int c), .un] P (fun _ => False) := by
      intro c P h0 h13 p
      apply WE_lc (fun r : Nat => D.int (0 + (r : Nat))) (fun r : Nat => some (triD ((i : Int), (r : Int), c))) (List.range c.toNat)
      simp_wf
      · rw [List.length_range]; omega
      · intro r hr
        have z0 : (0 : Int) + (r : Nat) = (r : Nat) := by omega
        rw [z0]
        repeat array_get_dec
      · rw [fm_map (fun r : Nat => triD ((i : Int), (r : Int), c))]
        exact p
    have AD : ∀ c : Int, c ≤ 13 → addD (.lst (R.map triD)) (.lst ((List.range c.toNat).map fun r : Nat => triD ((i : Int), (r : Int), c))) = some (.lst ((R ++ (List.range c.toNat).map fun r : Nat => ((i : Int), (r : Int), c)).map triD)) := fun c h => by
      have a := add_tri R ((List.range c.toNat).map fun r : Nat => ((i : Int), (r : Int), c)) (by rw [List.length_map, List.length_range]; omega)
      rw [List.map_map] at a
      exact a
    cases hd : d[i] with
    | brk =>
      rw [hd] at e4 hb
      repeat array_get_dec
      have a := AD 0 (by omega)
      refine LC 0 _ (by omega) (by omega) ?_
      repeat array_get_dec
      exact ⟨_, _, rfl⟩
    | blk n nx =>
      rw [hd] at e4 hb
      repeat array_get_dec
      simp only [rowCount] at hb
      have a := AD n (by omega)
      refine LC n _ (by omega) (by omega) ?_
      repeat array_get_dec
      exact ⟨_, _, rfl⟩
    | txt ws nx wh =>
      rw [hd] at e4 hb okp
      have c := law_lines okp.2.1 okp.2.2 w
      have ln := lines_len (w := w) okp.2.2 okp.1
      have l0 : lenD [.lst ((lines w ws).map D.str)] = some (.int (rowCount w (.txt ws nx wh))) := by
        show some (D.int (((lines w ws).map D.str).length : Nat)) = _
        rw [List.length_map, ln]
        rfl
      repeat array_get_dec
      have a := AD _ hb.2.1
      refine LC _ _ hb.1 hb.2.1 ?_
      repeat array_get_dec
      exact ⟨_, _, rfl⟩
  · rintro ρ ⟨j3, j4, rfl⟩
    rw [List.length_range, hlen, List.take_length]
    repeat array_get_dec
end MA

set_option maxHeartbeats 4000000
/-! N6: the laws' kinds of places, their scene. -/
namespace MA
open PySem PySem.Spec PyProof.Rows L2 DL PK
local macro_rules | `(tactic| array_mem_dec) => `(tactic| (simp only [List.set_cons_zero, List.set_cons_succ]; first | done | rfl))
local macro_rules | `(tactic| sizeOf_list_dec) => `(tactic| first | (with_reducible assumption) | exact rfl | assumption | exact Nat.le_of_ble_eq_true rfl | (rw [sz]; exact Nat.le_of_ble_eq_true rfl) | omega | (constructor <;> omega) | (refine ⟨⟨?_, ?_⟩, ?_, ?_⟩ <;> omega) | (refine ⟨⟨?_, ?_⟩, ⟨?_, ?_⟩, ?_⟩ <;> omega))
local macro_rules | `(tactic| array_get_dec) => `(tactic| first
  | ((with_reducible apply WE_var); exact rfl) | with_reducible refine WE_ret ?_ | ((with_reducible apply WS_hyp); (with_reducible assumption)) | with_reducible refine WS_seq ?_ | with_reducible refine WL_cons ?_ | with_reducible refine WL_nil ?_ | with_reducible refine WE_bin ?_
  | ((with_reducible apply OpK.mk); (with_reducible assumption)) | ((with_reducible apply OpK.mk); (simp only [eq_int, ne_int, allD_map, ix_kind, kind_break, kind_nbreak, kind_text, kind_block, isB_brk, isB_blk, isB_txt, isT_brk, isT_blk, isT_txt, isK_brk, isK_blk, isK_txt]; first | done | rfl)) | ((with_reducible apply OpK.mk); exact rfl) | ((with_reducible apply OpK.mk); (simp; rfl))
  | with_reducible refine WS_asg ?_ | with_reducible refine WG_name ?_ | with_reducible refine SetK.mk (by array_mem_dec) ?_
  | with_reducible refine WA_cons ?_ | with_reducible refine WA_nil ?_ | with_reducible refine callD_data1 ?_ | with_reducible refine ArK.a1 ?_ | with_reducible refine ArK.a2 ?_ | with_reducible refine ArK.a3 ?_ | with_reducible refine ArK.a4 ?_ | with_reducible refine ArK.a5 ?_ | with_reducible refine ArK.a0 ?_
  | ((with_reducible apply IsK.mk); (with_reducible assumption)) | ((with_reducible apply IsK.er); (with_reducible assumption))
  | with_reducible refine WS_if ?_ | with_reducible refine WB_tst ?_ | ((with_reducible apply BlK.mk); exact rfl) | with_reducible refine if_t rfl ?_ | with_reducible refine if_f rfl ?_ | with_reducible refine if_nt rfl ?_ | with_reducible refine if_nf rfl ?_ | ((with_reducible apply if_t); (with_reducible assumption)) | ((with_reducible apply if_f); (with_reducible assumption)) | ((with_reducible apply if_nt); (with_reducible assumption)) | ((with_reducible apply if_nf); (with_reducible assumption))
  | with_reducible refine WE_lst ?_ | with_reducible refine WE_tup ?_ | ((with_reducible refine And.intro ?_ ?_); (· sizeOf_list_dec)) | with_reducible refine WE_fun ?_ | with_reducible refine WS_ret ?_ | with_reducible refine WS_nx ?_
  | with_reducible refine WE_un ?_ | with_reducible refine WE_isi ?_ | with_reducible refine WE_and ?_ | with_reducible refine WE_or ?_ | with_reducible refine WE_not ?_ | with_reducible refine WE_if ?_ | with_reducible refine WE_mt1 ?_ | with_reducible refine WE_chain ?_ | with_reducible refine WE_sl ?_ | with_reducible refine WE_listRg ?_
  | with_reducible refine WO_no ?_ | with_reducible refine WO_some ?_ | ((with_reducible apply InK.mk); exact rfl) | ((with_reducible apply StK.mk); exact rfl) | ((with_reducible apply TuK.mk); exact rfl) | ((with_reducible apply LsK.mk); exact rfl) | ((with_reducible apply SqK.lst); exact rfl) | ((with_reducible apply SqK.tup); exact rfl)
  | with_reducible refine WB_yes ?_ | with_reducible refine WB_and ?_ | with_reducible refine WB_or ?_ | with_reducible refine WB_not ?_ | with_reducible refine WG_tup ?_ | with_reducible refine WG_lst ?_ | with_reducible refine WGs_nil ?_ | with_reducible refine WGs_cons ?_
  | with_reducible refine WS_drop ?_ | with_reducible refine WS_par ?_ | with_reducible refine WS_par3 ?_ | with_reducible refine WS_setF ?_ | with_reducible refine WS_raise ?_ | ((with_reducible apply WS_app); exact rfl) | ((with_reducible apply SlK.mk); exact rfl)
  | with_reducible refine WL_lst ?_ | with_reducible refine WL_cat ?_ | with_reducible refine WL_iterS ?_ | with_reducible refine WL_iterR1 ?_ | with_reducible refine WL_iterR2 ?_ | with_reducible refine WL_iterZ ?_ | with_reducible refine WL_iterE ?_
  | ((with_reducible apply WE_move); exact rfl; array_mem_dec) | ((with_reducible apply WL_move); exact rfl; array_mem_dec)
  | ((with_reducible apply WA_own); exact rfl) | with_reducible refine callD_bag1 ?_ | with_reducible refine callD_data0 ?_ | with_reducible refine ArB.a0 ?_ | with_reducible refine ArB.a1 ?_ | with_reducible refine ArB.a2 ?_ | with_reducible refine ArB.a3 ?_ | ((with_reducible apply BagK.mk); (with_reducible assumption))
  | with_reducible refine AppK.mk (by (try simp only [List.cons_append, List.nil_append]); first | done | rfl) ?_ | with_reducible refine WL_callN ?_ | ((with_reducible apply FrK.mk); (with_reducible assumption))
  | with_reducible refine WE_err (by simp only [DL.hide, List.map_cons, List.map_nil]; first | done | rfl) ?_
  | ((with_reducible apply P2K.mk); exact rfl) | ((with_reducible apply P3K.mk); exact rfl) | ((with_reducible apply I1K.mk); exact rfl) | ((with_reducible apply I2K.mk); exact rfl) | ((with_reducible apply ZiK.lst); exact rfl) | ((with_reducible apply ZiK.tup); exact rfl) | ((with_reducible apply E1K.mk); exact rfl) | ((with_reducible apply MoK.mk); exact rfl) | ((with_reducible apply Nat.le_of_ble_eq_true); exact rfl) | ((with_reducible apply Eq.symm); exact rfl) | (with_reducible refine fun (_ : _ = true) => ?_))
local macro_rules | `(tactic| clean_wf) => `(tactic| (refine is_wp rfl ?_; simp only [List.map_cons, List.map_nil, List.cons_append, List.nil_append, Nat.reduceSub, List.replicate]))
local macro_rules | `(tactic| simp_wf) => `(tactic| ((· (repeat array_get_dec)); (· exact rfl); (· (simp only [wipeR, List.set_cons_zero, List.set_cons_succ]; first | done | rfl)); (· (simp only [restR, List.set_cons_zero, List.set_cons_succ, List.getElem?_cons_zero, List.getElem?_cons_succ, Option.getD_some]; first | done | rfl))))
abbrev sFree : Str := PySem.Str.ofString "free"
abbrev sShut : Str := PySem.Str.ofString "shut"
abbrev sForced : Str := PySem.Str.ofString "forced"
def kindS : Option Bool → Str
  | some true => sFree
  | some false => sForced
  | none => sShut
@[simp] theorem in_whole (nx wh : Bool) : inE (.str sWhole) (markD nx wh) = some (.bl wh) := by cases nx <;> cases wh <;> kernel_rfl
@[simp] theorem in_next (nx wh : Bool) : inE (.str sNext) (markD nx wh) = some (.bl nx) := by cases nx <;> cases wh <;> kernel_rfl
/-- two rows, with counts, that follow each other -/
structure Nb3 (d : List Pt) (cs : List Int) (a b : Int × Int × Int) (p q : Nat) (P : Pt) : Prop where
  a1 : a.1 = (p : Int)
  b1 : b.1 = (q : Int)
  hp : d[p]? = some P
  nb : P.isB = false
  c : cs[p]? = some a.2.2
  nx : (p = q ∧ b.2.1 = a.2.1 + 1 ∧ b.2.2 = a.2.2) ∨ p < q
theorem nb3 {d : List Pt} {cs : List Int} (k : Cok d cs) {i : Nat} {a b : Int × Int × Int} (ha : (r3 0 cs)[i]? = some a) (hb : (r3 0 cs)[i + 1]? = some b) : ∃ p q P, Nb3 d cs a b p q P := by
  obtain ⟨p, e1, e2, e3, e4⟩ := r3_mem (List.mem_of_getElem? ha)
  obtain ⟨q, f1, f2, f3, f4⟩ := r3_mem (List.mem_of_getElem? hb)
  have n := r3_next ha hb
  have hp : p < d.length := by rw [k.len]; exact (List.getElem?_eq_some_iff.mp e2).1
  refine ⟨p, q, d[p], by rw [e1]; simp, by rw [f1]; simp, List.getElem?_eq_getElem hp, ?_, e2, ?_⟩
  · cases hB : d[p].isB with
    | false => rfl
    | true =>
      have := k.brk p _ a.2.2 (List.getElem?_eq_getElem hp) e2 hB
      omega
  · rcases n with ⟨n1, n2, n3⟩ | n1
    · exact .inl ⟨by omega, n2, n3⟩
    · exact .inr (by omega)
theorem cut_doc (d : List Pt) (i j : Nat) : slD (docD d) (some (i : Int)) (some (j : Int)) = some (.tup (((d.take j).drop i).map Pt.d)) := by
  show some (D.tup (DL.cutD (d.map Pt.d) (some (i : Int)) (some (j : Int)))) = _
  rw [cutD_nat]
theorem law_kind {d : List Pt} {r : Int × Int} {cs : List Int} {a b : Int × Int × Int} {p q : Nat} {P : Pt} (h : Nb3 d cs a b p q P) (hl : d.length ≤ 8) :
    Is f__law_kind [docD d, rulD r, triD a, triD b] (.str (kindS (kindAt d r cs (a.1, a.2.1) (b.1, b.2.1)))) := by
  obtain ⟨a1, b1, hp, nb, hc, nx⟩ := h
  obtain ⟨x1, x2, x3⟩ := a
  obtain ⟨y1, y2, y3⟩ := b
  simp only at a1 b1 hc nx
  subst a1 b1
  have e4 : ixD (docD d) (.int (p : Int)) = some P.d := atNat (by rw [List.getElem?_map, hp]; rfl)
  have hk : kindAt d r cs ((p : Int), x2) ((q : Int), y2) = if (p : Int) = (q : Int) then insideK r x3 x2 P
    else if Pt.brk ∈ sliceP d (p + 1) q then some false
    else if P.nx = true then none else some true := by
    unfold kindAt
    simp only [Int.toNat_natCast]
    rw [hp, hc]
    rfl
  simp only
  rw [hk]
  clean_wf
  unfold b__law_kind
  repeat array_get_dec
  rcases nx with ⟨rfl, rfl, rfl⟩ | lt
  · have t : decide ((p : Int) = (p : Int)) = true := by simp
    rw [if_pos rfl]
    cases P with
    | brk => cases nb
    | blk n nx => 
      repeat array_get_dec
    | txt ws nx wh =>
      have iw := in_whole nx wh
      cases wh with
      | true => repeat array_get_dec
      | false =>
        repeat array_get_dec
        by_cases h1 : r.1 ≤ x2 + 1
        · have t1 : decide (r.1 ≤ x2 + 1) = true := decide_eq_true h1
          repeat array_get_dec
          by_cases h2 : r.2 ≤ y3 - (x2 + 1)
          · have t2 : decide (r.2 ≤ y3 - (x2 + 1)) = true := decide_eq_true h2
            have e : insideK r y3 x2 (.txt ws nx false) = some true := by simp only [insideK]; rw [if_pos ⟨trivial, h1, by omega⟩]
            rw [e]
            repeat array_get_dec
          · have t2 : decide (r.2 ≤ y3 - (x2 + 1)) = false := decide_eq_false h2
            have e : insideK r y3 x2 (.txt ws nx false) = none := by simp only [insideK]; rw [if_neg (fun z => h2 (by omega))]
            rw [e]
            repeat array_get_dec
        · have t1 : decide (r.1 ≤ x2 + 1) = false := decide_eq_false h1
          have e : insideK r y3 x2 (.txt ws nx false) = none := by simp only [insideK]; rw [if_neg (fun z => h1 (by omega))]
          rw [e]
          repeat array_get_dec
  · have t : decide ((p : Int) = (q : Int)) = false := by simp; omega
    have pq : ¬ ((p : Int) = (q : Int)) := by omega
    rw [if_neg pq]
    have cd := cut_doc d p q
    repeat array_get_dec
    apply WE_lc Pt.d (fun x => if x.isB = true then some x.d else none) ((d.take q).drop p)
    simp_wf
    · have : ((d.take q).drop p).length ≤ d.length := by rw [List.length_drop, List.length_take]; omega
      omega
    · intro x hx
      have kb := kind_break x
      repeat array_get_dec
      cases hB : x.isB with
      | true => repeat array_get_dec
      | false => repeat array_get_dec
    · rw [fm_filter (fun x : Pt => x.isB)]
      have eq0 : neE (.lst ((((d.take q).drop p).filter fun x => x.isB).map Pt.d)) (.lst []) = some (.bl (!decide ((((d.take q).drop p).filter fun x => x.isB) = []))) := encPt.lst.neE (by decide) _ []
      have hsl : (d.take q).drop p = P :: sliceP d (p + 1) q := by
        unfold sliceP
        have hp2 : (d.take q)[p]? = some P := by rw [List.getElem?_take_of_lt lt, hp]
        obtain ⟨l1, l2⟩ := List.getElem?_eq_some_iff.mp hp2
        rw [List.drop_eq_getElem_cons l1, l2]
      have hbk : ((((d.take q).drop p).filter fun x => x.isB) = []) ↔ ¬ Pt.brk ∈ sliceP d (p + 1) q := by
        rw [hsl, List.filter_cons_of_neg (by rw [nb]; exact Bool.false_ne_true), List.filter_eq_nil_iff]
        constructor
        · intro h z
          exact h _ z rfl
        · intro h x hx z
          cases x with
          | brk => exact h hx
          | _ => cases z
      by_cases hb : Pt.brk ∈ sliceP d (p + 1) q
      · have eq1 : decide ((((d.take q).drop p).filter fun x => x.isB) = []) = false := decide_eq_false fun z => hbk.mp z hb
        rw [eq1] at eq0
        rw [if_pos hb]
        repeat array_get_dec
      · have eq1 : decide ((((d.take q).drop p).filter fun x => x.isB) = []) = true := decide_eq_true (hbk.mpr hb)
        rw [eq1] at eq0
        rw [if_neg hb]
        cases P with
        | brk => cases nb
        | blk n nx =>
          have iN := in_next nx false
          repeat array_get_dec
          cases nx <;> repeat array_get_dec
        | txt ws nx wh =>
          have iN := in_next nx wh
          repeat array_get_dec
          cases nx <;> repeat array_get_dec
/-! ### all kinds -/
def kD (k : Option Bool) : D := .str (kindS k)
def kAt (d : List Pt) (r : Int × Int) (cs : List Int) (i : Nat) : Option Bool := match (rowsFrom 0 cs)[i]?, (rowsFrom 0 cs)[i + 1]? with
  | some a, some b => kindAt d r cs a b
  | _, _ => none
def kindsOf (d : List Pt) (r : Int × Int) (cs : List Int) : List (Option Bool) := (some false :: (List.range ((rowsFrom 0 cs).length - 1)).map (kAt d r cs)) ++ [some false]
def rowsD (cs : List Int) : D := .lst ((r3 0 cs).map triD)
def kindsD (d : List Pt) (r : Int × Int) (cs : List Int) : D := .lst ((kindsOf d r cs).map kD)
theorem law_kinds {d : List Pt} {r : Int × Int} {cs : List Int} (k : Cok d cs) : Is f__law_kinds [docD d, rulD r, rowsD cs] (kindsD d r cs) := by
  have hr := k.rows
  have hs := k.sum104
  have l3 := r3_len cs
  have ln : lenD [rowsD cs] = some (.int ((rowsFrom 0 cs).length : Nat)) := by
    show some (D.int (((r3 0 cs).map triD).length : Nat)) = _
    rw [List.length_map, l3]
  clean_wf
  unfold b__law_kinds
  repeat array_get_dec
  refine WS_for (fun i : Nat => D.int (1 + (i : Nat))) (List.range ((rowsFrom 0 cs).length - 1)) (fun i ρ => ∃ j4, ρ = [.da (docD d), .da (rulD r), .da (rowsD cs), .mu (.lst ((some false :: (List.range i).map (kAt d r cs)).map kD)), j4]) ?_ ?_ ?_
  · repeat array_get_dec
    · rw [show (((rowsFrom 0 cs).length : Int) - 1).toNat = (rowsFrom 0 cs).length - 1 by omega]
      exact ⟨rg_map 1 _, _, rfl⟩
  · rintro i x ρ hi ⟨j4, rfl⟩
    obtain ⟨hi1, hi2⟩ := List.getElem?_eq_some_iff.mp hi
    rw [List.length_range] at hi1
    rw [List.getElem_range] at hi2
    subst hi2
    have q1 : i < (r3 0 cs).length := by omega
    have q2 : i + 1 < (r3 0 cs).length := by omega
    have ha := List.getElem?_eq_getElem q1
    have hb := List.getElem?_eq_getElem q2
    obtain ⟨p, q, P, n3⟩ := nb3 k ha hb
    have lk := law_kind (r := r) n3 k.l
    have ka : kAt d r cs i = kindAt d r cs ((r3 0 cs)[i].1, (r3 0 cs)[i].2.1) ((r3 0 cs)[i + 1].1, (r3 0 cs)[i + 1].2.1) := by
      unfold kAt
      rw [r3_get, r3_get, ha, hb]
      rfl
    rw [← ka] at lk
    have e1 : ixD (rowsD cs) (.int (1 + (i : Int) - 1)) = some (triD (r3 0 cs)[i]) := by
      rw [show (1 + (i : Int) - 1) = (i : Int) by omega]
      exact atNat (by rw [List.getElem?_map, ha]; rfl)
    have e2 : ixD (rowsD cs) (.int (1 + (i : Int))) = some (triD (r3 0 cs)[i + 1]) := by
      rw [show (1 + (i : Int)) = ((i + 1 : Nat) : Int) by omega]
      exact atNat (by rw [List.getElem?_map, hb]; rfl)
    have sl : ((some false :: (List.range i).map (kAt d r cs)).map kD).length < 16777216 := by
      rw [List.length_map, List.length_cons, List.length_map, List.length_range]
      omega
    have e3 : (some false :: (List.range (i + 1)).map (kAt d r cs)).map kD = (some false :: (List.range i).map (kAt d r cs)).map kD ++ [.str (kindS (kAt d r cs i))] := by
      rw [List.range_succ, List.map_append]
      simp [kD]
    rw [e3]
    repeat array_get_dec
    exact ⟨_, rfl⟩
  · rintro ρ ⟨j4, rfl⟩
    rw [List.length_range]
    have ad : addD (.lst ((some false :: (List.range ((rowsFrom 0 cs).length - 1)).map (kAt d r cs)).map kD)) (.lst [.str sForced]) = some (kindsD d r cs) := by
      rw [addD_lst, if_pos (by rw [List.length_map, List.length_cons, List.length_map, List.length_range]; exact small (by simp; omega))]
      unfold kindsD kindsOf
      rw [List.map_append]
      rfl
    repeat array_get_dec
def sceneD (d : List Pt) (r : Int × Int) (w : Int) : D := .tup [rowsD (counts d w), kindsD d r (counts d w)]
theorem law_scene {d : List Pt} (v : Vd d) (r : Int × Int) (w : Int) : Is f__law_scene [docD d, rulD r, .int w] (sceneD d r w) := by
  have c1 : Is f__law_rows [docD d, .int w] (rowsD (counts d w)) := law_rows v w
  have c2 := law_kinds (r := r) (cok v w)
  clean_wf
  unfold b__law_scene
  repeat array_get_dec
end MA

set_option maxHeartbeats 4000000
/-! N7: errors of the package's functions. -/
namespace MA
open PySem PySem.Spec PyProof.Rows L2 DL PK
local macro_rules | `(tactic| array_mem_dec) => `(tactic| (simp only [List.set_cons_zero, List.set_cons_succ]; first | done | rfl))
local macro_rules | `(tactic| sizeOf_list_dec) => `(tactic| first | (with_reducible assumption) | exact rfl | assumption | exact Nat.le_of_ble_eq_true rfl | (rw [sz]; exact Nat.le_of_ble_eq_true rfl) | omega | (constructor <;> omega) | (refine ⟨⟨?_, ?_⟩, ?_, ?_⟩ <;> omega) | (refine ⟨⟨?_, ?_⟩, ⟨?_, ?_⟩, ?_⟩ <;> omega))
local macro_rules | `(tactic| array_get_dec) => `(tactic| first
  | ((with_reducible apply WE_var); exact rfl) | with_reducible refine WE_ret ?_ | ((with_reducible apply WS_hyp); (with_reducible assumption)) | with_reducible refine WS_seq ?_ | with_reducible refine WL_cons ?_ | with_reducible refine WL_nil ?_ | with_reducible refine WE_bin ?_
  | ((with_reducible apply OpK.mk); (with_reducible assumption)) | ((with_reducible apply OpK.mk); (simp only [eq_int, ne_int, allD_map, ix_kind, kind_break, kind_nbreak, kind_text, kind_block, isB_brk, isB_blk, isB_txt, isT_brk, isT_blk, isT_txt, isK_brk, isK_blk, isK_txt]; first | done | rfl)) | ((with_reducible apply OpK.mk); exact rfl) | ((with_reducible apply OpK.mk); (simp; rfl))
  | with_reducible refine WS_asg ?_ | with_reducible refine WG_name ?_ | with_reducible refine SetK.mk (by array_mem_dec) ?_
  | with_reducible refine WA_cons ?_ | with_reducible refine WA_nil ?_ | with_reducible refine callD_data1 ?_ | with_reducible refine ArK.a1 ?_ | with_reducible refine ArK.a2 ?_ | with_reducible refine ArK.a3 ?_ | with_reducible refine ArK.a4 ?_ | with_reducible refine ArK.a5 ?_ | with_reducible refine ArK.a0 ?_
  | ((with_reducible apply IsK.mk); (with_reducible assumption)) | ((with_reducible apply IsK.er); (with_reducible assumption))
  | with_reducible refine WS_if ?_ | with_reducible refine WB_tst ?_ | ((with_reducible apply BlK.mk); exact rfl) | with_reducible refine if_t rfl ?_ | with_reducible refine if_f rfl ?_ | with_reducible refine if_nt rfl ?_ | with_reducible refine if_nf rfl ?_ | ((with_reducible apply if_t); (with_reducible assumption)) | ((with_reducible apply if_f); (with_reducible assumption)) | ((with_reducible apply if_nt); (with_reducible assumption)) | ((with_reducible apply if_nf); (with_reducible assumption))
  | with_reducible refine WE_lst ?_ | with_reducible refine WE_tup ?_ | ((with_reducible refine And.intro ?_ ?_); (· sizeOf_list_dec)) | with_reducible refine WE_fun ?_ | with_reducible refine WS_ret ?_ | with_reducible refine WS_nx ?_
  | with_reducible refine WE_un ?_ | with_reducible refine WE_isi ?_ | with_reducible refine WE_and ?_ | with_reducible refine WE_or ?_ | with_reducible refine WE_not ?_ | with_reducible refine WE_if ?_ | with_reducible refine WE_mt1 ?_ | with_reducible refine WE_chain ?_ | with_reducible refine WE_sl ?_ | with_reducible refine WE_listRg ?_
  | with_reducible refine WO_no ?_ | with_reducible refine WO_some ?_ | ((with_reducible apply InK.mk); exact rfl) | ((with_reducible apply StK.mk); exact rfl) | ((with_reducible apply TuK.mk); exact rfl) | ((with_reducible apply LsK.mk); exact rfl) | ((with_reducible apply SqK.lst); exact rfl) | ((with_reducible apply SqK.tup); exact rfl)
  | with_reducible refine WB_yes ?_ | with_reducible refine WB_and ?_ | with_reducible refine WB_or ?_ | with_reducible refine WB_not ?_ | with_reducible refine WG_tup ?_ | with_reducible refine WG_lst ?_ | with_reducible refine WGs_nil ?_ | with_reducible refine WGs_cons ?_
  | with_reducible refine WS_drop ?_ | with_reducible refine WS_par ?_ | with_reducible refine WS_par3 ?_ | with_reducible refine WS_setF ?_ | with_reducible refine WS_raise ?_ | ((with_reducible apply WS_app); exact rfl) | ((with_reducible apply SlK.mk); exact rfl)
  | with_reducible refine WL_lst ?_ | with_reducible refine WL_cat ?_ | with_reducible refine WL_iterS ?_ | with_reducible refine WL_iterR1 ?_ | with_reducible refine WL_iterR2 ?_ | with_reducible refine WL_iterZ ?_ | with_reducible refine WL_iterE ?_
  | ((with_reducible apply WE_move); exact rfl; array_mem_dec) | ((with_reducible apply WL_move); exact rfl; array_mem_dec)
  | ((with_reducible apply WA_own); exact rfl) | with_reducible refine callD_bag1 ?_ | with_reducible refine callD_data0 ?_ | with_reducible refine ArB.a0 ?_ | with_reducible refine ArB.a1 ?_ | with_reducible refine ArB.a2 ?_ | with_reducible refine ArB.a3 ?_ | ((with_reducible apply BagK.mk); (with_reducible assumption))
  | with_reducible refine AppK.mk (by (try simp only [List.cons_append, List.nil_append]); first | done | rfl) ?_ | with_reducible refine WL_callN ?_ | ((with_reducible apply FrK.mk); (with_reducible assumption))
  | with_reducible refine WE_err (by simp only [DL.hide, List.map_cons, List.map_nil]; first | done | rfl) ?_
  | ((with_reducible apply P2K.mk); exact rfl) | ((with_reducible apply P3K.mk); exact rfl) | ((with_reducible apply I1K.mk); exact rfl) | ((with_reducible apply I2K.mk); exact rfl) | ((with_reducible apply ZiK.lst); exact rfl) | ((with_reducible apply ZiK.tup); exact rfl) | ((with_reducible apply E1K.mk); exact rfl) | ((with_reducible apply MoK.mk); exact rfl) | ((with_reducible apply Nat.le_of_ble_eq_true); exact rfl) | ((with_reducible apply Eq.symm); exact rfl) | (with_reducible refine fun (_ : _ = true) => ?_))
local macro_rules | `(tactic| clean_wf) => `(tactic| (refine is_wp rfl ?_; simp only [List.map_cons, List.map_nil, List.cons_append, List.nil_append, Nat.reduceSub, List.replicate]))
local macro_rules | `(tactic| simp_wf) => `(tactic| ((· (repeat array_get_dec)); (· exact rfl); (· (simp only [wipeR, List.set_cons_zero, List.set_cons_succ]; first | done | rfl)); (· (simp only [restR, List.set_cons_zero, List.set_cons_succ, List.getElem?_cons_zero, List.getElem?_cons_succ, Option.getD_some]; first | done | rfl))))
theorem noI_non (lo hi : D) : Is f_is_whole [.non, lo, hi] (.bl false) := by
  have e := isi_non_int
  clean_wf
  unfold b_is_whole
  repeat array_get_dec
theorem noI_str (s : Str) (lo hi : D) : Is f_is_whole [.str s, lo, hi] (.bl false) := by
  have e := isi_str_int s
  clean_wf
  unfold b_is_whole
  repeat array_get_dec
theorem noI_tup (s : List D) (lo hi : D) : Is f_is_whole [.tup s, lo, hi] (.bl false) := by
  have e := isi_tup_int s
  clean_wf
  unfold b_is_whole
  repeat array_get_dec
theorem noI_lst (s : List D) (lo hi : D) : Is f_is_whole [.lst s, lo, hi] (.bl false) := by
  have e := isi_lst_int s
  clean_wf
  unfold b_is_whole
  repeat array_get_dec
theorem noI_bl (b : Bool) (lo hi : D) : Is f_is_whole [.bl b, lo, hi] (.bl false) := by
  have e := isi_bl_int b
  have e2 := isi_bl_bool b
  clean_wf
  unfold b_is_whole
  repeat array_get_dec
theorem noI_int {n lo hi : Int} (h : ¬ (lo ≤ n ∧ n ≤ hi)) : Is f_is_whole [.int n, .int lo, .int hi] (.bl false) := by
  have := is_whole n lo hi
  have e : (decide (lo ≤ n) && decide (n ≤ hi)) = false := by
    rw [Bool.eq_false_iff]
    intro z
    rw [Bool.and_eq_true, decide_eq_true_eq, decide_eq_true_eq] at z
    exact h z
  rw [e] at this
  exact this
theorem yesI {n lo hi : Int} (h : lo ≤ n ∧ n ≤ hi) : Is f_is_whole [.int n, .int lo, .int hi] (.bl true) := by
  have := is_whole n lo hi
  rw [decide_eq_true h.1, decide_eq_true h.2] at this
  exact this
section
variable {d : List Pt} {r : Int × Int} {x y z : D}
theorem er_width (v : Vd d) (h : Is f_is_whole [x, .int (least d), .int 1000000000] (.bl false)) : Er f_need_width [docD d, x] .size := by
  have c := least_width v
  (refine er_wp rfl ?_; simp only [List.map_cons, List.map_nil, List.cons_append, List.nil_append, Nat.reduceSub, List.replicate])
  unfold b_need_width
  repeat array_get_dec
theorem er_height (h : Is f_is_whole [x, .int 1, .int 1000000000] (.bl false)) : Er f_need_height [x] .size := by
  (refine er_wp rfl ?_; simp only [List.map_cons, List.map_nil, List.cons_append, List.nil_append, Nat.reduceSub, List.replicate])
  unfold b_need_height
  repeat array_get_dec
theorem er_doc (h : Is f_is_document [x] (.bl false)) : Er f_need_document [x] .doc := by
  (refine er_wp rfl ?_; simp only [List.map_cons, List.map_nil, List.cons_append, List.nil_append, Nat.reduceSub, List.replicate])
  unfold b_need_document
  repeat array_get_dec
theorem er_rules (h : Is f_is_rules [x] (.bl false)) : Er f_need_rules [x] .rules := by
  (refine er_wp rfl ?_; simp only [List.map_cons, List.map_nil, List.cons_append, List.nil_append, Nat.reduceSub, List.replicate])
  unfold b_need_rules
  repeat array_get_dec
theorem er_both1 (h : Is f_is_document [x] (.bl false)) : Er f_need_both [x, y] .doc := by
  have c := er_doc h
  (refine er_wp rfl ?_; simp only [List.map_cons, List.map_nil, List.cons_append, List.nil_append, Nat.reduceSub, List.replicate])
  unfold b_need_both
  repeat array_get_dec
theorem er_both2 (v : Vd d) (h : Is f_is_rules [x] (.bl false)) : Er f_need_both [docD d, x] .rules := by
  have c1 := need_document v
  have c := er_rules h
  (refine er_wp rfl ?_; simp only [List.map_cons, List.map_nil, List.cons_append, List.nil_append, Nat.reduceSub, List.replicate])
  unfold b_need_both
  repeat array_get_dec
theorem rows_at_d (h : Is f_is_document [x] (.bl false)) : Er f_rows_at [x, y] .doc := by
  have c := er_doc h
  (refine er_wp rfl ?_; simp only [List.map_cons, List.map_nil, List.cons_append, List.nil_append, Nat.reduceSub, List.replicate])
  unfold b_rows_at
  repeat array_get_dec
theorem rows_at_w (v : Vd d) (h : Is f_is_whole [x, .int (least d), .int 1000000000] (.bl false)) : Er f_rows_at [docD d, x] .size := by
  have c1 := need_document v
  have c := er_width v h
  (refine er_wp rfl ?_; simp only [List.map_cons, List.map_nil, List.cons_append, List.nil_append, Nat.reduceSub, List.replicate])
  unfold b_rows_at
  repeat array_get_dec
theorem free_d (h : Is f_is_document [x] (.bl false)) : Er f_free_places [x, y, z] .doc := by
  have c := er_both1 (y := y) h
  (refine er_wp rfl ?_; simp only [List.map_cons, List.map_nil, List.cons_append, List.nil_append, Nat.reduceSub, List.replicate])
  unfold b_free_places
  repeat array_get_dec
theorem free_r (v : Vd d) (h : Is f_is_rules [x] (.bl false)) : Er f_free_places [docD d, x, y] .rules := by
  have c := er_both2 v h
  (refine er_wp rfl ?_; simp only [List.map_cons, List.map_nil, List.cons_append, List.nil_append, Nat.reduceSub, List.replicate])
  unfold b_free_places
  repeat array_get_dec
theorem free_w (v : Vd d) (vr : Vr r) (h : Is f_is_whole [x, .int (least d), .int 1000000000] (.bl false)) : Er f_free_places [docD d, rulD r, x] .size := by
  have c1 := need_both v vr
  have c := er_width v h
  (refine er_wp rfl ?_; simp only [List.map_cons, List.map_nil, List.cons_append, List.nil_append, Nat.reduceSub, List.replicate])
  unfold b_free_places
  repeat array_get_dec
theorem forced_d (h : Is f_is_document [x] (.bl false)) : Er f_forced_places [x, y] .doc := by
  have c := er_doc h
  (refine er_wp rfl ?_; simp only [List.map_cons, List.map_nil, List.cons_append, List.nil_append, Nat.reduceSub, List.replicate])
  unfold b_forced_places
  repeat array_get_dec
theorem forced_w (v : Vd d) (h : Is f_is_whole [x, .int (least d), .int 1000000000] (.bl false)) : Er f_forced_places [docD d, x] .size := by
  have c1 := need_document v
  have c := er_width v h
  (refine er_wp rfl ?_; simp only [List.map_cons, List.map_nil, List.cons_append, List.nil_append, Nat.reduceSub, List.replicate])
  unfold b_forced_places
  repeat array_get_dec
theorem free_places (v : Vd d) (vr : Vr r) {w : Int} (h1 : least d ≤ w) (h2 : w ≤ 1000000000) : Is f_free_places [docD d, rulD r, .int w] (.lst ((freesOf d r (counts d w)).map D.int)) := by
  have c1 := need_both v vr
  have c2 := need_width_ok v h1 h2
  have c3 := counts_at d w (by have := v.l8; omega)
  have c4 := places_with (r := r) (cok v w)
  clean_wf
  unfold b_free_places
  repeat array_get_dec
theorem forced_places (v : Vd d) {w : Int} (h1 : least d ≤ w) (h2 : w ≤ 1000000000) : Is f_forced_places [docD d, .int w] (.lst ((forcedsOf d (1, 1) (counts d w)).map D.int)) := by
  have c1 := need_document v
  have c2 := need_width_ok v h1 h2
  have c3 := counts_at d w (by have := v.l8; omega)
  have c4 : Is f_places_with [docD d, .tup [.int 1, .int 1], .lst ((counts d w).map D.int)] (.tup [.lst ((freesOf d (1, 1) (counts d w)).map D.int), .lst ((forcedsOf d (1, 1) (counts d w)).map D.int)]) := places_with (r := (1, 1)) (cok v w)
  clean_wf
  unfold b_forced_places
  repeat array_get_dec
end
/-! ### values that are no documents, no rules -/
theorem nodoc_non : Is f_is_document [.non] (.bl false) := by unfold Is; kernel_rfl
theorem nodoc_nil : Is f_is_document [.tup []] (.bl false) := by unfold Is; kernel_rfl
theorem norul_non : Is f_is_rules [.non] (.bl false) := by unfold Is; kernel_rfl
theorem norul_01 : Is f_is_rules [.tup [.int 0, .int 1]] (.bl false) := by unfold Is; kernel_rfl
/-- a document with something behind it that is no part -/
def optD (x : D) : Option Pt → D
  | some p => p.d
  | none => x
theorem nodoc_tail {d : List Pt} (v : Vd d) {x : D} (hx : Is f_is_part [x] (.bl false)) : Is f_is_document [.tup (d.map Pt.d ++ [x])] (.bl false) := by
  have l8 := v.l8
  have l1 := v.l1
  have ln : lenD [.tup (d.map Pt.d ++ [x])] = some (.int ((d.length + 1 : Nat) : Int)) := by
    show some (D.int ((d.map Pt.d ++ [x]).length : Nat)) = _
    rw [List.length_append, List.length_map]
    rfl
  have e0 := isi_tup_tuple (d.map Pt.d ++ [x])
  have t1 : decide ((1 : Int) ≤ ((d.length + 1 : Nat) : Int)) = true := decide_eq_true (by omega)
  clean_wf
  unfold b_is_document
  repeat array_get_dec
  by_cases h8 : d.length + 1 ≤ 8
  · have t2 : decide (((d.length + 1 : Nat) : Int) ≤ 8) = true := decide_eq_true (by omega)
    have hm : d.map Pt.d ++ [x] = (d.map some ++ [none]).map (optD x) := by
      rw [List.map_append, List.map_map]
      rfl
    repeat array_get_dec
    apply WE_lc (optD x) (fun o => some (.bl o.isSome)) (d.map some ++ [none])
    simp_wf
    · simp; omega
    · intro o ho
      cases o with
      | none =>
        have hx : Is f_is_part [optD x none] (.bl false) := hx
        repeat array_get_dec
      | some p =>
        have hp : p ∈ d := by simpa using ho
        have c : Is f_is_part [optD x (some p)] (.bl true) := is_part p (v.ok p hp)
        repeat array_get_dec
    · rw [fm_map (fun o : Option Pt => D.bl o.isSome)]
      have a := allD_map (fun o : Option Pt => o.isSome) (d.map some ++ [none])
      have a2 : (d.map some ++ [none]).all (fun o : Option Pt => o.isSome) = false := by simp
      rw [a2] at a
      repeat array_get_dec
  · have t2 : decide (((d.length + 1 : Nat) : Int) ≤ 8) = false := decide_eq_false (by omega)
    repeat array_get_dec
end MA

set_option maxHeartbeats 4000000
/-! M13: documents put one behind the other: rows, places, settings. -/
namespace MA
open PySem PySem.Spec PyProof.Rows L2 DL PK
def shiftQ (N : Nat) (q : Int × Int) : Int × Int := (q.1 + (N : Int), q.2)
theorem rowsFrom_append : ∀ (k : Nat) (a b : List Int), rowsFrom k (a ++ b) = rowsFrom k a ++ rowsFrom (k + a.length) b
  | k, [], b => rfl
  | k, c :: a, b => by
    show ((List.range c.toNat).map fun r : Nat => ((k : Int), (r : Int))) ++ rowsFrom (k + 1) (a ++ b) = (((List.range c.toNat).map fun r : Nat => ((k : Int), (r : Int))) ++ rowsFrom (k + 1) a) ++ rowsFrom (k + (a.length + 1)) b
    rw [rowsFrom_append (k + 1) a b, List.append_assoc, show k + 1 + a.length = k + (a.length + 1) by omega]
theorem rowsFrom_shift : ∀ (m N : Nat) (c : List Int), rowsFrom (m + N) c = (rowsFrom m c).map (shiftQ N)
  | m, N, [] => rfl
  | m, N, c :: cs => by
    show ((List.range c.toNat).map fun r : Nat => (((m + N : Nat) : Int), (r : Int))) ++ rowsFrom (m + N + 1) cs = (((List.range c.toNat).map fun r : Nat => ((m : Int), (r : Int))) ++ rowsFrom (m + 1) cs).map (shiftQ N)
    rw [List.map_append, List.map_map, show m + N + 1 = (m + 1) + N by omega, rowsFrom_shift (m + 1) N cs]
    congr 1
theorem slice_mid (pre d post : List Pt) (i j : Nat) (hj : j ≤ d.length) : sliceP (pre ++ d ++ post) (pre.length + i) (pre.length + j) = sliceP d i j := by
  unfold sliceP
  rw [List.append_assoc, List.take_append, List.drop_append]
  rw [List.take_of_length_le (show pre.length ≤ pre.length + j by omega), List.drop_of_length_le (show pre.length ≤ pre.length + i by omega)]
  rw [show pre.length + j - pre.length = j by omega, show pre.length + i - pre.length = i by omega, List.nil_append, List.take_append_of_le_length hj]
theorem kind_mid {pre d post : List Pt} {cpre c cpost : List Int} (r : Int × Int) (h1 : pre.length = cpre.length) (h2 : d.length = c.length) {a b : Int × Int} {i j : Nat} (ea : a.1 = (i : Int)) (eb : b.1 = (j : Int)) (hi : i < d.length) (hj : j ≤ d.length) :
    kindAt (pre ++ d ++ post) r (cpre ++ c ++ cpost) (shiftQ pre.length a) (shiftQ pre.length b) = kindAt d r c a b := by
  obtain ⟨a1, a2⟩ := a
  obtain ⟨b1, b2⟩ := b
  simp only at ea eb
  subst ea eb
  have t1 : ((i : Int) + (pre.length : Int)).toNat = pre.length + i := by omega
  have t2 : ((j : Int) + (pre.length : Int)).toNat = pre.length + j := by omega
  have g1 : (pre ++ d ++ post)[pre.length + i]? = d[i]? := by
    rw [List.append_assoc, List.getElem?_append_right (by omega), show pre.length + i - pre.length = i by omega, List.getElem?_append_left hi]
  have g2 : (cpre ++ c ++ cpost)[pre.length + i]? = c[i]? := by
    rw [List.append_assoc, List.getElem?_append_right (by omega), show pre.length + i - cpre.length = i by omega, List.getElem?_append_left (by omega)]
  unfold kindAt shiftQ
  simp only [t1, t2, Int.toNat_natCast]
  rw [g1, g2, show pre.length + i + 1 = pre.length + (i + 1) by omega, slice_mid _ _ _ _ _ hj]
  have q : ((i : Int) + (pre.length : Int) = (j : Int) + (pre.length : Int)) ↔ ((i : Int) = (j : Int)) := by omega
  cases d[i]? with
  | none => rfl
  | some p =>
    by_cases hij : (i : Int) = (j : Int)
    · simp only [if_pos hij, if_pos (q.mpr hij)]
    · simp only [if_neg hij, if_neg (fun z => hij (q.mp z))]
theorem places_congr {d d' : List Pt} {r : Int × Int} {cs cs' : List Int} {rs rs' : List (Int × Int)} {k : Bool} {n : Nat} (h : ∀ i, i < n → place d r cs rs k i = place d' r cs' rs' k i) : places d r cs rs k n = places d' r cs' rs' k n := by
  unfold places
  congr 1
  exact List.filter_congr fun i hi => h i (List.mem_range.mp hi)
theorem range_plus (a b : Nat) : List.range (a + b) = List.range a ++ (List.range b).map fun i => a + i := by
  induction b with
  | zero => simp
  | succ b ih => rw [← Nat.add_assoc, List.range_succ, ih, List.range_succ, List.map_append, List.append_assoc]; rfl
theorem places_plus {d d' : List Pt} {r : Int × Int} {cs cs' : List Int} {rs rs' : List (Int × Int)} {k : Bool} {a b : Nat} (h : ∀ i, i < b → place d r cs rs k (a + i) = place d' r cs' rs' k i) :
    places d r cs rs k (a + b) = places d r cs rs k a ++ (places d' r cs' rs' k b).map fun x => x + (a : Int) := by
  unfold places
  rw [range_plus, List.filter_append, List.map_append, List.filter_map, List.map_map, List.map_map]
  congr 1
  rw [List.filter_congr (p := place d r cs rs k ∘ fun i => a + i) (q := place d' r cs' rs' k) fun i hi => h i (List.mem_range.mp hi)]
  exact List.map_congr_left fun i _ => by simp only [Function.comp]; omega
theorem row_ix {c : List Int} {q : Int × Int} (h : q ∈ rowsFrom 0 c) : ∃ i : Nat, q.1 = (i : Int) ∧ i < c.length := by
  obtain ⟨i, x, e1, e2, _⟩ := rowsFrom_mem h
  exact ⟨i, by rw [e1]; simp, (List.getElem?_eq_some_iff.mp e2).1⟩
/-- places within a part of the rows -/
theorem place_mid {pre d post : List Pt} {cpre c cpost : List Int} (r : Int × Int) (h1 : pre.length = cpre.length) (h2 : d.length = c.length) {P S : List (Int × Int)} (k : Bool) {i : Nat} (hi : i + 1 < (rowsFrom 0 c).length) :
    place (pre ++ d ++ post) r (cpre ++ c ++ cpost) (P ++ (rowsFrom 0 c).map (shiftQ pre.length) ++ S) k (P.length + i) = place d r c (rowsFrom 0 c) k i := by
  have l0 : i < (rowsFrom 0 c).length := by omega
  have a0 : (P ++ (rowsFrom 0 c).map (shiftQ pre.length) ++ S)[P.length + i]? = some (shiftQ pre.length (rowsFrom 0 c)[i]) := by
    rw [List.append_assoc, List.getElem?_append_right (by omega), show P.length + i - P.length = i by omega, List.getElem?_append_left (by rw [List.length_map]; exact l0), List.getElem?_map, List.getElem?_eq_getElem l0]
    rfl
  have b0 : (P ++ (rowsFrom 0 c).map (shiftQ pre.length) ++ S)[P.length + i + 1]? = some (shiftQ pre.length (rowsFrom 0 c)[i + 1]) := by
    rw [List.append_assoc, List.getElem?_append_right (by omega), show P.length + i + 1 - P.length = i + 1 by omega, List.getElem?_append_left (by rw [List.length_map]; exact hi), List.getElem?_map, List.getElem?_eq_getElem hi]
    rfl
  obtain ⟨x, ex, hx⟩ := row_ix (List.getElem_mem l0)
  obtain ⟨y, ey, hy⟩ := row_ix (List.getElem_mem hi)
  unfold place
  rw [a0, b0, List.getElem?_eq_getElem l0, List.getElem?_eq_getElem hi]
  simp only
  rw [kind_mid r h1 h2 ex ey (by omega) (by omega)]
/-- one document, then what shows no rows, then another one -/
theorem cat_places {d1 sep e : List Pt} {c1 csep ce : List Int} (r : Int × Int) (l1 : d1.length = c1.length) (ls : sep.length = csep.length) (l2 : e.length = ce.length) (z : ∀ k, rowsFrom k csep = []) (m1 : 1 ≤ (rowsFrom 0 c1).length) (m2 : 1 ≤ (rowsFrom 0 ce).length) (k : Bool) :
    places (d1 ++ sep ++ e) r (c1 ++ csep ++ ce) (rowsFrom 0 (c1 ++ csep ++ ce)) k ((rowsFrom 0 (c1 ++ csep ++ ce)).length - 1) =
      places d1 r c1 (rowsFrom 0 c1) k ((rowsFrom 0 c1).length - 1) ++ (if place (d1 ++ sep ++ e) r (c1 ++ csep ++ ce) (rowsFrom 0 (c1 ++ csep ++ ce)) k ((rowsFrom 0 c1).length - 1) = true then [((rowsFrom 0 c1).length : Int)] else []) ++
        (places e r ce (rowsFrom 0 ce) k ((rowsFrom 0 ce).length - 1)).map fun x => x + ((rowsFrom 0 c1).length : Int) := by
  have hR : rowsFrom 0 (c1 ++ csep ++ ce) = rowsFrom 0 c1 ++ (rowsFrom 0 ce).map (shiftQ (d1 ++ sep).length) := by
    rw [rowsFrom_append, rowsFrom_append, z, List.append_nil]
    congr 1
    rw [show 0 + (c1 ++ csep).length = 0 + (d1 ++ sep).length by rw [List.length_append, List.length_append]; omega, rowsFrom_shift]
  have hL : (rowsFrom 0 (c1 ++ csep ++ ce)).length - 1 = (rowsFrom 0 c1).length + ((rowsFrom 0 ce).length - 1) := by
    rw [hR, List.length_append, List.length_map]
    omega
  rw [hL]
  rw [places_plus (d' := e) (cs' := ce) (rs' := rowsFrom 0 ce) ?_]
  · congr 1
    have hs := places_succ (d1 ++ sep ++ e) r (c1 ++ csep ++ ce) (rowsFrom 0 (c1 ++ csep ++ ce)) k ((rowsFrom 0 c1).length - 1)
    rw [show (rowsFrom 0 c1).length - 1 + 1 = (rowsFrom 0 c1).length by omega] at hs
    rw [hs, show (((rowsFrom 0 c1).length - 1 : Nat) : Int) + 1 = ((rowsFrom 0 c1).length : Int) by omega]
    congr 1
    refine places_congr fun i hi => ?_
    have := place_mid (pre := []) (d := d1) (post := sep ++ e) (cpre := []) (c := c1) (cpost := csep ++ ce) r rfl l1 (P := []) (S := (rowsFrom 0 ce).map (shiftQ (d1 ++ sep).length)) k (i := i) (by omega)
    rw [hR]
    have e0 : (rowsFrom 0 c1).map (shiftQ ([] : List Pt).length) = rowsFrom 0 c1 := by
      have : shiftQ ([] : List Pt).length = id := by funext q; simp [shiftQ]
      rw [this, List.map_id]
    rw [e0] at this
    simpa using this
  · intro i hi
    have := place_mid (pre := d1 ++ sep) (d := e) (post := []) (cpre := c1 ++ csep) (c := ce) (cpost := []) r (by rw [List.length_append, List.length_append]; omega) l2 (P := rowsFrom 0 c1) (S := []) k (i := i) (by omega)
    rw [hR]
    simpa using this
theorem counts_append (a b : List Pt) (w : Int) : counts (a ++ b) w = counts a w ++ counts b w := List.map_append
theorem counts_len (a : List Pt) (w : Int) : a.length = (counts a w).length := by unfold counts; rw [List.length_map]
theorem rows_pos {d : List Pt} (v : Vd d) (w : Int) : 1 ≤ (rowsFrom 0 (counts d w)).length := by
  have k := cok v w
  obtain ⟨p, hp, hb⟩ := v.nb
  have h1 := (rowCount_b (v.ok p hp) w).2.2 hb
  have : rowCount w p ≤ (counts d w).sum := by
    have key : ∀ (cs : List Int) (x : Int), (∀ c ∈ cs, 0 ≤ c) → x ∈ cs → x ≤ cs.sum := by
      intro cs
      induction cs with
      | nil => intro x _ h; cases h
      | cons c cs ih =>
        intro x h0 hx
        rw [List.sum_cons]
        have s0 : 0 ≤ cs.sum := by
          clear ih hx
          induction cs with
          | nil => simp
          | cons y ys ih2 =>
            rw [List.sum_cons]
            have := h0 y (by simp)
            have := ih2 fun z hz => h0 z (by rcases List.mem_cons.mp hz with h | h <;> simp [h])
            omega
        rcases List.mem_cons.mp hx with rfl | hx
        · omega
        · have := ih x (fun z hz => h0 z (List.mem_cons_of_mem _ hz)) hx
          have := h0 c List.mem_cons_self
          omega
    exact key _ _ (fun c hc => (k.b c hc).1) (List.mem_map.mpr ⟨p, hp, rfl⟩)
  have := k.rows
  omega
def catS (s t : Scn) : Scn := ⟨s.many + t.many, s.free ++ t.free.map (· + s.many), s.stops ++ t.stops.map (· + s.many)⟩
theorem brk_rows : ∀ k, rowsFrom k [0] = [] := fun k => rfl
/-- a break between two documents -/
theorem scene_both {d e : List Pt} (v : Vd d) (v' : Vd e) (r : Int × Int) (w : Int) : scene (d ++ [.brk] ++ e) r w = catS (scene d r w) (scene e r w) := by
  have k1 := cok v w
  have k2 := cok v' w
  have p1 := rows_pos v w
  have p2 := rows_pos v' w
  have hc : counts (d ++ [.brk] ++ e) w = counts d w ++ [0] ++ counts e w := by rw [counts_append, counts_append]; rfl
  have h1 := k1.rows
  have h2 := k2.rows
  have hlast : (rowsFrom 0 (counts d w))[(rowsFrom 0 (counts d w)).length - 1]? = some ((rowsFrom 0 (counts d w))[(rowsFrom 0 (counts d w)).length - 1]'(by omega)) := List.getElem?_eq_getElem _
  have hR : rowsFrom 0 (counts d w ++ [0] ++ counts e w) = rowsFrom 0 (counts d w) ++ (rowsFrom 0 (counts e w)).map (shiftQ (d.length + 1)) := by
    rw [rowsFrom_append, rowsFrom_append, brk_rows, List.append_nil]
    congr 1
    have hl : (counts d w ++ [0]).length = d.length + 1 := by
      have := counts_len d w
      simp
      omega
    rw [hl, rowsFrom_shift]
  -- the place between
  have bet : ∀ k, place (d ++ [.brk] ++ e) r (counts d w ++ [0] ++ counts e w) (rowsFrom 0 (counts d w ++ [0] ++ counts e w)) k ((rowsFrom 0 (counts d w)).length - 1) = !k := by
    intro k
    have a0 : (rowsFrom 0 (counts d w ++ [0] ++ counts e w))[(rowsFrom 0 (counts d w)).length - 1]? = some ((rowsFrom 0 (counts d w))[(rowsFrom 0 (counts d w)).length - 1]'(by omega)) := by
      rw [hR, List.getElem?_append_left (by omega), hlast]
    have b0 : (rowsFrom 0 (counts d w ++ [0] ++ counts e w))[(rowsFrom 0 (counts d w)).length - 1 + 1]? = some (shiftQ (d.length + 1) ((rowsFrom 0 (counts e w))[0]'(by omega))) := by
      rw [hR, List.getElem?_append_right (by omega), show (rowsFrom 0 (counts d w)).length - 1 + 1 - (rowsFrom 0 (counts d w)).length = 0 by omega, List.getElem?_map, List.getElem?_eq_getElem (show 0 < (rowsFrom 0 (counts e w)).length by omega)]
      rfl
    obtain ⟨x, ex, hx⟩ := row_ix (List.getElem_mem (show (rowsFrom 0 (counts d w)).length - 1 < (rowsFrom 0 (counts d w)).length by omega))
    obtain ⟨y, ey, hy⟩ := row_ix (List.getElem_mem (show 0 < (rowsFrom 0 (counts e w)).length by omega))
    unfold place
    rw [a0, b0]
    generalize (rowsFrom 0 (counts d w))[(rowsFrom 0 (counts d w)).length - 1]'(by omega) = A at *
    generalize (rowsFrom 0 (counts e w))[0]'(by omega) = B at *
    obtain ⟨A1, A2⟩ := A
    obtain ⟨B1, B2⟩ := B
    simp only at ex ey
    subst ex ey
    rw [← counts_len] at hx
    have kd : kindAt (d ++ [.brk] ++ e) r (counts d w ++ [0] ++ counts e w) ((x : Int), A2) (shiftQ (d.length + 1) ((y : Int), B2)) = some false := by
      unfold kindAt shiftQ
      simp only [Int.toNat_natCast]
      have t2 : ((y : Int) + ((d.length + 1 : Nat) : Int)).toNat = d.length + 1 + y := by omega
      have g : (d ++ [Pt.brk] ++ e)[x]? = some d[x] := by
        rw [List.append_assoc, List.getElem?_append_left hx, List.getElem?_eq_getElem hx]
      rw [g, t2]
      simp only
      rw [if_neg (by omega), if_pos]
      unfold sliceP
      rw [List.mem_iff_getElem?]
      refine ⟨d.length - (x + 1), ?_⟩
      rw [List.getElem?_drop, List.getElem?_take_of_lt (by omega), List.append_assoc, List.getElem?_append_right (by omega)]
      rw [show x + 1 + (d.length - (x + 1)) - d.length = 0 by omega]
      rfl
    simp only [kd]
    cases k <;> rfl
  have hsum : (counts d w ++ [0] ++ counts e w).sum = (counts d w).sum + (counts e w).sum := by simp
  have fr := cat_places (d1 := d) (sep := [.brk]) (e := e) (c1 := counts d w) (csep := [0]) (ce := counts e w) r (counts_len d w) rfl (counts_len e w) brk_rows p1 p2
  unfold scene catS freesOf forcedsOf
  rw [hc, hsum, fr true, fr false, bet true, bet false]
  simp only [h1]
  simp [List.map_append, Int.add_comm]
end MA

set_option maxHeartbeats 4000000
/-! M14: filling of two settings, one behind the other. -/
namespace MA
open PySem PySem.Spec PyProof.Rows L2 DL PK
/-! ### least and greatest -/
theorem maxI_is {l : List Int} {m : Int} (h : m ∈ l) (h2 : ∀ x ∈ l, x ≤ m) : maxI l = m :=
  Int.le_antisymm (h2 _ (maxI_mem l (fun z => by rw [z] at h; cases h))) (maxI_ge l m h)
theorem minI_is {l : List Int} {m : Int} (h : m ∈ l) (h2 : ∀ x ∈ l, m ≤ x) : minI l = m :=
  Int.le_antisymm (minI_le l m h) (h2 _ (minI_mem l (fun z => by rw [z] at h; cases h)))
theorem max2_le {i j : Int} : i ≤ max2 i j ∧ j ≤ max2 i j ∧ (max2 i j = i ∨ max2 i j = j) := by
  unfold max2
  split <;> omega
theorem least_cat (a b : List Pt) : least (a ++ [.brk] ++ b) = max2 (least a) (least b) := by
  have hw : wordsIn (a ++ [.brk] ++ b) = wordsIn a ++ wordsIn b := by
    unfold wordsIn
    rw [List.filterMap_append, List.filterMap_append]
    simp [Pt.ws]
  obtain ⟨h1, h2, h3⟩ := max2_le (i := least a) (j := least b)
  refine maxI_is ?_ ?_
  · rw [hw, List.flatten_append]
    have ma := maxI_mem (1 :: (wordsIn a).flatten) (by simp)
    have mb := maxI_mem (1 :: (wordsIn b).flatten) (by simp)
    rcases h3 with h | h
    · rw [h]
      rcases List.mem_cons.mp ma with e | e
      · show least a ∈ _
        rw [show least a = 1 from e]
        exact List.mem_cons_self
      · exact List.mem_cons_of_mem _ (List.mem_append_left _ e)
    · rw [h]
      rcases List.mem_cons.mp mb with e | e
      · show least b ∈ _
        rw [show least b = 1 from e]
        exact List.mem_cons_self
      · exact List.mem_cons_of_mem _ (List.mem_append_right _ e)
  · intro x hx
    rw [hw, List.flatten_append] at hx
    rcases List.mem_cons.mp hx with e | e
    · subst e
      have := maxI_ge (1 :: (wordsIn a).flatten) 1 List.mem_cons_self
      exact Int.le_trans this h1
    · rcases List.mem_append.mp e with e | e
      · exact Int.le_trans (maxI_ge (1 :: (wordsIn a).flatten) x (List.mem_cons_of_mem _ e)) h1
      · exact Int.le_trans (maxI_ge (1 :: (wordsIn b).flatten) x (List.mem_cons_of_mem _ e)) h2
theorem widest_cat (a b : List Pt) : widest (a ++ [.brk] ++ b) = max2 (widest a) (widest b) := by
  have hw : wordsIn (a ++ [.brk] ++ b) = wordsIn a ++ wordsIn b := by
    unfold wordsIn
    rw [List.filterMap_append, List.filterMap_append]
    simp [Pt.ws]
  obtain ⟨h1, h2, h3⟩ := max2_le (i := widest a) (j := widest b)
  obtain ⟨l1, l2, l3⟩ := max2_le (i := least a) (j := least b)
  have ga : ∀ x ∈ least a :: (wordsIn a).map wideOf, x ≤ widest a := fun x hx => maxI_ge _ x hx
  have gb : ∀ x ∈ least b :: (wordsIn b).map wideOf, x ≤ widest b := fun x hx => maxI_ge _ x hx
  have la := ga _ List.mem_cons_self
  have lb := gb _ List.mem_cons_self
  show maxI (least (a ++ [.brk] ++ b) :: (wordsIn (a ++ [.brk] ++ b)).map wideOf) = _
  rw [least_cat, hw, List.map_append]
  refine maxI_is ?_ ?_
  · have ma := maxI_mem (least a :: (wordsIn a).map wideOf) (by simp)
    have mb := maxI_mem (least b :: (wordsIn b).map wideOf) (by simp)
    rcases h3 with h | h
    · rw [h]
      rcases List.mem_cons.mp ma with e | e
      · have e : widest a = least a := e
        rw [show widest a = max2 (least a) (least b) by omega]
        exact List.mem_cons_self
      · exact List.mem_cons_of_mem _ (List.mem_append_left _ e)
    · rw [h]
      rcases List.mem_cons.mp mb with e | e
      · have e : widest b = least b := e
        rw [show widest b = max2 (least a) (least b) by omega]
        exact List.mem_cons_self
      · exact List.mem_cons_of_mem _ (List.mem_append_right _ e)
  · intro x hx
    rcases List.mem_cons.mp hx with e | e
    · omega
    · rcases List.mem_append.mp e with e | e
      · have := ga x (List.mem_cons_of_mem _ e)
        omega
      · have := gb x (List.mem_cons_of_mem _ e)
        omega
/-! ### fuel -/
theorem fillN_fuel {s : Scn} (o : Sok s) {h : Int} (hh : 1 ≤ h) : ∀ (N N' : Nat) (f : Fs), f.b ≤ s.many → (s.many - f.b).toNat ≤ N → (s.many - f.b).toNat ≤ N' → fillN s h N f = fillN s h N' f
  | 0, 0, f, _, _, _ => rfl
  | 0, N' + 1, f, hb, h1, h2 => by
    have : ¬ f.b < s.many := by omega
    show f = if f.b < s.many then _ else f
    rw [if_neg this]
  | N + 1, 0, f, hb, h1, h2 => by
    have : ¬ f.b < s.many := by omega
    show (if f.b < s.many then _ else f) = f
    rw [if_neg this]
  | N + 1, N' + 1, f, hb, h1, h2 => by
    show (if f.b < s.many then fillN s h N (fstep s h f) else f) = if f.b < s.many then fillN s h N' (fstep s h f) else f
    by_cases hlt : f.b < s.many
    · rw [if_pos hlt, if_pos hlt]
      obtain ⟨a, b, _⟩ := fstep_b o hh hlt
      exact fillN_fuel o hh N N' _ b (by omega) (by omega)
    · rw [if_neg hlt, if_neg hlt]
theorem fillN_end {s : Scn} (o : Sok s) {h : Int} (hh : 1 ≤ h) : ∀ (N : Nat) (f : Fs), f.b ≤ s.many → (s.many - f.b).toNat ≤ N → (fillN s h N f).b = s.many
  | 0, f, hb, h1 => by show f.b = s.many; omega
  | N + 1, f, hb, h1 => by
    show (if f.b < s.many then fillN s h N (fstep s h f) else f).b = s.many
    by_cases hlt : f.b < s.many
    · rw [if_pos hlt]
      obtain ⟨a, b, _⟩ := fstep_b o hh hlt
      exact fillN_end o hh N _ b (by omega)
    · rw [if_neg hlt]
      omega
theorem fill_end {s : Scn} (o : Sok s) {h : Int} (hh : 1 ≤ h) : (fillOf s h).b = s.many := fillN_end o hh _ _ o.m0 (by simp)
/-! ### two settings -/
/-- the places lie where they may -/
structure Spos (s : Scn) : Prop where
  f : ∀ p ∈ s.free, 1 ≤ p ∧ p ≤ s.many
  st : ∀ p ∈ s.stops, 1 ≤ p
  m : 1 ≤ s.many
theorem spos {d : List Pt} (v : Vd d) (r : Int × Int) (w : Int) : Spos (scene d r w) := by
  have p1 := rows_pos v w
  have k := cok v w
  have h1 := k.rows
  have hm : (scene d r w).many = (counts d w).sum := rfl
  refine ⟨fun p hp => ?_, fun p hp => ?_, by omega⟩
  · have := places_le (show p ∈ places d r (counts d w) (rowsFrom 0 (counts d w)) true _ from hp)
    omega
  · rcases List.mem_append.mp (show p ∈ forcedsOf d r (counts d w) ++ [(counts d w).sum] from hp) with h | h
    · exact (places_le (show p ∈ places d r (counts d w) (rowsFrom 0 (counts d w)) false _ from h)).1
    · have : p = (counts d w).sum := by simpa using h
      omega
theorem sok_cat {s t : Scn} (a : Sok s) (b : Sok t) (p : Spos s) (q : Spos t) (hm : s.many + t.many ≤ 104) (hf : s.free.length + t.free.length ≤ 104) (hs : s.stops.length + t.stops.length ≤ 105) : Sok (catS s t) where
  m0 := by have := a.m0; have := b.m0; show 0 ≤ s.many + t.many; omega
  m1 := hm
  fl := by show (s.free ++ t.free.map _).length ≤ 104; rw [List.length_append, List.length_map]; exact hf
  sl := by show (s.stops ++ t.stops.map _).length ≤ 105; rw [List.length_append, List.length_map]; exact hs
  last := by
    show s.many + t.many ∈ s.stops ++ t.stops.map (· + s.many)
    exact List.mem_append_right _ (List.mem_map.mpr ⟨t.many, b.last, by omega⟩)
  le := fun x hx => by
    show x ≤ s.many + t.many
    rcases List.mem_append.mp (show x ∈ s.stops ++ t.stops.map (· + s.many) from hx) with h | h
    · have := a.le x h
      have := b.m0
      omega
    · obtain ⟨y, hy, rfl⟩ := List.mem_map.mp h
      have := b.le y hy
      omega
section
variable {s t : Scn} (a : Sok s) (b : Sok t) (p : Spos s) (q : Spos t) {h : Int} (hh : 1 ≤ h)
include a b p q
theorem stop_first {x : Int} (hx : x < s.many) : stopOf (catS s t) x = stopOf s x := by
  obtain ⟨h1, h2, h3⟩ := stop_gt a hx
  refine minI_is (List.mem_filter.mpr ⟨List.mem_append_left _ h3, decide_eq_true h1⟩) fun y hy => ?_
  obtain ⟨m1, m2⟩ := List.mem_filter.mp hy
  rcases List.mem_append.mp (show y ∈ s.stops ++ t.stops.map (· + s.many) from m1) with h | h
  · exact minI_le _ _ (List.mem_filter.mpr ⟨h, m2⟩)
  · obtain ⟨z, hz, rfl⟩ := List.mem_map.mp h
    have := q.st z hz
    omega
theorem good_first {x : Int} (hx : x < s.many) (hs : h < stopOf s x - x) : goodOf (catS s t) h x = goodOf s h x := by
  obtain ⟨h1, h2, h3⟩ := stop_gt a hx
  unfold goodOf
  show (s.free ++ t.free.map (· + s.many)).filter _ = _
  rw [List.filter_append]
  have : (t.free.map (· + s.many)).filter (fun p => decide (x < p) && decide (p ≤ x + h)) = [] := by
    rw [List.filter_eq_nil_iff]
    intro y hy z
    obtain ⟨u, hu, rfl⟩ := List.mem_map.mp hy
    rw [Bool.and_eq_true, decide_eq_true_eq, decide_eq_true_eq] at z
    have := q.f u hu
    omega
  rw [this, List.append_nil]
theorem step_first {f : Fs} (hx : f.b < s.many) : fstep (catS s t) h f = fstep s h f := by
  unfold fstep
  rw [stop_first a b p q hx]
  by_cases hs : h < stopOf s f.b - f.b
  · rw [if_pos hs, if_pos hs, good_first a b p q hx hs]
  · rw [if_neg hs, if_neg hs]
def shiftF (f : Fs) (m : Int) (g : Fs) : Fs := ⟨f.ends ++ g.ends.map (· + m), f.broken ++ g.broken.map (· + (f.ends.length : Int)), g.b + m⟩
theorem filter_behind {l l' : List Int} {m : Int} {P : Int → Bool} {Q : Int → Bool} (h1 : ∀ x ∈ l, P x = false) (h2 : ∀ x ∈ l', P (x + m) = Q x) : (l ++ l'.map (· + m)).filter P = (l'.filter Q).map (· + m) := by
  rw [List.filter_append, List.filter_eq_nil_iff.mpr (fun x hx => by rw [h1 x hx]; simp), List.nil_append, List.filter_map]
  congr 1
  exact List.filter_congr fun x hx => h2 x hx
omit a b p q in
theorem minI_map {l : List Int} (hl : l ≠ []) (m : Int) : minI (l.map (· + m)) = minI l + m := by
  refine minI_is (List.mem_map.mpr ⟨minI l, minI_mem l hl, rfl⟩) fun x hx => ?_
  obtain ⟨y, hy, rfl⟩ := List.mem_map.mp hx
  have := minI_le l y hy
  omega
omit a b p q in
theorem maxI_map {l : List Int} (hl : l ≠ []) (m : Int) : maxI (l.map (· + m)) = maxI l + m := by
  refine maxI_is (List.mem_map.mpr ⟨maxI l, maxI_mem l hl, rfl⟩) fun x hx => ?_
  obtain ⟨y, hy, rfl⟩ := List.mem_map.mp hx
  have := maxI_ge l y hy
  omega
theorem step_second {f g : Fs} (h0 : 0 ≤ g.b) (hx : g.b < t.many) : fstep (catS s t) h (shiftF f s.many g) = shiftF f s.many (fstep t h g) := by
  have st : stopOf (catS s t) (g.b + s.many) = stopOf t g.b + s.many := by
    unfold stopOf
    rw [show (catS s t).stops = s.stops ++ t.stops.map (· + s.many) from rfl, filter_behind a b p q (Q := fun y => decide (g.b < y)) (fun y hy => decide_eq_false (by have := a.le y hy; omega)) (fun y hy => by simp only [decide_eq_decide]; omega)]
    exact minI_map (stop_ne b hx) _
  have gd : goodOf (catS s t) h (g.b + s.many) = (goodOf t h g.b).map (· + s.many) := by
    unfold goodOf
    rw [show (catS s t).free = s.free ++ t.free.map (· + s.many) from rfl]
    refine filter_behind a b p q (fun y hy => ?_) (fun y hy => ?_)
    · have := (p.f y hy).2
      rw [Bool.and_eq_false_iff]
      exact .inl (decide_eq_false (by omega))
    · have e1 : decide (g.b + s.many < y + s.many) = decide (g.b < y) := by simp only [decide_eq_decide]; omega
      have e2 : decide (y + s.many ≤ g.b + s.many + h) = decide (y ≤ g.b + h) := by simp only [decide_eq_decide]; omega
      rw [e1, e2]
  have key : ∀ x, (shiftF f s.many g).ends ++ [x + s.many] = f.ends ++ (g.ends ++ [x]).map (· + s.many) := fun x => by
    show (f.ends ++ g.ends.map (· + s.many)) ++ [x + s.many] = _
    rw [List.map_append, List.append_assoc]
    rfl
  have kb : (shiftF f s.many g).broken ++ [((shiftF f s.many g).ends.length : Int)] = f.broken ++ (g.broken ++ [(g.ends.length : Int)]).map (· + (f.ends.length : Int)) := by
    show (f.broken ++ g.broken.map (· + (f.ends.length : Int))) ++ [((f.ends ++ g.ends.map (· + s.many)).length : Int)] = _
    rw [List.map_append, List.append_assoc, List.length_append, List.length_map]
    congr 2
    simp only [List.map_cons, List.map_nil]
    congr 1
    omega
  unfold fstep
  rw [show (shiftF f s.many g).b = g.b + s.many from rfl, st, gd]
  by_cases hs : h < stopOf t g.b - g.b
  · rw [if_pos hs, if_pos (by omega)]
    by_cases hg : goodOf t h g.b = []
    · rw [if_pos hg, if_pos (by rw [hg]; rfl), show g.b + s.many + h = (g.b + h) + s.many by omega, key, kb]
      rfl
    · rw [if_neg hg, if_neg (by simpa using hg), maxI_map hg, key]
      rfl
  · rw [if_neg hs, if_neg (by omega), key]
    rfl
include hh
theorem fill_second {f : Fs} : ∀ (n : Nat) (g : Fs), 0 ≤ g.b → fillN (catS s t) h n (shiftF f s.many g) = shiftF f s.many (fillN t h n g)
  | 0, g, _ => rfl
  | n + 1, g, h0 => by
    show (if g.b + s.many < s.many + t.many then fillN (catS s t) h n (fstep (catS s t) h (shiftF f s.many g)) else shiftF f s.many g) = shiftF f s.many (if g.b < t.many then fillN t h n (fstep t h g) else g)
    by_cases hx : g.b < t.many
    · rw [if_pos hx, if_pos (by omega), step_second a b p q h0 hx]
      have := fstep_b b hh hx
      exact fill_second n _ (by omega)
    · rw [if_neg hx, if_neg (by omega)]
theorem fill_first (o : Sok (catS s t)) : ∀ (n : Nat) (f : Fs) (N : Nat), f.b ≤ s.many → (s.many - f.b).toNat ≤ n → (s.many + t.many - f.b).toNat ≤ N → fillN (catS s t) h N f = fillN (catS s t) h t.many.toNat (fillN s h n f)
  | 0, f, N, hb, hn, hN => by
    have t0 := b.m0
    show _ = fillN (catS s t) h t.many.toNat f
    refine fillN_fuel o hh _ _ f ?_ hN ?_
    · show f.b ≤ s.many + t.many
      omega
    · show (s.many + t.many - f.b).toNat ≤ t.many.toNat
      omega
  | n + 1, f, N, hb, hn, hN => by
    have t0 := b.m0
    by_cases hx : f.b < s.many
    · obtain ⟨b1, b2, _⟩ := fstep_b a hh hx
      cases N with
      | zero => omega
      | succ N =>
        show (if f.b < s.many + t.many then fillN (catS s t) h N (fstep (catS s t) h f) else f) = fillN (catS s t) h t.many.toNat (if f.b < s.many then fillN s h n (fstep s h f) else f)
        rw [if_pos (by omega), if_pos hx, step_first a b p q hx]
        exact fill_first o n _ N b2 (by omega) (by omega)
    · show _ = fillN (catS s t) h t.many.toNat (if f.b < s.many then fillN s h n (fstep s h f) else f)
      rw [if_neg hx]
      refine fillN_fuel o hh _ _ f ?_ hN ?_
      · show f.b ≤ s.many + t.many
        omega
      · show (s.many + t.many - f.b).toNat ≤ t.many.toNat
        omega
theorem fill_cat (o : Sok (catS s t)) : fillOf (catS s t) h = shiftF (fillOf s h) s.many (fillOf t h) := by
  have m0 := a.m0
  have t0 := b.m0
  show fillN (catS s t) h (s.many + t.many).toNat ⟨[], [], 0⟩ = _
  rw [fill_first a b p q hh o s.many.toNat ⟨[], [], 0⟩ _ m0 (by simp) (by simp)]
  have e : fillN s h s.many.toNat ⟨[], [], 0⟩ = shiftF (fillOf s h) s.many ⟨[], [], 0⟩ := by
    show fillOf s h = _
    have := fill_end a hh
    unfold shiftF
    simp only [List.map_nil, List.append_nil, Int.zero_add]
    rw [← this]
  rw [e, fill_second a b p q hh t.many.toNat _ (Int.le_refl _)]
  rfl
end
/-! ### sheets, first rows -/
def sheetsFrom : Int → List Int → List Int
  | _, [] => []
  | a, x :: xs => (x - a) :: sheetsFrom x xs
theorem sheets_from : ∀ (a : Int) (es : List Int), ((a :: es).zip es).map (fun p => p.2 - p.1) = sheetsFrom a es
  | _, [] => rfl
  | a, x :: xs => by
    show (x - a) :: ((x :: xs).zip xs).map (fun p => p.2 - p.1) = _
    rw [sheets_from x xs]
    rfl
theorem sheetsFrom_append : ∀ (a : Int) (xs ys : List Int), sheetsFrom a (xs ++ ys) = sheetsFrom a xs ++ sheetsFrom (xs.getLast?.getD a) ys
  | a, [], ys => rfl
  | a, x :: xs, ys => by
    show (x - a) :: sheetsFrom x (xs ++ ys) = ((x - a) :: sheetsFrom x xs) ++ _
    rw [sheetsFrom_append x xs ys, List.getLast?_cons]
    rfl
theorem sheetsFrom_map (m : Int) : ∀ (a : Int) (ys : List Int), sheetsFrom (a + m) (ys.map (· + m)) = sheetsFrom a ys
  | _, [] => rfl
  | a, y :: ys => by
    show (y + m - (a + m)) :: sheetsFrom (y + m) (ys.map (· + m)) = (y - a) :: sheetsFrom y ys
    rw [sheetsFrom_map m y ys]
    congr 1
    omega
theorem sheetsFrom_len : ∀ (a : Int) (es : List Int), (sheetsFrom a es).length = es.length
  | _, [] => rfl
  | a, x :: xs => congrArg (· + 1) (sheetsFrom_len x xs)
theorem ends_last {s : Scn} (a : Sok s) (p : Spos s) {h : Int} (hh : 1 ≤ h) : (fillOf s h).ends.getLast? = some s.many ∧ (fillOf s h).ends ≠ [] := by
  obtain ⟨fl, _⟩ := flast a hh
  have e := fill_end a hh
  have m := p.m
  have ne : (fillOf s h).ends ≠ [] := fun z => by have := fl.b0 z; omega
  exact ⟨by rw [fl.bl ne, e], ne⟩
theorem sheets_cat {s t : Scn} (a : Sok s) (b : Sok t) (p : Spos s) (q : Spos t) {h : Int} (hh : 1 ≤ h) (o : Sok (catS s t)) : sheetsOf (fillOf (catS s t) h).ends = sheetsOf (fillOf s h).ends ++ sheetsOf (fillOf t h).ends := by
  unfold sheetsOf
  rw [sheets_from, sheets_from, sheets_from, fill_cat a b p q hh o]
  show sheetsFrom 0 ((fillOf s h).ends ++ (fillOf t h).ends.map (· + s.many)) = _
  rw [sheetsFrom_append, (ends_last a p hh).1]
  congr 1
  have := sheetsFrom_map s.many 0 (fillOf t h).ends
  rw [Int.zero_add] at this
  exact this
theorem firsts_cat {s t : Scn} (a : Sok s) (b : Sok t) (p : Spos s) (q : Spos t) {h : Int} (hh : 1 ≤ h) (o : Sok (catS s t)) : firstsOf (fillOf (catS s t) h).ends = firstsOf (fillOf s h).ends ++ (firstsOf (fillOf t h).ends).map (· + s.many) := by
  obtain ⟨l1, n1⟩ := ends_last a p hh
  obtain ⟨l2, n2⟩ := ends_last b q hh
  rw [fill_cat a b p q hh o]
  show 0 :: ((fillOf s h).ends ++ (fillOf t h).ends.map (· + s.many)).dropLast = (0 :: (fillOf s h).ends.dropLast) ++ (0 :: (fillOf t h).ends.dropLast).map (· + s.many)
  rw [List.dropLast_append_of_ne_nil (by simpa using n2)]
  have e : (fillOf s h).ends = (fillOf s h).ends.dropLast ++ [s.many] := by
    have h1 := List.dropLast_concat_getLast n1
    rw [List.getLast?_eq_getLast n1] at l1
    rw [Option.some.inj l1] at h1
    exact h1.symm
  rw [List.map_cons, Int.zero_add, ← List.map_dropLast]
  conv => lhs; rw [e]
  simp
end MA

set_option maxHeartbeats 4000000
/-! M15: the rest of what k10 asks: first rows, great widths and heights, breaks at both ends, whole heights with a block ahead. -/
namespace MA
open PySem PySem.Spec PyProof.Rows L2 DL PK
theorem vd_both {d e : List Pt} (v : Vd d) (v' : Vd e) (h : d.length + e.length ≤ 7) : Vd (d ++ [.brk] ++ e) where
  l1 := by simp; omega
  l8 := by simp; omega
  ok := fun p hp => by
    rcases List.mem_append.mp hp with h | h
    · rcases List.mem_append.mp h with h | h
      · exact v.ok p h
      · have : p = .brk := by simpa using h
        rw [this]; trivial
    · exact v'.ok p h
  nb := by
    obtain ⟨p, hp, hb⟩ := v.nb
    exact ⟨p, List.mem_append_left _ (List.mem_append_left _ hp), hb⟩
theorem vd_ends {d : List Pt} (v : Vd d) (h : d.length ≤ 6) : Vd ([.brk] ++ d ++ [.brk]) where
  l1 := by simp
  l8 := by simp; omega
  ok := fun p hp => by
    have : p = .brk ∨ p ∈ d := by
      simp at hp
      rcases hp with h | h | h
      · exact .inl h
      · exact .inr h
      · exact .inl h
    rcases this with rfl | h
    · trivial
    · exact v.ok p h
  nb := by
    obtain ⟨p, hp, hb⟩ := v.nb
    exact ⟨p, by simp [hp], hb⟩
theorem vd_block {d : List Pt} (v : Vd d) (h : d.length ≤ 7) : Vd ([.blk 9 false] ++ d) where
  l1 := by simp
  l8 := by simp; omega
  ok := fun p hp => by
    rcases List.mem_append.mp hp with h | h
    · have : p = .blk 9 false := by simpa using h
      rw [this]
      exact ⟨by decide, by decide⟩
    · exact v.ok p h
  nb := ⟨.blk 9 false, by simp, rfl⟩
/-- first rows of both -/
def rowAt (d : List Pt) (w : Int) (b : Int) : Int × Int := ((rowsFrom 0 (counts d w))[b.toNat]?).getD (0, 0)
theorem begins_both {d e : List Pt} (v : Vd d) (v' : Vd e) (r : Int × Int) (w : Int) {h : Int} (hh : 1 ≤ h) (o : Sok (scene (d ++ [.brk] ++ e) r w)) :
    (firstsOf (fillOf (scene (d ++ [.brk] ++ e) r w) h).ends).map (rowAt (d ++ [.brk] ++ e) w) = (firstsOf (fillOf (scene d r w) h).ends).map (rowAt d w) ++ ((firstsOf (fillOf (scene e r w) h).ends).map (rowAt e w)).map (shiftQ (d.length + 1)) := by
  have sb := scene_both v v' r w
  rw [sb] at o ⊢
  rw [firsts_cat (sok (r := r) v w) (sok (r := r) v' w) (spos v r w) (spos v' r w) hh o, List.map_append, List.map_map, List.map_map]
  have k1 := cok v w
  have k2 := cok v' w
  have h1 := k1.rows
  have h2 := k2.rows
  have hR : rowsFrom 0 (counts (d ++ [.brk] ++ e) w) = rowsFrom 0 (counts d w) ++ (rowsFrom 0 (counts e w)).map (shiftQ (d.length + 1)) := by
    have hc : counts (d ++ [.brk] ++ e) w = counts d w ++ [0] ++ counts e w := by rw [counts_append, counts_append]; rfl
    rw [hc, rowsFrom_append, rowsFrom_append, brk_rows, List.append_nil]
    congr 1
    have hl : (counts d w ++ [0]).length = d.length + 1 := by
      have := counts_len d w
      simp
      omega
    rw [hl, rowsFrom_shift]
  have m1 : (scene d r w).many = (counts d w).sum := rfl
  have m2 : (scene e r w).many = (counts e w).sum := rfl
  have p1 := (spos v r w).m
  have p2 := (spos v' r w).m
  have f1 : ∀ x ∈ firstsOf (fillOf (scene d r w) h).ends, 0 ≤ x ∧ x < (counts d w).sum := fun x hx => by
    rcases List.mem_cons.mp hx with rfl | hx
    · omega
    · have := (flast (sok (r := r) v w) hh).1.lt x hx
      omega
  have f2 : ∀ x ∈ firstsOf (fillOf (scene e r w) h).ends, 0 ≤ x ∧ x < (counts e w).sum := fun x hx => by
    rcases List.mem_cons.mp hx with rfl | hx
    · omega
    · have := (flast (sok (r := r) v' w) hh).1.lt x hx
      omega
  congr 1
  · refine List.map_congr_left fun x hx => ?_
    have := f1 x hx
    unfold rowAt
    rw [hR, List.getElem?_append_left (by omega)]
  · refine List.map_congr_left fun x hx => ?_
    have := f2 x hx
    simp only [Function.comp]
    unfold rowAt
    rw [hR, List.getElem?_append_right (by omega), show (x + (scene d r w).many).toNat - (rowsFrom 0 (counts d w)).length = x.toNat by omega, List.getElem?_map, List.getElem?_eq_getElem (show x.toNat < (rowsFrom 0 (counts e w)).length by omega)]
    rfl
/-! ### great widths, great heights -/
theorem foldl_wide (w : Int) : ∀ (ws : List Int) (n u : Int), (∀ x ∈ ws, 1 ≤ x) → 1 ≤ u → u + ws.sum + (ws.length : Int) ≤ w → (ws.foldl (rowStep w) (n, u)).1 = n
  | [], n, u, _, _, _ => rfl
  | x :: ws, n, u, h, hu, hw => by
    have hx := h x List.mem_cons_self
    have s0 : 0 ≤ ws.sum := by
      clear hw
      have : ∀ l : List Int, (∀ y ∈ l, 1 ≤ y) → 0 ≤ l.sum := by
        intro l
        induction l with
        | nil => intro _; simp
        | cons y l ih =>
          intro hy
          rw [List.sum_cons]
          have := hy y List.mem_cons_self
          have := ih fun z hz => hy z (List.mem_cons_of_mem _ hz)
          omega
      exact this ws fun z hz => h z (List.mem_cons_of_mem _ hz)
    rw [List.sum_cons, List.length_cons] at hw
    have e : rowStep w (n, u) x = (n, u + 1 + x) := by
      unfold rowStep
      rw [if_neg (by simp only; omega), if_pos (by simp only; omega)]
    rw [List.foldl_cons, e]
    exact foldl_wide w ws n (u + 1 + x) (fun z hz => h z (List.mem_cons_of_mem _ hz)) (by omega) (by omega)
theorem rowCount_wide {d : List Pt} (v : Vd d) {w w' : Int} (h : widest d ≤ w) (h' : widest d ≤ w') {p : Pt} (hp : p ∈ d) : rowCount w p = rowCount w' p := by
  cases p with
  | brk => rfl
  | blk n nx => rfl
  | txt ws nx wh =>
    obtain ⟨l1, l2, hx⟩ := v.ok _ hp
    have hw : wideOf ws ≤ widest d := maxI_ge _ _ (List.mem_cons_of_mem _ (List.mem_map.mpr ⟨ws, List.mem_filterMap.mpr ⟨_, hp, rfl⟩, rfl⟩))
    have key : ∀ w : Int, widest d ≤ w → (ws.foldl (rowStep w) (1, 0)).1 = 1 := by
      intro w hw2
      cases ws with
      | nil => simp at l1
      | cons x ws =>
        have e : rowStep w (1, 0) x = (1, x) := rfl
        rw [List.foldl_cons, e]
        refine foldl_wide w ws 1 x (fun z hz => (hx z (List.mem_cons_of_mem _ hz)).1) (hx x List.mem_cons_self).1 ?_
        unfold wideOf at hw
        rw [List.sum_cons, List.length_cons] at hw
        omega
    show (ws.foldl (rowStep w) (1, 0)).1 = (ws.foldl (rowStep w') (1, 0)).1
    rw [key w h, key w' h']
theorem counts_wide {d : List Pt} (v : Vd d) {w w' : Int} (h : widest d ≤ w) (h' : widest d ≤ w') : counts d w = counts d w' := List.map_congr_left fun p hp => rowCount_wide v h h' hp
theorem scene_wide {d : List Pt} (v : Vd d) (r : Int × Int) {w w' : Int} (h : widest d ≤ w) (h' : widest d ≤ w') : scene d r w = scene d r w' := by
  unfold scene
  rw [counts_wide v h h']
theorem fillN_tall {s : Scn} (o : Sok s) {h h' : Int} (hh : 1 ≤ h) (h1 : s.many ≤ h) (h2 : s.many ≤ h') : ∀ (n : Nat) (f : Fs), 0 ≤ f.b → fillN s h n f = fillN s h' n f
  | 0, f, _ => rfl
  | n + 1, f, h0 => by
    show (if f.b < s.many then fillN s h n (fstep s h f) else f) = if f.b < s.many then fillN s h' n (fstep s h' f) else f
    by_cases hx : f.b < s.many
    · have sg := stop_gt o hx
      have e : fstep s h f = fstep s h' f := by
        unfold fstep
        rw [if_neg (by omega), if_neg (by omega)]
      have := (fstep_b o hh hx).1
      rw [if_pos hx, if_pos hx, e]
      exact fillN_tall o hh h1 h2 n _ (by rw [← e]; omega)
    · rw [if_neg hx, if_neg hx]
theorem fill_tall {s : Scn} (o : Sok s) {h h' : Int} (hh : 1 ≤ h) (h1 : s.many ≤ h) (h2 : s.many ≤ h') : fillOf s h = fillOf s h' := fillN_tall o hh h1 h2 _ _ (Int.le_refl _)
/-! ### breaks at both ends -/
theorem least_ends (d : List Pt) : least ([.brk] ++ d ++ [.brk]) = least d := by
  have hw : wordsIn ([.brk] ++ d ++ [.brk]) = wordsIn d := by
    unfold wordsIn
    rw [List.filterMap_append, List.filterMap_append]
    have : ([Pt.brk] : List Pt).filterMap Pt.ws = [] := rfl
    rw [this, List.nil_append, List.append_nil]
  unfold least
  rw [hw]
theorem scene_ends {d : List Pt} (v : Vd d) (r : Int × Int) (w : Int) : scene ([.brk] ++ d ++ [.brk]) r w = scene d r w := by
  have hc : counts ([.brk] ++ d ++ [.brk]) w = [0] ++ counts d w ++ [0] := by rw [counts_append, counts_append]; rfl
  have hR : rowsFrom 0 ([0] ++ counts d w ++ [0]) = (rowsFrom 0 (counts d w)).map (shiftQ 1) := by
    rw [rowsFrom_append, rowsFrom_append, brk_rows, brk_rows, List.append_nil, List.nil_append]
    exact rowsFrom_shift 0 1 (counts d w)
  have pl : ∀ k, places ([.brk] ++ d ++ [.brk]) r ([0] ++ counts d w ++ [0]) (rowsFrom 0 ([0] ++ counts d w ++ [0])) k ((rowsFrom 0 ([0] ++ counts d w ++ [0])).length - 1) = places d r (counts d w) (rowsFrom 0 (counts d w)) k ((rowsFrom 0 (counts d w)).length - 1) := by
    intro k
    rw [show (rowsFrom 0 ([0] ++ counts d w ++ [0])).length = (rowsFrom 0 (counts d w)).length by rw [hR, List.length_map]]
    refine places_congr fun i hi => ?_
    have := place_mid (pre := [.brk]) (d := d) (post := [.brk]) (cpre := [0]) (c := counts d w) (cpost := [0]) r rfl (counts_len d w) (P := []) (S := []) k (i := i) (by omega)
    rw [hR]
    simpa using this
  unfold scene freesOf forcedsOf
  rw [hc, pl true, pl false]
  simp
/-! ### whole heights -/
theorem whole_le {s : Scn} {k : Int} (hk : 1 ≤ k) (hb : (fillOf s k).broken ≠ []) : ∀ (n : Nat) (h : Int), k < h → k + 1 ≤ wholeN s n h
  | 0, h, hh => by show k + 1 ≤ h; omega
  | n + 1, h, hh => by
    show k + 1 ≤ if 1 < h ∧ (fillOf s (h - 1)).broken = [] then wholeN s n (h - 1) else h
    by_cases hc : 1 < h ∧ (fillOf s (h - 1)).broken = []
    · rw [if_pos hc]
      have : k ≠ h - 1 := fun z => hb (by rw [z]; exact hc.2)
      exact whole_le hk hb n (h - 1) (by omega)
    · rw [if_neg hc]
      omega
theorem whole_is {s : Scn} : ∀ (n : Nat) (h : Int), 1 ≤ h → h.toNat ≤ n → wholeN s n h ≤ h ∧ 1 ≤ wholeN s n h ∧ (wholeN s n h = 1 ∨ (fillOf s (wholeN s n h - 1)).broken ≠ [])
  | 0, h, h1, hn => by omega
  | n + 1, h, h1, hn => by
    show (if 1 < h ∧ (fillOf s (h - 1)).broken = [] then wholeN s n (h - 1) else h) ≤ h ∧ _
    by_cases hc : 1 < h ∧ (fillOf s (h - 1)).broken = []
    · have e : wholeN s (n + 1) h = wholeN s n (h - 1) := if_pos hc
      rw [if_pos hc, e]
      obtain ⟨a, b, c⟩ := whole_is (s := s) n (h - 1) (by omega) (by omega)
      exact ⟨by omega, b, c⟩
    · have e : wholeN s (n + 1) h = h := if_neg hc
      rw [if_neg hc, e]
      refine ⟨Int.le_refl _, h1, ?_⟩
      by_cases hh : 1 < h
      · exact .inr fun z => hc ⟨hh, z⟩
      · exact .inl (by omega)
/-- a gap greater than h: no place lies in it -/
def Gap (s : Scn) (h p : Int) : Prop := 0 ≤ p ∧ p < s.many ∧ (∀ q ∈ s.free, ¬ (p < q ∧ q ≤ p + h)) ∧ ∀ q ∈ s.stops, ¬ (p < q ∧ q ≤ p + h)
theorem gap_of {s : Scn} (o : Sok s) {h : Int} (hh : 1 ≤ h) (hb : (fillOf s h).broken ≠ []) : ∃ p, Gap s h p := by
  have key : (fun f : Fs => (0 ≤ f.b ∧ f.broken = []) ∨ ∃ p, Gap s h p) (fillOf s h) := by
    refine fillN_inv (fun f : Fs => (0 ≤ f.b ∧ f.broken = []) ∨ ∃ p, Gap s h p) (fun f hf hlt => ?_) _ _ (.inl ⟨Int.le_refl _, rfl⟩)
    rcases hf with ⟨h0, h1⟩ | hf
    · obtain ⟨sg1, sg2, sg3⟩ := stop_gt o hlt
      have fb := (fstep_b o hh hlt).1
      unfold fstep at fb ⊢
      by_cases hc : h < stopOf s f.b - f.b
      · rw [if_pos hc] at fb ⊢
        by_cases hg : goodOf s h f.b = []
        · refine .inr ⟨f.b, h0, hlt, fun q hq z => ?_, fun q hq z => ?_⟩
          · have : q ∈ goodOf s h f.b := List.mem_filter.mpr ⟨hq, by simp [z.1, z.2]⟩
            rw [hg] at this
            cases this
          · have := minI_le (s.stops.filter fun p => decide (f.b < p)) q (List.mem_filter.mpr ⟨hq, decide_eq_true z.1⟩)
            have : stopOf s f.b ≤ q := this
            omega
        · rw [if_neg hg] at fb ⊢
          exact .inl ⟨by omega, h1⟩
      · rw [if_neg hc] at fb ⊢
        exact .inl ⟨by omega, h1⟩
    · exact .inr hf
  rcases key with ⟨_, h1⟩ | h1
  · exact absurd h1 hb
  · exact h1
theorem of_gap {s : Scn} (o : Sok s) {h p : Int} (hh : 1 ≤ h) (g : Gap s h p) : (fillOf s h).broken ≠ [] := by
  obtain ⟨g0, g1, g2, g3⟩ := g
  have key : (fun f : Fs => f.b ≤ p ∨ f.broken ≠ []) (fillOf s h) := by
    refine fillN_inv (fun f : Fs => f.b ≤ p ∨ f.broken ≠ []) (fun f hf hlt => ?_) _ _ (.inl g0)
    obtain ⟨sg1, sg2, sg3⟩ := stop_gt o hlt
    rcases hf with hf | hf
    · unfold fstep
      by_cases hc : h < stopOf s f.b - f.b
      · rw [if_pos hc]
        by_cases hg : goodOf s h f.b = []
        · rw [if_pos hg]
          exact .inr (by simp)
        · rw [if_neg hg]
          obtain ⟨a, b, c⟩ := good_mem hg
          refine .inl ?_
          show maxI (goodOf s h f.b) ≤ p
          have := g2 _ c
          omega
      · rw [if_neg hc]
        refine .inl ?_
        show stopOf s f.b ≤ p
        have := g3 _ sg3
        omega
    · unfold fstep
      split
      · split
        · exact .inr (by simp)
        · exact .inr hf
      · exact .inr hf
  rcases key with h1 | h1
  · have := fill_end o hh
    omega
  · exact h1
end MA

set_option maxHeartbeats 4000000
/-! N8: draws; kinds as lists of places. -/
namespace MA
open PySem PySem.Spec PyProof.Rows L2 DL PK
local macro_rules | `(tactic| array_mem_dec) => `(tactic| (simp only [List.set_cons_zero, List.set_cons_succ]; first | done | rfl))
local macro_rules | `(tactic| sizeOf_list_dec) => `(tactic| first | (with_reducible assumption) | exact rfl | assumption | exact Nat.le_of_ble_eq_true rfl | (rw [sz]; exact Nat.le_of_ble_eq_true rfl) | omega | (constructor <;> omega) | (refine ⟨⟨?_, ?_⟩, ?_, ?_⟩ <;> omega) | (refine ⟨⟨?_, ?_⟩, ⟨?_, ?_⟩, ?_⟩ <;> omega))
local macro_rules | `(tactic| array_get_dec) => `(tactic| first
  | ((with_reducible apply WE_var); exact rfl) | with_reducible refine WE_ret ?_ | ((with_reducible apply WS_hyp); (with_reducible assumption)) | with_reducible refine WS_seq ?_ | with_reducible refine WL_cons ?_ | with_reducible refine WL_nil ?_ | with_reducible refine WE_bin ?_
  | ((with_reducible apply OpK.mk); (with_reducible assumption)) | ((with_reducible apply OpK.mk); (simp only [eq_int, ne_int, allD_map, ix_kind, kind_break, kind_nbreak, kind_text, kind_block, isB_brk, isB_blk, isB_txt, isT_brk, isT_blk, isT_txt, isK_brk, isK_blk, isK_txt]; first | done | rfl)) | ((with_reducible apply OpK.mk); exact rfl) | ((with_reducible apply OpK.mk); (simp; rfl))
  | with_reducible refine WS_asg ?_ | with_reducible refine WG_name ?_ | with_reducible refine SetK.mk (by array_mem_dec) ?_
  | with_reducible refine WA_cons ?_ | with_reducible refine WA_nil ?_ | with_reducible refine callD_data1 ?_ | with_reducible refine ArK.a1 ?_ | with_reducible refine ArK.a2 ?_ | with_reducible refine ArK.a3 ?_ | with_reducible refine ArK.a4 ?_ | with_reducible refine ArK.a5 ?_ | with_reducible refine ArK.a0 ?_
  | ((with_reducible apply IsK.mk); (with_reducible assumption)) | ((with_reducible apply IsK.er); (with_reducible assumption))
  | with_reducible refine WS_if ?_ | with_reducible refine WB_tst ?_ | ((with_reducible apply BlK.mk); exact rfl) | with_reducible refine if_t rfl ?_ | with_reducible refine if_f rfl ?_ | with_reducible refine if_nt rfl ?_ | with_reducible refine if_nf rfl ?_ | ((with_reducible apply if_t); (with_reducible assumption)) | ((with_reducible apply if_f); (with_reducible assumption)) | ((with_reducible apply if_nt); (with_reducible assumption)) | ((with_reducible apply if_nf); (with_reducible assumption))
  | with_reducible refine WE_lst ?_ | with_reducible refine WE_tup ?_ | ((with_reducible refine And.intro ?_ ?_); (· sizeOf_list_dec)) | with_reducible refine WE_fun ?_ | with_reducible refine WS_ret ?_ | with_reducible refine WS_nx ?_
  | with_reducible refine WE_un ?_ | with_reducible refine WE_isi ?_ | with_reducible refine WE_and ?_ | with_reducible refine WE_or ?_ | with_reducible refine WE_not ?_ | with_reducible refine WE_if ?_ | with_reducible refine WE_mt1 ?_ | with_reducible refine WE_chain ?_ | with_reducible refine WE_sl ?_ | with_reducible refine WE_listRg ?_
  | with_reducible refine WO_no ?_ | with_reducible refine WO_some ?_ | ((with_reducible apply InK.mk); exact rfl) | ((with_reducible apply StK.mk); exact rfl) | ((with_reducible apply TuK.mk); exact rfl) | ((with_reducible apply LsK.mk); exact rfl) | ((with_reducible apply SqK.lst); exact rfl) | ((with_reducible apply SqK.tup); exact rfl)
  | with_reducible refine WB_yes ?_ | with_reducible refine WB_and ?_ | with_reducible refine WB_or ?_ | with_reducible refine WB_not ?_ | with_reducible refine WG_tup ?_ | with_reducible refine WG_lst ?_ | with_reducible refine WGs_nil ?_ | with_reducible refine WGs_cons ?_
  | with_reducible refine WS_drop ?_ | with_reducible refine WS_par ?_ | with_reducible refine WS_par3 ?_ | with_reducible refine WS_setF ?_ | with_reducible refine WS_raise ?_ | ((with_reducible apply WS_app); exact rfl) | ((with_reducible apply SlK.mk); exact rfl)
  | with_reducible refine WL_lst ?_ | with_reducible refine WL_cat ?_ | with_reducible refine WL_iterS ?_ | with_reducible refine WL_iterR1 ?_ | with_reducible refine WL_iterR2 ?_ | with_reducible refine WL_iterZ ?_ | with_reducible refine WL_iterE ?_
  | ((with_reducible apply WE_move); exact rfl; array_mem_dec) | ((with_reducible apply WL_move); exact rfl; array_mem_dec)
  | ((with_reducible apply WA_own); exact rfl) | with_reducible refine callD_bag1 ?_ | with_reducible refine callD_data0 ?_ | with_reducible refine ArB.a0 ?_ | with_reducible refine ArB.a1 ?_ | with_reducible refine ArB.a2 ?_ | with_reducible refine ArB.a3 ?_ | ((with_reducible apply BagK.mk); (with_reducible assumption))
  | with_reducible refine AppK.mk (by (try simp only [List.cons_append, List.nil_append]); first | done | rfl) ?_ | with_reducible refine WL_callN ?_ | ((with_reducible apply FrK.mk); (with_reducible assumption))
  | with_reducible refine WE_err (by simp only [DL.hide, List.map_cons, List.map_nil]; first | done | rfl) ?_
  | ((with_reducible apply P2K.mk); exact rfl) | ((with_reducible apply P3K.mk); exact rfl) | ((with_reducible apply I1K.mk); exact rfl) | ((with_reducible apply I2K.mk); exact rfl) | ((with_reducible apply ZiK.lst); exact rfl) | ((with_reducible apply ZiK.tup); exact rfl) | ((with_reducible apply E1K.mk); exact rfl) | ((with_reducible apply MoK.mk); exact rfl) | ((with_reducible apply Nat.le_of_ble_eq_true); exact rfl) | ((with_reducible apply Eq.symm); exact rfl) | (with_reducible refine fun (_ : _ = true) => ?_))
local macro_rules | `(tactic| clean_wf) => `(tactic| (refine is_wp rfl ?_; simp only [List.map_cons, List.map_nil, List.cons_append, List.nil_append, Nat.reduceSub, List.replicate]))
local macro_rules | `(tactic| simp_wf) => `(tactic| ((· (repeat array_get_dec)); (· exact rfl); (· (simp only [wipeR, List.set_cons_zero, List.set_cons_succ]; first | done | rfl)); (· (simp only [restR, List.set_cons_zero, List.set_cons_succ, List.getElem?_cons_zero, List.getElem?_cons_succ, Option.getD_some]; first | done | rfl))))
abbrev bagM (bs : List Int) : Mo := .lst (bs.map D.int)
theorem drawBag (ns : List Int) (k : Nat) : ∃ row : List Int, IsF f__law_bag [.scr ns, .int (k : Int)] (row.map D.int) := law_bag ns k
theorem drawTake (bs : List Int) {m : Int} (h : 0 < m) : IsB f__law_take (bagM bs) [.int m] (.int (takeV bs m)) (bagM bs.tail) := law_take bs h
theorem drawDoc (bs : List Int) {m : Int} (h1 : 1 ≤ m) (h8 : m ≤ 8) : ∃ (d : List Pt) (bs' : List Int), Vd d ∧ (d.length : Int) ≤ m ∧ IsB f__law_document (bagM bs) [.int m] (docD d) (bagM bs') := law_document bs h1 h8
theorem drawDocS (bs : List Int) {m : Int} (h1 : 1 ≤ m) (h8 : m ≤ 8) : ∃ (d : List Pt) (bs' : List Int), Vd d ∧ (∀ p ∈ d, p.sm) ∧ (d.length : Int) ≤ m ∧ IsB f__law_document (bagM bs) [.int m] (docD d) (bagM bs') := law_documentS bs h1 h8
theorem drawRules (bs : List Int) : ∃ (r : Int × Int) (bs' : List Int), Vr r ∧ IsB f__law_rules (bagM bs) [] (rulD r) (bagM bs') := law_rules bs
/-! ### lists that are equal -/
theorem encPr : Enc prI 2 := Enc.int.pair Enc.int
theorem ne_self {α : Type} [DecidableEq α] {e : α → D} {n : Nat} (h : Enc e n) (hn : n ≤ 64) (a : α) : neE (e a) (e a) = some (.bl false) := by
  rw [h.neE hn a a]
  simp
theorem ne_prs (l : List (Int × Int)) : neE (.lst (l.map prI)) (.lst (l.map prI)) = some (.bl false) := ne_self encPr.lst (by decide) l
theorem ne_intsS (l : List Int) : neE (.lst (l.map D.int)) (.lst (l.map D.int)) = some (.bl false) := ne_self Enc.int.lst (by decide) l
theorem pow9' : powD (.int 10) (.int 9) = some (.int 1000000000) := by kernel_rfl
/-! ### kinds -/
@[simp] theorem eq_free (k : Option Bool) : eqE (kD k) (.str sFree) = some (.bl (decide (k = some true))) := by
  rcases k with _ | _ | _ <;> kernel_rfl
@[simp] theorem eq_forced (k : Option Bool) : eqE (kD k) (.str sForced) = some (.bl (decide (k = some false))) := by
  rcases k with _ | _ | _ <;> kernel_rfl
theorem ne_forced (k : Option Bool) : neE (kD k) (.str sForced) = some (.bl (!decide (k = some false))) := by
  rcases k with _ | _ | _ <;> kernel_rfl
theorem kindsOf_len (d : List Pt) (r : Int × Int) (cs : List Int) : (kindsOf d r cs).length = (rowsFrom 0 cs).length - 1 + 2 := by
  unfold kindsOf
  simp
theorem kinds_at (d : List Pt) (r : Int × Int) (cs : List Int) (i : Nat) (h : i < (rowsFrom 0 cs).length - 1) : (kindsOf d r cs)[i + 1]? = some (kAt d r cs i) := by
  unfold kindsOf
  rw [List.getElem?_append_left (by simp; omega), List.getElem?_cons_succ, List.getElem?_map, List.getElem?_range h]
  rfl
theorem kinds_0 (d : List Pt) (r : Int × Int) (cs : List Int) : (kindsOf d r cs)[0]? = some (some false) := rfl
theorem kinds_end (d : List Pt) (r : Int × Int) (cs : List Int) : (kindsOf d r cs)[(rowsFrom 0 cs).length - 1 + 1]? = some (some false) := by
  unfold kindsOf
  rw [List.getElem?_append_right (by simp)]
  simp
theorem place_kAt (d : List Pt) (r : Int × Int) (cs : List Int) (k : Bool) (i : Nat) (h : i < (rowsFrom 0 cs).length - 1) : place d r cs (rowsFrom 0 cs) k i = decide (kAt d r cs i = some k) := by
  unfold place kAt
  rw [List.getElem?_eq_getElem (show i < (rowsFrom 0 cs).length by omega), List.getElem?_eq_getElem (show i + 1 < (rowsFrom 0 cs).length by omega)]
theorem range_ends (m : Nat) : List.range (m + 2) = 0 :: ((List.range m).map (· + 1) ++ [m + 1]) := by
  rw [show m + 2 = (m + 1) + 1 by omega, List.range_succ_eq_map, List.range_succ, List.map_append]
  rfl
theorem frees_ix (d : List Pt) (r : Int × Int) (cs : List Int) : ((List.range (kindsOf d r cs).length).filter fun i => decide ((kindsOf d r cs)[i]? = some (some true))).map (fun i : Nat => (i : Int)) = freesOf d r cs := by
  rw [kindsOf_len, range_ends, List.filter_cons_of_neg (by rw [kinds_0]; decide), List.filter_append, List.filter_cons_of_neg (by rw [kinds_end]; decide), List.filter_nil, List.append_nil]
  unfold freesOf places
  rw [List.filter_map, List.map_map]
  have e : (List.range ((rowsFrom 0 cs).length - 1)).filter ((fun i => decide ((kindsOf d r cs)[i]? = some (some true))) ∘ (· + 1)) = (List.range ((rowsFrom 0 cs).length - 1)).filter (place d r cs (rowsFrom 0 cs) true) := by
    refine List.filter_congr fun i hi => ?_
    have hi := List.mem_range.mp hi
    show decide ((kindsOf d r cs)[i + 1]? = some (some true)) = _
    rw [kinds_at d r cs i hi, place_kAt d r cs true i hi]
    simp
  rw [e]
  refine List.map_congr_left fun i _ => ?_
  show ((i + 1 : Nat) : Int) = _
  omega
theorem forceds_ix (d : List Pt) (r : Int × Int) (cs : List Int) : ((List.range ((rowsFrom 0 cs).length - 1)).filter fun i => decide ((kindsOf d r cs)[i + 1]? = some (some false))).map (fun i : Nat => (i : Int) + 1) = forcedsOf d r cs := by
  unfold forcedsOf places
  have e : (List.range ((rowsFrom 0 cs).length - 1)).filter (fun i => decide ((kindsOf d r cs)[i + 1]? = some (some false))) = (List.range ((rowsFrom 0 cs).length - 1)).filter (place d r cs (rowsFrom 0 cs) false) := by
    refine List.filter_congr fun i hi => ?_
    have hi := List.mem_range.mp hi
    rw [kinds_at d r cs i hi, place_kAt d r cs false i hi]
    simp
  rw [e]
theorem kindAt_forced (d : List Pt) (r q : Int × Int) (cs : List Int) (a b : Int × Int) : (kindAt d r cs a b = some false) ↔ (kindAt d q cs a b = some false) := by
  have key : ∀ (r q : Int × Int), kindAt d r cs a b = some false → kindAt d q cs a b = some false := fun r q h => by
    unfold kindAt at *
    split
    · rename_i e; rw [e] at h; exact h
    · rename_i p e
      rw [e] at h
      simp only at h
      by_cases h1 : a.1 = b.1
      · rw [if_pos h1] at h
        exfalso
        cases p <;> simp [insideK] at h
      · rw [if_neg h1] at h ⊢
        by_cases h2 : Pt.brk ∈ sliceP d (a.1.toNat + 1) b.1.toNat
        · rw [if_pos h2]
        · rw [if_neg h2] at h
          exfalso
          by_cases h3 : p.nx = true
          · rw [if_pos h3] at h; cases h
          · rw [if_neg h3] at h; cases h
  exact ⟨key r q, key q r⟩
theorem forced_rules (d : List Pt) (r q : Int × Int) (cs : List Int) : forcedsOf d r cs = forcedsOf d q cs := by
  unfold forcedsOf places
  congr 1
  refine List.filter_congr fun i hi => ?_
  unfold place
  split
  · rename_i a b _ _
    have h := kindAt_forced d r q cs a b
    by_cases h1 : kindAt d r cs a b = some false
    · rw [decide_eq_true h1, decide_eq_true (h.mp h1)]
    · rw [decide_eq_false h1, decide_eq_false fun z => h1 (h.mpr z)]
  · rfl
theorem cut2 (t : Int × Int × Int) : slD (triD t) none (some 2) = some (prI (t.1, t.2.1)) := rfl
theorem ix_kinds {d : List Pt} {r : Int × Int} {cs : List Int} {i : Nat} {k : Option Bool} (h : (kindsOf d r cs)[i]? = some k) : ixD (kindsD d r cs) (.int (i : Int)) = some (kD k) := atNat (by rw [List.getElem?_map, h]; rfl)
theorem len_kinds (d : List Pt) (r : Int × Int) (cs : List Int) : lenD [kindsD d r cs] = some (.int ((kindsOf d r cs).length : Nat)) := by
  show some (D.int (((kindsOf d r cs).map kD).length : Nat)) = _
  rw [List.length_map]
theorem len_rows (cs : List Int) : lenD [rowsD cs] = some (.int ((rowsFrom 0 cs).length : Nat)) := by
  show some (D.int (((r3 0 cs).map triD).length : Nat)) = _
  rw [List.length_map, r3_len]
end MA

set_option maxHeartbeats 4000000
/-! N19: which values are documents. -/
namespace MA
open PySem PySem.Spec PyProof.Rows L2 DL PK
local macro_rules | `(tactic| array_mem_dec) => `(tactic| (simp only [List.set_cons_zero, List.set_cons_succ]; first | done | rfl))
local macro_rules | `(tactic| sizeOf_list_dec) => `(tactic| first | (with_reducible assumption) | exact rfl | assumption | exact Nat.le_of_ble_eq_true rfl | (rw [sz]; exact Nat.le_of_ble_eq_true rfl) | omega | (constructor <;> omega) | (refine ⟨⟨?_, ?_⟩, ?_, ?_⟩ <;> omega) | (refine ⟨⟨?_, ?_⟩, ⟨?_, ?_⟩, ?_⟩ <;> omega))
local macro_rules | `(tactic| array_get_dec) => `(tactic| first
  | ((with_reducible apply WE_var); exact rfl) | with_reducible refine WE_ret ?_ | ((with_reducible apply WS_hyp); (with_reducible assumption)) | with_reducible refine WS_seq ?_ | with_reducible refine WL_cons ?_ | with_reducible refine WL_nil ?_ | with_reducible refine WE_bin ?_
  | ((with_reducible apply OpK.mk); (with_reducible assumption)) | ((with_reducible apply OpK.mk); (simp only [eq_int, ne_int, allD_map, ix_kind, kind_break, kind_nbreak, kind_text, kind_block, isB_brk, isB_blk, isB_txt, isT_brk, isT_blk, isT_txt, isK_brk, isK_blk, isK_txt]; first | done | rfl)) | ((with_reducible apply OpK.mk); exact rfl) | ((with_reducible apply OpK.mk); (simp; rfl))
  | with_reducible refine WS_asg ?_ | with_reducible refine WG_name ?_ | with_reducible refine SetK.mk (by array_mem_dec) ?_
  | with_reducible refine WA_cons ?_ | with_reducible refine WA_nil ?_ | with_reducible refine callD_data1 ?_ | with_reducible refine ArK.a1 ?_ | with_reducible refine ArK.a2 ?_ | with_reducible refine ArK.a3 ?_ | with_reducible refine ArK.a4 ?_ | with_reducible refine ArK.a5 ?_ | with_reducible refine ArK.a0 ?_
  | ((with_reducible apply IsK.mk); (with_reducible assumption)) | ((with_reducible apply IsK.er); (with_reducible assumption))
  | with_reducible refine WS_if ?_ | with_reducible refine WB_tst ?_ | ((with_reducible apply BlK.mk); exact rfl) | with_reducible refine if_t rfl ?_ | with_reducible refine if_f rfl ?_ | with_reducible refine if_nt rfl ?_ | with_reducible refine if_nf rfl ?_ | ((with_reducible apply if_t); (with_reducible assumption)) | ((with_reducible apply if_f); (with_reducible assumption)) | ((with_reducible apply if_nt); (with_reducible assumption)) | ((with_reducible apply if_nf); (with_reducible assumption))
  | with_reducible refine WE_lst ?_ | with_reducible refine WE_tup ?_ | ((with_reducible refine And.intro ?_ ?_); (· sizeOf_list_dec)) | with_reducible refine WE_fun ?_ | with_reducible refine WS_ret ?_ | with_reducible refine WS_nx ?_
  | with_reducible refine WE_un ?_ | with_reducible refine WE_isi ?_ | with_reducible refine WE_and ?_ | with_reducible refine WE_or ?_ | with_reducible refine WE_not ?_ | with_reducible refine WE_if ?_ | with_reducible refine WE_mt1 ?_ | with_reducible refine WE_chain ?_ | with_reducible refine WE_sl ?_ | with_reducible refine WE_listRg ?_
  | with_reducible refine WO_no ?_ | with_reducible refine WO_some ?_ | ((with_reducible apply InK.mk); exact rfl) | ((with_reducible apply StK.mk); exact rfl) | ((with_reducible apply TuK.mk); exact rfl) | ((with_reducible apply LsK.mk); exact rfl) | ((with_reducible apply SqK.lst); exact rfl) | ((with_reducible apply SqK.tup); exact rfl)
  | with_reducible refine WB_yes ?_ | with_reducible refine WB_and ?_ | with_reducible refine WB_or ?_ | with_reducible refine WB_not ?_ | with_reducible refine WG_tup ?_ | with_reducible refine WG_lst ?_ | with_reducible refine WGs_nil ?_ | with_reducible refine WGs_cons ?_
  | with_reducible refine WS_drop ?_ | with_reducible refine WS_par ?_ | with_reducible refine WS_par3 ?_ | with_reducible refine WS_setF ?_ | with_reducible refine WS_raise ?_ | ((with_reducible apply WS_app); exact rfl) | ((with_reducible apply SlK.mk); exact rfl)
  | with_reducible refine WL_lst ?_ | with_reducible refine WL_cat ?_ | with_reducible refine WL_iterS ?_ | with_reducible refine WL_iterR1 ?_ | with_reducible refine WL_iterR2 ?_ | with_reducible refine WL_iterZ ?_ | with_reducible refine WL_iterE ?_
  | ((with_reducible apply WE_move); exact rfl; array_mem_dec) | ((with_reducible apply WL_move); exact rfl; array_mem_dec)
  | ((with_reducible apply WA_own); exact rfl) | with_reducible refine callD_bag1 ?_ | with_reducible refine callD_data0 ?_ | with_reducible refine ArB.a0 ?_ | with_reducible refine ArB.a1 ?_ | with_reducible refine ArB.a2 ?_ | with_reducible refine ArB.a3 ?_ | ((with_reducible apply BagK.mk); (with_reducible assumption))
  | with_reducible refine AppK.mk (by (try simp only [List.cons_append, List.nil_append]); first | done | rfl) ?_ | with_reducible refine WL_callN ?_ | ((with_reducible apply FrK.mk); (with_reducible assumption))
  | with_reducible refine WE_err (by simp only [DL.hide, List.map_cons, List.map_nil]; first | done | rfl) ?_
  | ((with_reducible apply P2K.mk); exact rfl) | ((with_reducible apply P3K.mk); exact rfl) | ((with_reducible apply I1K.mk); exact rfl) | ((with_reducible apply I2K.mk); exact rfl) | ((with_reducible apply ZiK.lst); exact rfl) | ((with_reducible apply ZiK.tup); exact rfl) | ((with_reducible apply E1K.mk); exact rfl) | ((with_reducible apply MoK.mk); exact rfl) | ((with_reducible apply Nat.le_of_ble_eq_true); exact rfl) | ((with_reducible apply Eq.symm); exact rfl) | (with_reducible refine fun (_ : _ = true) => ?_))
local macro_rules | `(tactic| clean_wf) => `(tactic| (refine is_wp rfl ?_; simp only [List.map_cons, List.map_nil, List.cons_append, List.nil_append, Nat.reduceSub, List.replicate]))
local macro_rules | `(tactic| simp_wf) => `(tactic| ((· (repeat array_get_dec)); (· exact rfl); (· (simp only [wipeR, List.set_cons_zero, List.set_cons_succ]; first | done | rfl)); (· (simp only [restR, List.set_cons_zero, List.set_cons_succ, List.getElem?_cons_zero, List.getElem?_cons_succ, Option.getD_some]; first | done | rfl))))
/-- values of so many things in a row, so deep -/
inductive J (m : Nat) : Nat → D → Prop
  | non (h : Nat) : J m (h + 1) .non
  | bl (h : Nat) (b : Bool) : J m (h + 1) (.bl b)
  | int (h : Nat) (i : Int) : J m (h + 1) (.int i)
  | str (h : Nat) {s : Str} : PyData.strOk s = true → J m (h + 1) (.str s)
  | tup (h : Nat) {ds : List D} : ds.length ≤ m → (∀ d ∈ ds, J m h d) → J m (h + 1) (.tup ds)
  | lst (h : Nat) {ds : List D} : ds.length ≤ m → (∀ d ∈ ds, J m h d) → J m (h + 1) (.lst ds)
theorem layAll_of {h : Nat} : ∀ {ds : List D}, (∀ d ∈ ds, d.py.canLay0 = true ∧ d.py.depth ≤ h) → PyData.canLayAll0 (D.pys ds) = true ∧ PyData.depthAll (D.pys ds) ≤ h
  | [], _ => ⟨by with_unfolding_all rfl, by with_unfolding_all exact Nat.zero_le _⟩
  | d :: ds, k => by
    obtain ⟨a, b⟩ := layAll_of (ds := ds) fun x hx => k x (List.mem_cons_of_mem _ hx)
    obtain ⟨a1, b1⟩ := k d List.mem_cons_self
    refine ⟨?_, ?_⟩
    · show PyData.canLayAll0 (d.py :: D.pys ds) = true
      simp only [PyData.canLayAll0, Bool.and_eq_true]
      exact ⟨a1, a⟩
    · show PyData.depthAll (d.py :: D.pys ds) ≤ h
      simp only [PyData.depthAll]
      exact Nat.max_le.mpr ⟨b1, b⟩
theorem J.lay {m h : Nat} {d : D} (j : J m h d) : d.py.canLay0 = true ∧ d.py.depth ≤ h := by
  induction j with
  | non h => exact ⟨by with_unfolding_all rfl, by simp only [D.py, PyData.depth]; omega⟩
  | bl h b => exact ⟨by with_unfolding_all rfl, by simp only [D.py, PyData.depth]; omega⟩
  | int h i => exact ⟨by with_unfolding_all rfl, by simp only [D.py, PyData.depth]; omega⟩
  | str h s => exact ⟨by simp only [D.py, PyData.canLay0]; exact s, by simp only [D.py, PyData.depth]; omega⟩
  | tup h l a ih =>
    obtain ⟨x, y⟩ := layAll_of ih
    exact ⟨by simp only [D.py, PyData.canLay0]; exact x, by simp only [D.py, PyData.depth]; omega⟩
  | lst h l a ih =>
    obtain ⟨x, y⟩ := layAll_of ih
    exact ⟨by simp only [D.py, PyData.canLay0]; exact x, by simp only [D.py, PyData.depth]; omega⟩
theorem J.fit {m h : Nat} {d : D} (j : J m h d) (hh : h ≤ 64) : d.fit = true := by
  unfold D.fit SeqAt.shaped
  rw [j.lay.1, decide_eq_true (Nat.le_trans j.lay.2 hh)]
  rfl
theorem J.mono {m m' h : Nat} {d : D} (j : J m h d) (hm : m ≤ m') : ∀ {h' : Nat}, h ≤ h' → J m' h' d := by
  induction j with
  | non h => intro h' k; obtain ⟨n, rfl⟩ : ∃ n, h' = n + 1 := ⟨h' - 1, by omega⟩; exact .non n
  | bl h b => intro h' k; obtain ⟨n, rfl⟩ : ∃ n, h' = n + 1 := ⟨h' - 1, by omega⟩; exact .bl n b
  | int h i => intro h' k; obtain ⟨n, rfl⟩ : ∃ n, h' = n + 1 := ⟨h' - 1, by omega⟩; exact .int n i
  | str h s => intro h' k; obtain ⟨n, rfl⟩ : ∃ n, h' = n + 1 := ⟨h' - 1, by omega⟩; exact .str n s
  | tup h l a ih => intro h' k; obtain ⟨n, rfl⟩ : ∃ n, h' = n + 1 := ⟨h' - 1, by omega⟩; exact .tup n (Nat.le_trans l hm) fun d hd => ih d hd (by omega)
  | lst h l a ih => intro h' k; obtain ⟨n, rfl⟩ : ∃ n, h' = n + 1 := ⟨h' - 1, by omega⟩; exact .lst n (Nat.le_trans l hm) fun d hd => ih d hd (by omega)
/-! ### whole numbers -/
def whB (lo hi : Int) : D → Bool
  | .int n => decide (lo ≤ n) && decide (n ≤ hi)
  | _ => false
theorem whole_b {m h : Nat} {d : D} (j : J m h d) (lo hi : Int) : Is f_is_whole [d, .int lo, .int hi] (.bl (whB lo hi d)) := by
  cases j with
  | non h => exact noI_non _ _
  | bl h b => exact noI_bl _ _ _
  | int h i => exact is_whole i lo hi
  | str h s => exact noI_str _ _ _
  | tup h l a => exact noI_tup _ _ _
  | lst h l a => exact noI_lst _ _ _
theorem number_b {m h : Nat} {d : D} (j : J m h d) (lo hi : Int) : Is K01.f__law_number [d, .int lo, .int hi] (.bl (whB lo hi d)) := whole_b j lo hi
theorem fit_str {s : Str} (h : PyData.strOk s = true) : (D.str s).fit = true := (J.str (m := 0) 0 h).fit (by decide)
theorem eq_str {a b : Str} (ha : PyData.strOk a = true) (hb : PyData.strOk b = true) : eqE (.str a) (.str b) = some (.bl (a == b)) := eqE_fit (fit_str ha) (fit_str hb)
theorem ne_str {a b : Str} (ha : PyData.strOk a = true) (hb : PyData.strOk b = true) : neE (.str a) (.str b) = some (.bl (!(a == b))) := neE_fit (fit_str ha) (fit_str hb)
theorem okText : PyData.strOk sText = true := by decide +kernel
theorem okBlock : PyData.strOk sBlock = true := by decide +kernel
theorem okBreak : PyData.strOk sBreak = true := by decide +kernel
theorem okNext : PyData.strOk sNext = true := by decide +kernel
theorem okWhole : PyData.strOk sWhole = true := by decide +kernel
/-! ### marks -/
def inkB (ks : List Str) : D → Bool
  | .str s => ks.any (· == s)
  | _ => false
def ltS (a b : Str) : Bool := decide (a.cps.toList < b.cps.toList)
def okM (ks ss : List Str) : Bool := ss.all (fun s => ks.any (· == s)) && (ss.zip (ss.drop 1)).all fun p => ltS p.1 p.2
def amB (ks : List Str) : D → Bool
  | .tup ds => match strsD ds with
    | some ss => okM ks ss
    | none => false
  | _ => false
theorem ink_all (ks : List Str) : ∀ {ds : List D}, ds.all (inkB ks) = true → ∃ ss : List Str, ds = ss.map D.str ∧ ss.all (fun s => ks.any (· == s)) = true
  | [], _ => ⟨[], rfl, rfl⟩
  | d :: ds, h => by
    rw [List.all_cons, Bool.and_eq_true] at h
    obtain ⟨ss, e, q⟩ := ink_all ks h.2
    cases d with
    | str s => exact ⟨s :: ss, by rw [e]; rfl, by rw [List.all_cons, Bool.and_eq_true]; exact ⟨h.1, q⟩⟩
    | _ => cases h.1
theorem strsD_inv : ∀ {ds : List D} {ss : List Str}, strsD ds = some ss → ds = ss.map D.str
  | [], ss, h => by cases h; rfl
  | d :: ds, ss, h => by
    cases d with
    | str s =>
      obtain ⟨r, e1, rfl⟩ := Option.map_eq_some_iff.mp (show (strsD ds).map (s :: ·) = some ss from h)
      rw [strsD_inv e1]
      rfl
    | _ => cases h
theorem ink_str (ks : List Str) (ss : List Str) : (ss.map D.str).all (inkB ks) = ss.all (fun s => ks.any (· == s)) := by
  rw [List.all_map]
  rfl
theorem amB_no {ks : List Str} {ds : List D} (h : ds.all (inkB ks) = false) : amB ks (.tup ds) = false := by
  show (match strsD ds with
    | some ss => okM ks ss
    | none => false) = false
  cases e : strsD ds with
  | none => rfl
  | some ss =>
    rw [strsD_inv e, ink_str] at h
    show okM ks ss = false
    unfold okM
    rw [h]
    rfl
theorem amB_str (ks ss : List Str) : amB ks (.tup (ss.map D.str)) = okM ks ss := by
  show (match strsD (ss.map D.str) with
    | some ss => okM ks ss
    | none => false) = _
  rw [strsD_strs]
theorem in_strs {ks : List Str} (hk : ∀ k ∈ ks, PyData.strOk k = true) {s : Str} (hs : PyData.strOk s = true) : inE (.str s) (.tup (ks.map D.str)) = some (.bl (ks.any (· == s))) := by
  have fj : (D.tup (ks.map D.str)).fit = true := (J.tup (m := ks.length) 1 (by simp) (fun d hd => by obtain ⟨k, h1, rfl⟩ := List.mem_map.mp hd; exact .str 0 (hk k h1))).fit (by decide)
  show (if (D.str s).fit = true ∧ (D.tup (ks.map D.str)).fit = true then some ((D.pys (ks.map D.str)).any fun z => PyData.eqv z (D.str s).py) else none).map D.bl = _
  rw [if_pos ⟨fit_str hs, fj⟩]
  have e : ∀ ks : List Str, (D.pys (ks.map D.str)).any (fun z => PyData.eqv z (D.str s).py) = ks.any (· == s) := fun ks => by
    induction ks with
    | nil => rfl
    | cons k ks ih =>
      show (PyData.eqv (D.str k).py (D.str s).py || (D.pys (ks.map D.str)).any _) = _
      rw [ih]
      simp only [D.py, PyData.eqv, List.any_cons]
  rw [e]
  rfl
theorem pair_drop (ss : List Str) : pairD (ss.map D.str) (DL.cutD (ss.map D.str) (some 1) none) = (ss.zip (ss.drop 1)).map fun p => D.tup [.str p.1, .str p.2] := by
  rw [show DL.cutD (ss.map D.str) (some 1) none = (ss.drop 1).map D.str from ?_, pair_map]
  unfold DL.cutD
  rw [List.length_map]
  have e1 : HT.sIx ss.length 0 (some 1) = min 1 ss.length := by
    show (if (1 : Int) < 0 then ((1 : Int) + (ss.length : Int)).toNat else min (1 : Int).toNat ss.length) = _
    rw [if_neg (by omega)]
    rfl
  have e2 : HT.sIx ss.length ss.length none = ss.length := rfl
  rw [e1, e2, ← List.map_drop, ← List.map_take]
  congr 1
  cases ss with
  | nil => rfl
  | cons s ss => simp
theorem marks_b {ks : List Str} (hk : ∀ k ∈ ks, PyData.strOk k = true) {m h : Nat} {v : D} (j : J m h v) (hm : m ≤ 900) : Is f_are_marks [v, .tup (ks.map D.str)] (.bl (amB ks v)) := by
  have i1 := isi_non_tuple
  have i2 := isi_bl_tuple
  have i3 := isi_int_tuple
  have i4 := isi_str_tuple
  have i5 := isi_lst_tuple
  have i6 := isi_tup_tuple
  clean_wf
  unfold b_are_marks
  cases j with
  | non h => repeat array_get_dec
  | bl h b => have i2 := i2 b; repeat array_get_dec
  | int h i => have i3 := i3 i; repeat array_get_dec
  | @str h s' s => have i4 := i4 s'; repeat array_get_dec
  | @lst h ds l a => have i5 := i5 ds; repeat array_get_dec
  | @tup h ds l a =>
    have i6 := i6 ds
    have hid : ds = ds.map (fun x : D => x) := (List.map_id' ds).symm
    repeat array_get_dec
    apply WE_lcM (fun x : D => x) (fun d => D.bl (inkB ks d)) ds
    simp_wf
    · omega
    · intro d hd
      have q1 := isi_non_str
      have q2 := isi_bl_str
      have q3 := isi_int_str
      have q4 := isi_str_str
      have q5 := isi_lst_str
      have q6 := isi_tup_str
      have jd := a d hd
      cases jd with
      | non h => repeat array_get_dec
      | bl h b => have i2 := q2 b; repeat array_get_dec
      | int h i => have i3 := q3 i; repeat array_get_dec
      | @str h s' s => have i4 := q4 s'; have i7 := in_strs hk s; repeat array_get_dec
      | @lst h ds l a => have i5 := q5 ds; repeat array_get_dec
      | @tup h ds l a => have i5 := q6 ds; repeat array_get_dec
    · repeat array_get_dec
      cases hc : ds.all (inkB ks) with
      | false =>
        rw [amB_no hc]
        repeat array_get_dec
      | true =>
        obtain ⟨ss, rfl, hs⟩ := ink_all ks hc
        have e1 : slD (.tup (ss.map D.str)) (some 1) none = some (.tup (DL.cutD (ss.map D.str) (some 1) none)) := rfl
        have e2 := pair_drop ss
        have sl : ss.length ≤ 900 := by rw [List.length_map] at l; omega
        rw [amB_str]
        repeat array_get_dec
        apply WE_lcM (fun p : Str × Str => D.tup [.str p.1, .str p.2]) (fun p => D.bl (ltS p.1 p.2)) (ss.zip (ss.drop 1))
        simp_wf
        · rw [List.length_zip]; omega
        · rintro ⟨x, y⟩ hp
          have e3 : ltD (.str x) (.str y) = some (.bl (ltS x y)) := rfl
          repeat array_get_dec
        · have e4 : okM ks ss = (ss.zip (ss.drop 1)).all fun p => ltS p.1 p.2 := by unfold okM; rw [hs]; rfl
          rw [e4]
          repeat array_get_dec
end MA

set_option maxHeartbeats 4000000
/-! N20: which values are parts. -/
namespace MA
open PySem PySem.Spec PyProof.Rows L2 DL PK
local macro_rules | `(tactic| array_mem_dec) => `(tactic| (simp only [List.set_cons_zero, List.set_cons_succ]; first | done | rfl))
local macro_rules | `(tactic| sizeOf_list_dec) => `(tactic| first | (with_reducible assumption) | exact rfl | assumption | exact Nat.le_of_ble_eq_true rfl | (rw [sz]; exact Nat.le_of_ble_eq_true rfl) | omega | (constructor <;> omega) | (refine ⟨⟨?_, ?_⟩, ?_, ?_⟩ <;> omega) | (refine ⟨⟨?_, ?_⟩, ⟨?_, ?_⟩, ?_⟩ <;> omega))
local macro_rules | `(tactic| array_get_dec) => `(tactic| first
  | ((with_reducible apply WE_var); exact rfl) | with_reducible refine WE_ret ?_ | ((with_reducible apply WS_hyp); (with_reducible assumption)) | with_reducible refine WS_seq ?_ | with_reducible refine WL_cons ?_ | with_reducible refine WL_nil ?_ | with_reducible refine WE_bin ?_
  | ((with_reducible apply OpK.mk); (with_reducible assumption)) | ((with_reducible apply OpK.mk); (simp only [eq_int, ne_int, allD_map, ix_kind, kind_break, kind_nbreak, kind_text, kind_block, isB_brk, isB_blk, isB_txt, isT_brk, isT_blk, isT_txt, isK_brk, isK_blk, isK_txt]; first | done | rfl)) | ((with_reducible apply OpK.mk); exact rfl) | ((with_reducible apply OpK.mk); (simp; rfl))
  | with_reducible refine WS_asg ?_ | with_reducible refine WG_name ?_ | with_reducible refine SetK.mk (by array_mem_dec) ?_
  | with_reducible refine WA_cons ?_ | with_reducible refine WA_nil ?_ | with_reducible refine callD_data1 ?_ | with_reducible refine ArK.a1 ?_ | with_reducible refine ArK.a2 ?_ | with_reducible refine ArK.a3 ?_ | with_reducible refine ArK.a4 ?_ | with_reducible refine ArK.a5 ?_ | with_reducible refine ArK.a0 ?_
  | ((with_reducible apply IsK.mk); (with_reducible assumption)) | ((with_reducible apply IsK.er); (with_reducible assumption))
  | with_reducible refine WS_if ?_ | with_reducible refine WB_tst ?_ | ((with_reducible apply BlK.mk); exact rfl) | with_reducible refine if_t rfl ?_ | with_reducible refine if_f rfl ?_ | with_reducible refine if_nt rfl ?_ | with_reducible refine if_nf rfl ?_ | ((with_reducible apply if_t); (with_reducible assumption)) | ((with_reducible apply if_f); (with_reducible assumption)) | ((with_reducible apply if_nt); (with_reducible assumption)) | ((with_reducible apply if_nf); (with_reducible assumption))
  | with_reducible refine WE_lst ?_ | with_reducible refine WE_tup ?_ | ((with_reducible refine And.intro ?_ ?_); (· sizeOf_list_dec)) | with_reducible refine WE_fun ?_ | with_reducible refine WS_ret ?_ | with_reducible refine WS_nx ?_
  | with_reducible refine WE_un ?_ | with_reducible refine WE_isi ?_ | with_reducible refine WE_and ?_ | with_reducible refine WE_or ?_ | with_reducible refine WE_not ?_ | with_reducible refine WE_if ?_ | with_reducible refine WE_mt1 ?_ | with_reducible refine WE_chain ?_ | with_reducible refine WE_sl ?_ | with_reducible refine WE_listRg ?_
  | with_reducible refine WO_no ?_ | with_reducible refine WO_some ?_ | ((with_reducible apply InK.mk); exact rfl) | ((with_reducible apply StK.mk); exact rfl) | ((with_reducible apply TuK.mk); exact rfl) | ((with_reducible apply LsK.mk); exact rfl) | ((with_reducible apply SqK.lst); exact rfl) | ((with_reducible apply SqK.tup); exact rfl)
  | with_reducible refine WB_yes ?_ | with_reducible refine WB_and ?_ | with_reducible refine WB_or ?_ | with_reducible refine WB_not ?_ | with_reducible refine WG_tup ?_ | with_reducible refine WG_lst ?_ | with_reducible refine WGs_nil ?_ | with_reducible refine WGs_cons ?_
  | with_reducible refine WS_drop ?_ | with_reducible refine WS_par ?_ | with_reducible refine WS_par3 ?_ | with_reducible refine WS_setF ?_ | with_reducible refine WS_raise ?_ | ((with_reducible apply WS_app); exact rfl) | ((with_reducible apply SlK.mk); exact rfl)
  | with_reducible refine WL_lst ?_ | with_reducible refine WL_cat ?_ | with_reducible refine WL_iterS ?_ | with_reducible refine WL_iterR1 ?_ | with_reducible refine WL_iterR2 ?_ | with_reducible refine WL_iterZ ?_ | with_reducible refine WL_iterE ?_
  | ((with_reducible apply WE_move); exact rfl; array_mem_dec) | ((with_reducible apply WL_move); exact rfl; array_mem_dec)
  | ((with_reducible apply WA_own); exact rfl) | with_reducible refine callD_bag1 ?_ | with_reducible refine callD_data0 ?_ | with_reducible refine ArB.a0 ?_ | with_reducible refine ArB.a1 ?_ | with_reducible refine ArB.a2 ?_ | with_reducible refine ArB.a3 ?_ | ((with_reducible apply BagK.mk); (with_reducible assumption))
  | with_reducible refine AppK.mk (by (try simp only [List.cons_append, List.nil_append]); first | done | rfl) ?_ | with_reducible refine WL_callN ?_ | ((with_reducible apply FrK.mk); (with_reducible assumption))
  | with_reducible refine WE_err (by simp only [DL.hide, List.map_cons, List.map_nil]; first | done | rfl) ?_
  | ((with_reducible apply P2K.mk); exact rfl) | ((with_reducible apply P3K.mk); exact rfl) | ((with_reducible apply I1K.mk); exact rfl) | ((with_reducible apply I2K.mk); exact rfl) | ((with_reducible apply ZiK.lst); exact rfl) | ((with_reducible apply ZiK.tup); exact rfl) | ((with_reducible apply E1K.mk); exact rfl) | ((with_reducible apply MoK.mk); exact rfl) | ((with_reducible apply Nat.le_of_ble_eq_true); exact rfl) | ((with_reducible apply Eq.symm); exact rfl) | (with_reducible refine fun (_ : _ = true) => ?_))
local macro_rules | `(tactic| clean_wf) => `(tactic| (refine is_wp rfl ?_; simp only [List.map_cons, List.map_nil, List.cons_append, List.nil_append, Nat.reduceSub, List.replicate]))
local macro_rules | `(tactic| simp_wf) => `(tactic| ((· (repeat array_get_dec)); (· exact rfl); (· (simp only [wipeR, List.set_cons_zero, List.set_cons_succ]; first | done | rfl)); (· (simp only [restR, List.set_cons_zero, List.set_cons_succ, List.getElem?_cons_zero, List.getElem?_cons_succ, Option.getD_some]; first | done | rfl))))
/-! ### marks, plainly -/
def mkL : List Str → Option (Bool × Bool)
  | [] => some (false, false)
  | [a] => if a = sNext then some (true, false) else if a = sWhole then some (false, true) else none
  | [a, b] => if a = sNext ∧ b = sWhole then some (true, true) else none
  | _ => none
theorem lt_nn : ltS sNext sNext = false := by decide +kernel
theorem lt_nw : ltS sNext sWhole = true := by decide +kernel
theorem lt_wn : ltS sWhole sNext = false := by decide +kernel
theorem lt_ww : ltS sWhole sWhole = false := by decide +kernel
theorem b_nn : (sNext == sNext) = true := by decide +kernel
theorem b_nw : (sNext == sWhole) = false := by decide +kernel
theorem b_wn : (sWhole == sNext) = false := by decide +kernel
theorem b_ww : (sWhole == sWhole) = true := by decide +kernel
theorem d_nw : sNext ≠ sWhole := by decide +kernel
theorem d_wn : sWhole ≠ sNext := by decide +kernel
def isN : Option (Bool × Bool) → Bool
  | some (_, false) => true
  | _ => false
theorem two_ok {a : Str} : ([sNext, sWhole].any (· == a)) = true ↔ a = sNext ∨ a = sWhole := by
  simp only [List.any_cons, List.any_nil, Bool.or_false, Bool.or_eq_true, beq_iff_eq]
  constructor
  · rintro (rfl | rfl)
    · exact .inl rfl
    · exact .inr rfl
  · rintro (rfl | rfl)
    · exact .inl rfl
    · exact .inr rfl
theorem one_ok {a : Str} : ([sNext].any (· == a)) = true ↔ a = sNext := by
  simp only [List.any_cons, List.any_nil, Bool.or_false, beq_iff_eq]
  exact eq_comm
theorem okM_2 (ss : List Str) : okM [sNext, sWhole] ss = (mkL ss).isSome := by
  unfold okM
  rcases ss with _ | ⟨a, _ | ⟨b, _ | ⟨c, r⟩⟩⟩
  · rfl
  · simp only [List.all_cons, List.all_nil, Bool.and_true, List.drop_succ_cons, List.drop_nil, List.zip_nil_right, mkL]
    by_cases h1 : a = sNext
    · subst h1; rw [two_ok.mpr (.inl rfl), if_pos rfl]; rfl
    · rw [if_neg h1]
      by_cases h2 : a = sWhole
      · subst h2; rw [two_ok.mpr (.inr rfl), if_pos rfl]; rfl
      · rw [if_neg h2, Bool.eq_false_iff.mpr fun z => (two_ok.mp z).elim h1 h2]; rfl
  · simp only [List.all_cons, List.all_nil, Bool.and_true, List.drop_succ_cons, List.drop_zero, List.zip_cons_cons, List.zip_nil_right, mkL]
    by_cases h : a = sNext ∧ b = sWhole
    · obtain ⟨rfl, rfl⟩ := h
      rw [two_ok.mpr (.inl rfl), two_ok.mpr (.inr rfl), if_pos ⟨rfl, rfl⟩, lt_nw]; rfl
    · rw [if_neg h]
      refine Bool.eq_false_iff.mpr fun z => ?_
      simp only [Bool.and_eq_true] at z
      obtain ⟨⟨za, zb⟩, zl⟩ := z
      rcases two_ok.mp za with rfl | rfl <;> rcases two_ok.mp zb with rfl | rfl
      · rw [lt_nn] at zl; cases zl
      · exact h ⟨rfl, rfl⟩
      · rw [lt_wn] at zl; cases zl
      · rw [lt_ww] at zl; cases zl
  · refine Bool.eq_false_iff.mpr fun z => ?_
    simp only [List.all_cons, List.drop_succ_cons, List.drop_zero, List.zip_cons_cons, Bool.and_eq_true] at z
    obtain ⟨⟨za, zb, zc, _⟩, zl, zl2, _⟩ := z
    rcases two_ok.mp za with rfl | rfl <;> rcases two_ok.mp zb with rfl | rfl
    · rw [lt_nn] at zl; cases zl
    · rcases two_ok.mp zc with rfl | rfl
      · rw [lt_wn] at zl2; cases zl2
      · rw [lt_ww] at zl2; cases zl2
    · rw [lt_wn] at zl; cases zl
    · rw [lt_ww] at zl; cases zl
theorem okM_1 (ss : List Str) : okM [sNext] ss = isN (mkL ss) := by
  unfold okM
  rcases ss with _ | ⟨a, _ | ⟨b, r⟩⟩
  · rfl
  · simp only [List.all_cons, List.all_nil, Bool.and_true, List.drop_succ_cons, List.drop_nil, List.zip_nil_right, mkL]
    by_cases h1 : a = sNext
    · subst h1; rw [one_ok.mpr rfl, if_pos rfl]; rfl
    · rw [if_neg h1, Bool.eq_false_iff.mpr fun z => h1 (one_ok.mp z)]
      by_cases h2 : a = sWhole
      · rw [if_pos h2]; rfl
      · rw [if_neg h2]; rfl
  · have e : isN (mkL (a :: b :: r)) = false := by
      cases r with
      | nil =>
        show isN (if a = sNext ∧ b = sWhole then some (true, true) else none) = false
        by_cases h : a = sNext ∧ b = sWhole
        · rw [if_pos h]; rfl
        · rw [if_neg h]; rfl
      | cons c r => rfl
    rw [e]
    refine Bool.eq_false_iff.mpr fun z => ?_
    simp only [List.all_cons, List.drop_succ_cons, List.drop_zero, List.zip_cons_cons, Bool.and_eq_true] at z
    obtain ⟨⟨za, zb, _⟩, zl, _⟩ := z
    rw [one_ok.mp za, one_ok.mp zb, lt_nn] at zl
    cases zl
theorem mkL_inv {ss : List Str} {a b : Bool} (h : mkL ss = some (a, b)) : D.tup (ss.map D.str) = markD a b := by
  rcases ss with _ | ⟨x, _ | ⟨y, _ | ⟨z, r⟩⟩⟩
  · cases h; rfl
  · change (if x = sNext then some (true, false) else if x = sWhole then some (false, true) else none) = some (a, b) at h
    by_cases h1 : x = sNext
    · rw [if_pos h1] at h; subst h1; cases h; rfl
    · rw [if_neg h1] at h
      by_cases h2 : x = sWhole
      · rw [if_pos h2] at h; subst h2; cases h; rfl
      · rw [if_neg h2] at h; cases h
  · change (if x = sNext ∧ y = sWhole then some (true, true) else none) = some (a, b) at h
    by_cases h1 : x = sNext ∧ y = sWhole
    · rw [if_pos h1] at h; obtain ⟨rfl, rfl⟩ := h1; cases h; rfl
    · rw [if_neg h1] at h; cases h
  · cases h
def mkB (v : D) : Option (Bool × Bool) := match v with
  | .tup ds => (strsD ds).bind mkL
  | _ => none
theorem mkB_inv {v : D} {a b : Bool} (h : mkB v = some (a, b)) : v = markD a b := by
  cases v with
  | tup ds =>
    obtain ⟨ss, e1, e2⟩ := Option.bind_eq_some_iff.mp (show (strsD ds).bind mkL = some (a, b) from h)
    rw [strsD_inv e1]
    exact mkL_inv e2
  | _ => cases h
theorem amB_2 (v : D) : amB [sNext, sWhole] v = (mkB v).isSome := by
  cases v with
  | tup ds =>
    show (match strsD ds with
      | some ss => okM [sNext, sWhole] ss
      | none => false) = ((strsD ds).bind mkL).isSome
    cases strsD ds with
    | none => rfl
    | some ss => exact okM_2 ss
  | _ => rfl
theorem amB_1 (v : D) : amB [sNext] v = isN (mkB v) := by
  cases v with
  | tup ds =>
    show (match strsD ds with
      | some ss => okM [sNext] ss
      | none => false) = isN ((strsD ds).bind mkL)
    cases strsD ds with
    | none => rfl
    | some ss => exact okM_1 ss
  | _ => rfl
theorem marks1 {m h : Nat} {v : D} (j : J m h v) (hm : m ≤ 900) : Is f_are_marks [v, .tup [.str sNext]] (.bl (isN (mkB v))) := by
  have := marks_b (ks := [sNext]) (by intro k hk; rw [List.mem_singleton.mp hk]; exact okNext) j hm
  rw [amB_1] at this
  exact this
theorem marks2 {m h : Nat} {v : D} (j : J m h v) (hm : m ≤ 900) : Is f_are_marks [v, K_MARKS] (.bl (mkB v).isSome) := by
  have := marks_b (ks := [sNext, sWhole]) (by intro k hk; rcases List.mem_cons.mp hk with rfl | hk; exact okNext; rw [List.mem_singleton.mp hk]; exact okWhole) j hm
  rw [amB_2] at this
  exact this
/-! ### marks, as the law asks -/
theorem eqv_tups : ∀ (ss : List Str) (ds : List D), PyData.eqvAll (D.pys (ss.map D.str)) (D.pys ds) = decide (strsD ds = some ss)
  | [], [] => rfl
  | [], d :: ds => by
    rw [decide_eq_false]
    · rfl
    · intro z
      cases d with
      | str s => cases h : strsD ds with
        | none => rw [show strsD (.str s :: ds) = (strsD ds).map (s :: ·) from rfl, h] at z; cases z
        | some r => rw [show strsD (.str s :: ds) = (strsD ds).map (s :: ·) from rfl, h] at z; cases z
      | _ => cases z
  | s :: ss, [] => by rw [decide_eq_false]; · rfl
                      · intro z; cases z
  | s :: ss, d :: ds => by
    show (PyData.eqv (.str s) d.py && PyData.eqvAll (D.pys (ss.map D.str)) (D.pys ds)) = _
    rw [eqv_tups ss ds]
    cases d with
    | str t =>
      rw [show strsD (.str t :: ds) = (strsD ds).map (t :: ·) from rfl]
      show ((s == t) && _) = _
      by_cases h : s = t
      · subst h
        cases strsD ds with
        | none => simp
        | some r => simp
      · rw [show (s == t) = false from by simp [h], Bool.false_and, Eq.comm, decide_eq_false]
        intro z
        obtain ⟨r, _, z⟩ := Option.map_eq_some_iff.mp z
        cases z
        exact h rfl
    | _ => simp [D.py, PyData.eqv, strsD]
theorem eqv_markN (ss : List Str) (v : D) : PyData.eqv (D.tup (ss.map D.str)).py v.py = match v with | .tup ds => decide (strsD ds = some ss) | _ => false := by
  cases v with
  | tup ds =>
    show PyData.eqvAll (D.pys (ss.map D.str)) (D.pys ds) = _
    exact eqv_tups ss ds
  | _ => simp [D.py, PyData.eqv]
abbrev mk1L : D := .lst [.tup [], .tup [.str sNext]]
abbrev mk2L : D := .lst [.tup [], .tup [.str sNext], .tup [.str sWhole], .tup [.str sNext, .str sWhole]]
theorem fit1 : mk1L.fit = true := by kernel_rfl
theorem fit2 : mk2L.fit = true := by kernel_rfl
theorem mkL_cases (ss : List Str) : isN (mkL ss) = (decide (ss = []) || decide (ss = [sNext])) ∧ (mkL ss).isSome = (decide (ss = []) || (decide (ss = [sNext]) || (decide (ss = [sWhole]) || decide (ss = [sNext, sWhole])))) := by
  rcases ss with _ | ⟨x, _ | ⟨y, _ | ⟨z, r⟩⟩⟩
  · exact ⟨rfl, rfl⟩
  · simp only [mkL]
    by_cases h1 : x = sNext
    · subst h1
      rw [if_pos rfl]
      simp [isN]
    · rw [if_neg h1]
      by_cases h2 : x = sWhole
      · subst h2
        rw [if_pos rfl]
        simp [isN, h1]
      · rw [if_neg h2]
        simp [isN, h1, h2]
  · simp only [mkL]
    by_cases h1 : x = sNext ∧ y = sWhole
    · rw [if_pos h1]
      simp [isN, h1]
    · rw [if_neg h1]
      simp [isN, h1]
  · simp [mkL, isN]
theorem inm1 {m h : Nat} {v : D} (j : J m h v) (hh : h ≤ 60) : inE v mk1L = some (.bl (isN (mkB v))) := by
  show (if v.fit = true ∧ mk1L.fit = true then some ((D.pys [.tup [], .tup [.str sNext]]).any fun z => PyData.eqv z v.py) else none).map D.bl = _
  rw [if_pos ⟨j.fit (by omega), fit1⟩]
  show some (D.bl (PyData.eqv (D.tup (([] : List Str).map D.str)).py v.py || (PyData.eqv (D.tup ([sNext].map D.str)).py v.py || false))) = _
  rw [eqv_markN, eqv_markN, Bool.or_false]
  cases v with
  | tup ds =>
    show some (D.bl (decide (strsD ds = some []) || decide (strsD ds = some [sNext]))) = some (D.bl (isN ((strsD ds).bind mkL)))
    cases strsD ds with
    | none => rfl
    | some ss =>
      show _ = some (D.bl (isN (mkL ss)))
      rw [(mkL_cases ss).1]
      simp
  | _ => rfl
theorem inm2 {m h : Nat} {v : D} (j : J m h v) (hh : h ≤ 60) : inE v mk2L = some (.bl (mkB v).isSome) := by
  show (if v.fit = true ∧ mk2L.fit = true then some ((D.pys [.tup [], .tup [.str sNext], .tup [.str sWhole], .tup [.str sNext, .str sWhole]]).any fun z => PyData.eqv z v.py) else none).map D.bl = _
  rw [if_pos ⟨j.fit (by omega), fit2⟩]
  show some (D.bl (PyData.eqv (D.tup (([] : List Str).map D.str)).py v.py || (PyData.eqv (D.tup ([sNext].map D.str)).py v.py || (PyData.eqv (D.tup ([sWhole].map D.str)).py v.py || (PyData.eqv (D.tup ([sNext, sWhole].map D.str)).py v.py || false))))) = _
  rw [eqv_markN, eqv_markN, eqv_markN, eqv_markN, Bool.or_false]
  cases v with
  | tup ds =>
    show some (D.bl (decide (strsD ds = some []) || (decide (strsD ds = some [sNext]) || (decide (strsD ds = some [sWhole]) || decide (strsD ds = some [sNext, sWhole]))))) = some (D.bl ((strsD ds).bind mkL).isSome)
    cases strsD ds with
    | none => rfl
    | some ss =>
      show _ = some (D.bl (mkL ss).isSome)
      rw [(mkL_cases ss).2]
      simp
  | _ => rfl
/-! ### parts -/
def tupB (v : D) : Bool := match v with
  | .tup _ => true
  | _ => false
def twB (v : D) : Bool := match v with
  | .tup ws => (decide (1 ≤ ws.length) && decide (ws.length ≤ 12)) && ws.all (whB 1 9)
  | _ => false
def gpB (v : D) : Bool := match v with
  | .tup [.str a] => a == sBreak
  | .tup [.str a, x, y] => !(a == sBreak) && if (a == sBlock) = true then whB 1 9 x && isN (mkB y) else (a == sText) && (twB x && (mkB y).isSome)
  | _ => false
theorem whB_inv {lo hi : Int} {v : D} (h : whB lo hi v = true) : ∃ n, v = .int n ∧ lo ≤ n ∧ n ≤ hi := by
  cases v with
  | int n =>
    simp only [whB, Bool.and_eq_true, decide_eq_true_eq] at h
    exact ⟨n, rfl, h⟩
  | _ => cases h
theorem whB_all {lo hi : Int} : ∀ {ds : List D}, ds.all (whB lo hi) = true → ∃ ns : List Int, ds = ns.map D.int ∧ ∀ n ∈ ns, lo ≤ n ∧ n ≤ hi
  | [], _ => ⟨[], rfl, by simp⟩
  | d :: ds, h => by
    rw [List.all_cons, Bool.and_eq_true] at h
    obtain ⟨n, rfl, hn⟩ := whB_inv h.1
    obtain ⟨ns, rfl, q⟩ := whB_all h.2
    refine ⟨n :: ns, rfl, fun x hx => ?_⟩
    rcases List.mem_cons.mp hx with rfl | hx
    · exact hn
    · exact q x hx
theorem gpB_inv {v : D} (h : gpB v = true) : ∃ p : Pt, v = p.d ∧ p.ok := by
  unfold gpB at h
  split at h
  · rename_i a
    exact ⟨.brk, by rw [beq_iff_eq.mp h]; rfl, trivial⟩
  · rename_i a x y
    rw [Bool.and_eq_true] at h
    by_cases hb : (a == sBlock) = true
    · rw [if_pos hb, Bool.and_eq_true] at h
      obtain ⟨n, rfl, hn⟩ := whB_inv h.2.1
      cases hm : mkB y with
      | none => rw [hm] at h; cases h.2.2
      | some p =>
        obtain ⟨nx, w⟩ := p
        rw [hm] at h
        cases w with
        | true => cases h.2.2
        | false => exact ⟨.blk n nx, by rw [beq_iff_eq.mp hb, mkB_inv hm]; rfl, hn⟩
    · rw [if_neg hb, Bool.and_eq_true, Bool.and_eq_true] at h
      obtain ⟨_, h1, h2, h3⟩ := h
      cases hm : mkB y with
      | none => rw [hm] at h3; cases h3
      | some p =>
        obtain ⟨nx, w⟩ := p
        cases x with
        | tup ws =>
          simp only [twB, Bool.and_eq_true, decide_eq_true_eq] at h2
          obtain ⟨ns, rfl, q⟩ := whB_all h2.2
          rw [List.length_map] at h2
          exact ⟨.txt ns nx w, by rw [beq_iff_eq.mp h1, mkB_inv hm]; rfl, h2.1.1, h2.1.2, q⟩
        | _ => cases h2
  · cases h
theorem bkt : (sBlock == sText) = false := by decide +kernel
theorem gp_other (a x y : D) (h : ∀ s, a ≠ .str s) : gpB (.tup [a, x, y]) = false := by
  unfold gpB
  split
  · rename_i e; cases e
  · rename_i e; cases e; exact absurd rfl (h _)
  · rfl
theorem neT0 {m h : Nat} {d : D} {ds : List D} (j : J m h (.tup (d :: ds))) (hh : h ≤ 60) : eqE (.tup (d :: ds)) (.tup []) = some (.bl false) := by
  rw [eqE_fit (j.fit (by omega)) fitT0]
  show some (D.bl (PyData.eqv (.tuple (d.py :: D.pys ds)) (.tuple []))) = _
  simp [PyData.eqv, PyData.eqvAll]
end MA

set_option maxHeartbeats 4000000
/-! N21: is_part and the law's own look at a part agree. -/
namespace MA
open PySem PySem.Spec PyProof.Rows L2 DL PK
local macro_rules | `(tactic| array_mem_dec) => `(tactic| (simp only [List.set_cons_zero, List.set_cons_succ]; first | done | rfl))
local macro_rules | `(tactic| sizeOf_list_dec) => `(tactic| first | (with_reducible assumption) | exact rfl | assumption | exact Nat.le_of_ble_eq_true rfl | (rw [sz]; exact Nat.le_of_ble_eq_true rfl) | omega | (constructor <;> omega) | (refine ⟨⟨?_, ?_⟩, ?_, ?_⟩ <;> omega) | (refine ⟨⟨?_, ?_⟩, ⟨?_, ?_⟩, ?_⟩ <;> omega))
local macro_rules | `(tactic| array_get_dec) => `(tactic| first
  | ((with_reducible apply WE_var); exact rfl) | with_reducible refine WE_ret ?_ | ((with_reducible apply WS_hyp); (with_reducible assumption)) | with_reducible refine WS_seq ?_ | with_reducible refine WL_cons ?_ | with_reducible refine WL_nil ?_ | with_reducible refine WE_bin ?_
  | ((with_reducible apply OpK.mk); (with_reducible assumption)) | ((with_reducible apply OpK.mk); (simp only [eq_int, ne_int, allD_map, ix_kind, kind_break, kind_nbreak, kind_text, kind_block, isB_brk, isB_blk, isB_txt, isT_brk, isT_blk, isT_txt, isK_brk, isK_blk, isK_txt]; first | done | rfl)) | ((with_reducible apply OpK.mk); exact rfl) | ((with_reducible apply OpK.mk); (simp; rfl))
  | with_reducible refine WS_asg ?_ | with_reducible refine WG_name ?_ | with_reducible refine SetK.mk (by array_mem_dec) ?_
  | with_reducible refine WA_cons ?_ | with_reducible refine WA_nil ?_ | with_reducible refine callD_data1 ?_ | with_reducible refine ArK.a1 ?_ | with_reducible refine ArK.a2 ?_ | with_reducible refine ArK.a3 ?_ | with_reducible refine ArK.a4 ?_ | with_reducible refine ArK.a5 ?_ | with_reducible refine ArK.a0 ?_
  | ((with_reducible apply IsK.mk); (with_reducible assumption)) | ((with_reducible apply IsK.er); (with_reducible assumption))
  | with_reducible refine WS_if ?_ | with_reducible refine WB_tst ?_ | ((with_reducible apply BlK.mk); exact rfl) | with_reducible refine if_t rfl ?_ | with_reducible refine if_f rfl ?_ | with_reducible refine if_nt rfl ?_ | with_reducible refine if_nf rfl ?_ | ((with_reducible apply if_t); (with_reducible assumption)) | ((with_reducible apply if_f); (with_reducible assumption)) | ((with_reducible apply if_nt); (with_reducible assumption)) | ((with_reducible apply if_nf); (with_reducible assumption))
  | with_reducible refine WE_lst ?_ | with_reducible refine WE_tup ?_ | ((with_reducible refine And.intro ?_ ?_); (· sizeOf_list_dec)) | with_reducible refine WE_fun ?_ | with_reducible refine WS_ret ?_ | with_reducible refine WS_nx ?_
  | with_reducible refine WE_un ?_ | with_reducible refine WE_isi ?_ | with_reducible refine WE_and ?_ | with_reducible refine WE_or ?_ | with_reducible refine WE_not ?_ | with_reducible refine WE_if ?_ | with_reducible refine WE_mt1 ?_ | with_reducible refine WE_chain ?_ | with_reducible refine WE_sl ?_ | with_reducible refine WE_listRg ?_
  | with_reducible refine WO_no ?_ | with_reducible refine WO_some ?_ | ((with_reducible apply InK.mk); exact rfl) | ((with_reducible apply StK.mk); exact rfl) | ((with_reducible apply TuK.mk); exact rfl) | ((with_reducible apply LsK.mk); exact rfl) | ((with_reducible apply SqK.lst); exact rfl) | ((with_reducible apply SqK.tup); exact rfl)
  | with_reducible refine WB_yes ?_ | with_reducible refine WB_and ?_ | with_reducible refine WB_or ?_ | with_reducible refine WB_not ?_ | with_reducible refine WG_tup ?_ | with_reducible refine WG_lst ?_ | with_reducible refine WGs_nil ?_ | with_reducible refine WGs_cons ?_
  | with_reducible refine WS_drop ?_ | with_reducible refine WS_par ?_ | with_reducible refine WS_par3 ?_ | with_reducible refine WS_setF ?_ | with_reducible refine WS_raise ?_ | ((with_reducible apply WS_app); exact rfl) | ((with_reducible apply SlK.mk); exact rfl)
  | with_reducible refine WL_lst ?_ | with_reducible refine WL_cat ?_ | with_reducible refine WL_iterS ?_ | with_reducible refine WL_iterR1 ?_ | with_reducible refine WL_iterR2 ?_ | with_reducible refine WL_iterZ ?_ | with_reducible refine WL_iterE ?_
  | ((with_reducible apply WE_move); exact rfl; array_mem_dec) | ((with_reducible apply WL_move); exact rfl; array_mem_dec)
  | ((with_reducible apply WA_own); exact rfl) | with_reducible refine callD_bag1 ?_ | with_reducible refine callD_data0 ?_ | with_reducible refine ArB.a0 ?_ | with_reducible refine ArB.a1 ?_ | with_reducible refine ArB.a2 ?_ | with_reducible refine ArB.a3 ?_ | ((with_reducible apply BagK.mk); (with_reducible assumption))
  | with_reducible refine AppK.mk (by (try simp only [List.cons_append, List.nil_append]); first | done | rfl) ?_ | with_reducible refine WL_callN ?_ | ((with_reducible apply FrK.mk); (with_reducible assumption))
  | with_reducible refine WE_err (by simp only [DL.hide, List.map_cons, List.map_nil]; first | done | rfl) ?_
  | ((with_reducible apply P2K.mk); exact rfl) | ((with_reducible apply P3K.mk); exact rfl) | ((with_reducible apply I1K.mk); exact rfl) | ((with_reducible apply I2K.mk); exact rfl) | ((with_reducible apply ZiK.lst); exact rfl) | ((with_reducible apply ZiK.tup); exact rfl) | ((with_reducible apply E1K.mk); exact rfl) | ((with_reducible apply MoK.mk); exact rfl) | ((with_reducible apply Nat.le_of_ble_eq_true); exact rfl) | ((with_reducible apply Eq.symm); exact rfl) | (with_reducible refine fun (_ : _ = true) => ?_))
local macro_rules | `(tactic| clean_wf) => `(tactic| (refine is_wp rfl ?_; simp only [List.map_cons, List.map_nil, List.cons_append, List.nil_append, Nat.reduceSub, List.replicate]))
local macro_rules | `(tactic| simp_wf) => `(tactic| ((· (repeat array_get_dec)); (· exact rfl); (· (simp only [wipeR, List.set_cons_zero, List.set_cons_succ]; first | done | rfl)); (· (simp only [restR, List.set_cons_zero, List.set_cons_succ, List.getElem?_cons_zero, List.getElem?_cons_succ, Option.getD_some]; first | done | rfl))))
theorem len_ne3 {n : Nat} (h : n ≠ 3) : decide ((n : Int) = 3) = false := decide_eq_false (by omega)
theorem lenT (ds : List D) : lenD [.tup ds] = some (.int (ds.length : Nat)) := rfl
theorem in13 {n : Nat} (b : Bool) (h : b = (decide (n = 1) || decide (n = 3))) : notInE (.int (n : Nat)) (.lst [.int 1, .int 3]) = some (.bl (!b)) := by
  have e := Enc.inL Enc.int (by decide) (n : Int) [1, 3]
  have e2 : inD (.int (n : Nat)) (.lst [.int 1, .int 3]) = some b := by
    have q : (inD (.int (n : Nat)) (.lst [.int 1, .int 3])).map D.bl = some (.bl (decide ((n : Int) ∈ [(1 : Int), 3]))) := e
    obtain ⟨c, e1, e2⟩ := Option.map_eq_some_iff.mp q
    rw [e1, h]
    cases e2
    congr 1
    simp only [List.mem_cons, List.not_mem_nil, or_false]
    by_cases h1 : n = 1
    · simp [h1]
    · by_cases h3 : n = 3
      · simp [h3]
      · simp [h1, h3]
        omega
  show (inD (.int (n : Nat)) (.lst [.int 1, .int 3])).map (fun b => D.bl (!b)) = _
  rw [e2]
  rfl
section
variable {m h : Nat} {v : D}
theorem gpB_1 (s : Str) : gpB (.tup [.str s]) = (s == sBreak) := rfl
theorem gpB_3 (s : Str) (x y : D) : gpB (.tup [.str s, x, y]) = (!(s == sBreak) && if (s == sBlock) = true then whB 1 9 x && isN (mkB y) else (s == sText) && (twB x && (mkB y).isSome)) := rfl
theorem gpB_nil : gpB (.tup []) = false := rfl
theorem gpB_2 (s : D) (x : D) : gpB (.tup [s, x]) = false := by
  unfold gpB
  split
  · rename_i e; cases e
  · rename_i e; cases e
  · rfl
theorem gpB_4 (s : D) (x y z : D) (r : List D) : gpB (.tup (s :: x :: y :: z :: r)) = false := by
  unfold gpB
  split
  · rename_i e; cases e
  · rename_i e; cases e
  · rfl
theorem gpB_o (s : D) (r : List D) (h : ∀ t, s ≠ .str t) : gpB (.tup (s :: r)) = false := by
  unfold gpB
  split
  · rename_i e; cases e; exact absurd rfl (h _)
  · rename_i e; cases e; exact absurd rfl (h _)
  · rfl
/-- something of another kind -/
theorem isi_o {m h : Nat} {d : D} (j : J m h d) (n : ∀ t, d ≠ .str t) : isiD "str" d = some (.bl false) := by
  cases j with
  | non h => exact isi_non_str
  | bl h b => exact isi_bl_str b
  | int h i => exact isi_int_str i
  | str h s => exact absurd rfl (n _)
  | tup h l a => exact isi_tup_str _
  | lst h l a => exact isi_lst_str _
theorem isi_t {m h : Nat} {d : D} (j : J m h d) : isiD "tuple" d = some (.bl (tupB d)) := by
  cases j with
  | non h => exact isi_non_tuple
  | bl h b => exact isi_bl_tuple b
  | int h i => exact isi_int_tuple i
  | str h s => exact isi_str_tuple _
  | tup h l a => exact isi_tup_tuple _
  | lst h l a => exact isi_lst_tuple _
theorem is_str_or {m h : Nat} {d : D} (j : J m h d) : (∃ s, d = .str s ∧ PyData.strOk s = true) ∨ ∀ t, d ≠ .str t := by
  cases j with
  | str h s => exact .inl ⟨_, rfl, s⟩
  | _ => exact .inr fun t z => nomatch z
theorem J.inT {m h : Nat} {ds : List D} (j : J m h (.tup ds)) : ds.length ≤ m ∧ ∀ d ∈ ds, J m h d := by
  cases j with
  | tup h l a => exact ⟨l, fun d hd => (a d hd).mono (Nat.le_refl _) (by omega)⟩
/-- the words of a text -/
theorem words_b {m h : Nat} {ws : List D} (a : ∀ d ∈ ws, J m h d) (hl : ws.length ≤ 900) : ∀ d ∈ ws, Is f_is_whole [d, .int 1, .int 9] (.bl (whB 1 9 d)) := fun d hd => whole_b (a d hd) 1 9
theorem part_b (j : J m h v) (hm : m ≤ 900) (hh : h ≤ 60) : Is f_is_part [v] (.bl (gpB v)) := by
  have it := isi_t j
  cases j with
  | non h => clean_wf; unfold b_is_part; repeat array_get_dec
  | bl h b => clean_wf; unfold b_is_part; repeat array_get_dec
  | int h i => clean_wf; unfold b_is_part; repeat array_get_dec
  | str h s => clean_wf; unfold b_is_part; repeat array_get_dec
  | lst h l a => clean_wf; unfold b_is_part; repeat array_get_dec
  | @tup h ds l a =>
    rcases ds with _ | ⟨s0, r⟩
    · have e0 : eqE (.tup []) (.tup []) = some (.bl true) := by kernel_rfl
      rw [gpB_nil]
      clean_wf
      unfold b_is_part
      repeat array_get_dec
    · have e0 := neT0 (J.tup h l a) (by omega)
      have i0 : ixD (.tup (s0 :: r)) (.int 0) = some s0 := at0 _ _
      have ln := lenT (s0 :: r)
      rcases is_str_or (a s0 List.mem_cons_self) with ⟨s, rfl, so⟩ | ns
      · have q1 := isi_str_str s
        have c1 := eq_str so okBreak
        have c2 := eq_str so okBlock
        have c3 := ne_str so okText
        by_cases hb : (s == sBreak) = true
        · have e : gpB (.tup (.str s :: r)) = decide (((D.str s :: r).length : Int) = 1) := by
            rcases r with _ | ⟨x, _ | ⟨y, _ | ⟨z, r⟩⟩⟩
            · rw [gpB_1, hb]; rfl
            · rw [gpB_2]; symm; exact decide_eq_false (by simp only [List.length_cons, List.length_nil]; omega)
            · rw [gpB_3, hb]; symm; exact decide_eq_false (by simp only [List.length_cons, List.length_nil]; omega)
            · rw [gpB_4]; symm; exact decide_eq_false (by simp only [List.length_cons, List.length_nil]; omega)
          rw [hb] at c1
          rw [e]
          clean_wf
          unfold b_is_part
          repeat array_get_dec
        · have hb := Bool.eq_false_iff.mpr hb
          rw [hb] at c1
          by_cases h3 : (D.str s :: r).length = 3
          · obtain ⟨x, y, rfl⟩ : ∃ x y, r = [x, y] := by
              rcases r with _ | ⟨x, _ | ⟨y, _ | ⟨z, r⟩⟩⟩
              · cases h3
              · cases h3
              · exact ⟨x, y, rfl⟩
              · simp at h3
            have l3 : decide ((([D.str s, x, y].length : Nat) : Int) = 3) = true := rfl
            have i1 : ixD (.tup [.str s, x, y]) (.int 1) = some x := at1 _ _ _
            have i2 : ixD (.tup [.str s, x, y]) (.int 2) = some y := at2 _ _ _ _
            have jx := a x (by simp)
            have jy := a y (by simp)
            have w1 := whole_b jx 1 9
            have m1 := marks1 jy hm
            have m2 := marks2 jy hm
            have tx := isi_t jx
            rw [gpB_3, hb, Bool.not_false, Bool.true_and]
            by_cases hk : (s == sBlock) = true
            · rw [hk] at c2
              rw [if_pos hk]
              cases hw : whB 1 9 x with
              | false =>
                rw [hw] at w1
                rw [Bool.false_and]
                clean_wf
                unfold b_is_part
                repeat array_get_dec
              | true =>
                rw [hw] at w1
                rw [Bool.true_and]
                clean_wf
                unfold b_is_part
                repeat array_get_dec
            · have hk := Bool.eq_false_iff.mpr hk
              rw [hk] at c2
              rw [if_neg (by rw [hk]; exact Bool.false_ne_true)]
              cases ht : s == sText with
              | false =>
                rw [ht] at c3
                rw [Bool.false_and]
                clean_wf
                unfold b_is_part
                repeat array_get_dec
              | true =>
                rw [ht] at c3
                rw [Bool.true_and]
                cases x with
                | tup ws =>
                  have lw := lenT ws
                  obtain ⟨wl, wa⟩ := J.inT jx
                  have wb := words_b wa (by omega)
                  cases h1 : decide (1 ≤ ws.length) with
                  | false =>
                    have h1' : decide ((1 : Int) ≤ (ws.length : Nat)) = false := decide_eq_false (by have := of_decide_eq_false h1; omega)
                    have e : twB (.tup ws) = false := by show ((decide (1 ≤ ws.length) && _) && _) = false; rw [h1]; rfl
                    rw [e, Bool.false_and]
                    clean_wf
                    unfold b_is_part
                    repeat array_get_dec
                  | true =>
                    have h1' : decide ((1 : Int) ≤ (ws.length : Nat)) = true := decide_eq_true (by have := of_decide_eq_true h1; omega)
                    cases h2 : decide (ws.length ≤ 12) with
                    | false =>
                      have h2' : decide (((ws.length : Nat) : Int) ≤ 12) = false := decide_eq_false (by have := of_decide_eq_false h2; omega)
                      have e : twB (.tup ws) = false := by show ((decide (1 ≤ ws.length) && decide (ws.length ≤ 12)) && _) = false; rw [h1, h2]; rfl
                      rw [e, Bool.false_and]
                      clean_wf
                      unfold b_is_part
                      repeat array_get_dec
                    | true =>
                      have h2' : decide (((ws.length : Nat) : Int) ≤ 12) = true := decide_eq_true (by have := of_decide_eq_true h2; omega)
                      have e : twB (.tup ws) = ws.all (whB 1 9) := by show ((decide (1 ≤ ws.length) && decide (ws.length ≤ 12)) && _) = _; rw [h1, h2]; rfl
                      have hid : ws = ws.map (fun x : D => x) := (List.map_id' ws).symm
                      rw [e]
                      clean_wf
                      unfold b_is_part
                      repeat array_get_dec
                      apply WE_lcM (fun x : D => x) (fun d => D.bl (whB 1 9 d)) ws
                      simp_wf
                      · omega
                      · intro d hd
                        have w1 := wb d hd
                        repeat array_get_dec
                      · repeat array_get_dec
                        cases hw : ws.all (whB 1 9) with
                        | false => rw [Bool.false_and]; repeat array_get_dec
                        | true => rw [Bool.true_and]; repeat array_get_dec
                | _ =>
                  rw [show twB _ = false from rfl, Bool.false_and]
                  clean_wf
                  unfold b_is_part
                  repeat array_get_dec
          · have l3 := len_ne3 h3
            have e : gpB (.tup (.str s :: r)) = false := by
              rcases r with _ | ⟨x, _ | ⟨y, _ | ⟨z, r⟩⟩⟩
              · rw [gpB_1, hb]
              · rw [gpB_2]
              · exact absurd rfl h3
              · rw [gpB_4]
            rw [e]
            clean_wf
            unfold b_is_part
            repeat array_get_dec
      · have q1 := isi_o (a s0 List.mem_cons_self) ns
        rw [gpB_o _ _ ns]
        clean_wf
        unfold b_is_part
        repeat array_get_dec
end
end MA

set_option maxHeartbeats 4000000
/-! N22: the law's own look at a part; documents. -/
namespace MA
open PySem PySem.Spec PyProof.Rows L2 DL PK
local macro_rules | `(tactic| array_mem_dec) => `(tactic| (simp only [List.set_cons_zero, List.set_cons_succ]; first | done | rfl))
local macro_rules | `(tactic| sizeOf_list_dec) => `(tactic| first | (with_reducible assumption) | exact rfl | assumption | exact Nat.le_of_ble_eq_true rfl | (rw [sz]; exact Nat.le_of_ble_eq_true rfl) | omega | (constructor <;> omega) | (refine ⟨⟨?_, ?_⟩, ?_, ?_⟩ <;> omega) | (refine ⟨⟨?_, ?_⟩, ⟨?_, ?_⟩, ?_⟩ <;> omega))
local macro_rules | `(tactic| array_get_dec) => `(tactic| first
  | ((with_reducible apply WE_var); exact rfl) | with_reducible refine WE_ret ?_ | ((with_reducible apply WS_hyp); (with_reducible assumption)) | with_reducible refine WS_seq ?_ | with_reducible refine WL_cons ?_ | with_reducible refine WL_nil ?_ | with_reducible refine WE_bin ?_
  | ((with_reducible apply OpK.mk); (with_reducible assumption)) | ((with_reducible apply OpK.mk); (simp only [eq_int, ne_int, allD_map, ix_kind, kind_break, kind_nbreak, kind_text, kind_block, isB_brk, isB_blk, isB_txt, isT_brk, isT_blk, isT_txt, isK_brk, isK_blk, isK_txt]; first | done | rfl)) | ((with_reducible apply OpK.mk); exact rfl) | ((with_reducible apply OpK.mk); (simp; rfl))
  | with_reducible refine WS_asg ?_ | with_reducible refine WG_name ?_ | with_reducible refine SetK.mk (by array_mem_dec) ?_
  | with_reducible refine WA_cons ?_ | with_reducible refine WA_nil ?_ | with_reducible refine callD_data1 ?_ | with_reducible refine ArK.a1 ?_ | with_reducible refine ArK.a2 ?_ | with_reducible refine ArK.a3 ?_ | with_reducible refine ArK.a4 ?_ | with_reducible refine ArK.a5 ?_ | with_reducible refine ArK.a0 ?_
  | ((with_reducible apply IsK.mk); (with_reducible assumption)) | ((with_reducible apply IsK.er); (with_reducible assumption))
  | with_reducible refine WS_if ?_ | with_reducible refine WB_tst ?_ | ((with_reducible apply BlK.mk); exact rfl) | with_reducible refine if_t rfl ?_ | with_reducible refine if_f rfl ?_ | with_reducible refine if_nt rfl ?_ | with_reducible refine if_nf rfl ?_ | ((with_reducible apply if_t); (with_reducible assumption)) | ((with_reducible apply if_f); (with_reducible assumption)) | ((with_reducible apply if_nt); (with_reducible assumption)) | ((with_reducible apply if_nf); (with_reducible assumption))
  | with_reducible refine WE_lst ?_ | with_reducible refine WE_tup ?_ | ((with_reducible refine And.intro ?_ ?_); (· sizeOf_list_dec)) | with_reducible refine WE_fun ?_ | with_reducible refine WS_ret ?_ | with_reducible refine WS_nx ?_
  | with_reducible refine WE_un ?_ | with_reducible refine WE_isi ?_ | with_reducible refine WE_and ?_ | with_reducible refine WE_or ?_ | with_reducible refine WE_not ?_ | with_reducible refine WE_if ?_ | with_reducible refine WE_mt1 ?_ | with_reducible refine WE_chain ?_ | with_reducible refine WE_sl ?_ | with_reducible refine WE_listRg ?_
  | with_reducible refine WO_no ?_ | with_reducible refine WO_some ?_ | ((with_reducible apply InK.mk); exact rfl) | ((with_reducible apply StK.mk); exact rfl) | ((with_reducible apply TuK.mk); exact rfl) | ((with_reducible apply LsK.mk); exact rfl) | ((with_reducible apply SqK.lst); exact rfl) | ((with_reducible apply SqK.tup); exact rfl)
  | with_reducible refine WB_yes ?_ | with_reducible refine WB_and ?_ | with_reducible refine WB_or ?_ | with_reducible refine WB_not ?_ | with_reducible refine WG_tup ?_ | with_reducible refine WG_lst ?_ | with_reducible refine WGs_nil ?_ | with_reducible refine WGs_cons ?_
  | with_reducible refine WS_drop ?_ | with_reducible refine WS_par ?_ | with_reducible refine WS_par3 ?_ | with_reducible refine WS_setF ?_ | with_reducible refine WS_raise ?_ | ((with_reducible apply WS_app); exact rfl) | ((with_reducible apply SlK.mk); exact rfl)
  | with_reducible refine WL_lst ?_ | with_reducible refine WL_cat ?_ | with_reducible refine WL_iterS ?_ | with_reducible refine WL_iterR1 ?_ | with_reducible refine WL_iterR2 ?_ | with_reducible refine WL_iterZ ?_ | with_reducible refine WL_iterE ?_
  | ((with_reducible apply WE_move); exact rfl; array_mem_dec) | ((with_reducible apply WL_move); exact rfl; array_mem_dec)
  | ((with_reducible apply WA_own); exact rfl) | with_reducible refine callD_bag1 ?_ | with_reducible refine callD_data0 ?_ | with_reducible refine ArB.a0 ?_ | with_reducible refine ArB.a1 ?_ | with_reducible refine ArB.a2 ?_ | with_reducible refine ArB.a3 ?_ | ((with_reducible apply BagK.mk); (with_reducible assumption))
  | with_reducible refine AppK.mk (by (try simp only [List.cons_append, List.nil_append]); first | done | rfl) ?_ | with_reducible refine WL_callN ?_ | ((with_reducible apply FrK.mk); (with_reducible assumption))
  | with_reducible refine WE_err (by simp only [DL.hide, List.map_cons, List.map_nil]; first | done | rfl) ?_
  | ((with_reducible apply P2K.mk); exact rfl) | ((with_reducible apply P3K.mk); exact rfl) | ((with_reducible apply I1K.mk); exact rfl) | ((with_reducible apply I2K.mk); exact rfl) | ((with_reducible apply ZiK.lst); exact rfl) | ((with_reducible apply ZiK.tup); exact rfl) | ((with_reducible apply E1K.mk); exact rfl) | ((with_reducible apply MoK.mk); exact rfl) | ((with_reducible apply Nat.le_of_ble_eq_true); exact rfl) | ((with_reducible apply Eq.symm); exact rfl) | (with_reducible refine fun (_ : _ = true) => ?_))
local macro_rules | `(tactic| clean_wf) => `(tactic| (refine is_wp rfl ?_; simp only [List.map_cons, List.map_nil, List.cons_append, List.nil_append, Nat.reduceSub, List.replicate]))
local macro_rules | `(tactic| simp_wf) => `(tactic| ((· (repeat array_get_dec)); (· exact rfl); (· (simp only [wipeR, List.set_cons_zero, List.set_cons_succ]; first | done | rfl)); (· (simp only [restR, List.set_cons_zero, List.set_cons_succ, List.getElem?_cons_zero, List.getElem?_cons_succ, Option.getD_some]; first | done | rfl))))
theorem WE_notInR {fa fb fd : FE} {ρ : Rho} {P : D → Rho → Prop} {X : Xc → Prop} (h : WE fa ρ (fun a ρ1 => WE fb ρ1 (fun b ρ2 => WE fd ρ2 (fun c ρ3 => OpK (inRD a b c) fun k => P (.bl (!k)) ρ3) X) X) X) : WE (notInRE fa fb fd) ρ P X :=
  ⟨Wd.bind (Wd.mono h.w fun _ h2 => Wd.bind (Wd.mono h2.w fun _ h3 => Wd.bind (Wd.mono h3.w fun _ ⟨_, e, q⟩ => Wd.opt e q)))⟩
local macro_rules | `(tactic| array_get_dec) => `(tactic| with_reducible refine WE_notInR ?_)
theorem fit_lst {h : Nat} {es : List D} (a : ∀ d ∈ es, d.py.canLay0 = true ∧ d.py.depth ≤ h) (hh : h + 1 ≤ 64) : (D.lst es).fit = true := by
  obtain ⟨x, y⟩ := layAll_of a
  unfold D.fit SeqAt.shaped
  have e1 : (D.lst es).py.canLay0 = true := by simp only [D.py, PyData.canLay0]; exact x
  have e2 : (D.lst es).py.depth ≤ 64 := by simp only [D.py, PyData.depth]; omega
  rw [e1, decide_eq_true e2]
  rfl
/-- xs != [] -/
theorem ne_lst0 {m h : Nat} {ds es : List D} (a : ∀ d ∈ ds, J m h d) (hs : ∀ d ∈ es, d ∈ ds) (hh : h ≤ 60) : neE (.lst es) (.lst []) = some (.bl (!es.isEmpty)) := by
  rw [neE_fit (fit_lst (fun d hd => (a d (hs d hd)).lay) (by omega)) fitL0]
  cases es with
  | nil => rfl
  | cons d es =>
    show some (D.bl (!PyData.eqv (.list (d.py :: D.pys es)) (.list []))) = _
    simp [PyData.eqv, PyData.eqvAll]
theorem filt_empty {α : Type} (p : α → Bool) (l : List α) : (l.filter fun x => !p x).isEmpty = l.all p := by
  induction l with
  | nil => rfl
  | cons a l ih =>
    rw [List.filter_cons, List.all_cons]
    cases p a with
    | true => simpa using ih
    | false => simp
theorem map_idD (ds : List D) : ds.map (fun x : D => x) = ds := List.map_id' ds
section
variable {m h : Nat} {v : D}
theorem gpart_b (j : J m h v) (hm : m ≤ 900) (hh : h ≤ 60) : Is K01.f__law_good_part [v] (.bl (gpB v)) := by
  have it := isi_t j
  cases j with
  | non h => clean_wf; unfold K01.b__law_good_part; repeat array_get_dec
  | bl h b => clean_wf; unfold K01.b__law_good_part; repeat array_get_dec
  | int h i => clean_wf; unfold K01.b__law_good_part; repeat array_get_dec
  | str h s => clean_wf; unfold K01.b__law_good_part; repeat array_get_dec
  | lst h l a => clean_wf; unfold K01.b__law_good_part; repeat array_get_dec
  | @tup h ds l a =>
    have ln := lenT ds
    have i13 := in13 (n := ds.length) _ rfl
    by_cases hl13 : ds.length = 1 ∨ ds.length = 3
    · have i13 : notInE (.int (ds.length : Nat)) (.lst [.int 1, .int 3]) = some (.bl false) := by
        rw [i13]
        rcases hl13 with e | e <;> rw [e] <;> rfl
      obtain ⟨s0, r, rfl⟩ : ∃ s0 r, ds = s0 :: r := by
        rcases ds with _ | ⟨s0, r⟩
        · rcases hl13 with e | e <;> cases e
        · exact ⟨_, _, rfl⟩
      have i0 : ixD (.tup (s0 :: r)) (.int 0) = some s0 := at0 _ _
      rcases is_str_or (a s0 List.mem_cons_self) with ⟨s, rfl, so⟩ | ns
      · have q1 := isi_str_str s
        have c1 := eq_str so okBreak
        have c2 := eq_str so okBlock
        have c3 := ne_str so okText
        rcases hl13 with e1 | e3
        · obtain rfl : r = [] := by
            rcases r with _ | ⟨x, r⟩
            · rfl
            · simp at e1
          have l1 : decide ((([D.str s].length : Nat) : Int) = 1) = true := rfl
          rw [gpB_1]
          clean_wf
          unfold K01.b__law_good_part
          repeat array_get_dec
        · obtain ⟨x, y, rfl⟩ : ∃ x y, r = [x, y] := by
            rcases r with _ | ⟨x, _ | ⟨y, _ | ⟨z, r⟩⟩⟩
            · cases e3
            · cases e3
            · exact ⟨x, y, rfl⟩
            · simp at e3
          have l3 : decide ((([D.str s, x, y].length : Nat) : Int) = 1) = false := rfl
          have i1 : ixD (.tup [.str s, x, y]) (.int 1) = some x := at1 _ _ _
          have i2 : ixD (.tup [.str s, x, y]) (.int 2) = some y := at2 _ _ _ _
          have jx := a x (by simp)
          have jy := a y (by simp)
          have w1 := number_b jx 1 9
          have m1 := inm1 jy (by omega)
          have m2 := inm2 jy (by omega)
          have tx := isi_t jx
          have ty := isi_t jy
          have nt : tupB y = false → mkB y = none := fun z => by cases y with
            | tup ds => cases z
            | _ => rfl
          rw [gpB_3]
          by_cases hk : (s == sBlock) = true
          · rw [hk] at c2
            have hb : (s == sBreak) = false := by rw [beq_iff_eq.mp hk]; decide +kernel
            rw [if_pos hk, hb, Bool.not_false, Bool.true_and]
            cases hw : whB 1 9 x with
            | false =>
              rw [hw] at w1
              rw [Bool.false_and]
              clean_wf
              unfold K01.b__law_good_part
              repeat array_get_dec
            | true =>
              rw [hw] at w1
              rw [Bool.true_and]
              cases ht : tupB y with
              | false =>
                rw [ht] at ty
                rw [nt ht]
                clean_wf
                unfold K01.b__law_good_part
                repeat array_get_dec
              | true =>
                rw [ht] at ty
                clean_wf
                unfold K01.b__law_good_part
                repeat array_get_dec
          · have hk := Bool.eq_false_iff.mpr hk
            rw [hk] at c2
            rw [if_neg (by rw [hk]; exact Bool.false_ne_true)]
            cases ht : s == sText with
            | false =>
              rw [ht] at c3
              rw [Bool.false_and, Bool.and_false]
              clean_wf
              unfold K01.b__law_good_part
              repeat array_get_dec
            | true =>
              rw [ht] at c3
              have hb : (s == sBreak) = false := by rw [beq_iff_eq.mp ht]; decide +kernel
              rw [Bool.true_and, hb, Bool.not_false, Bool.true_and]
              cases x with
              | tup ws =>
                have lw := lenT ws
                obtain ⟨wl, wa⟩ := J.inT jx
                have ir : inRD (.int (ws.length : Nat)) (.int 1) (.int 13) = some (decide (1 ≤ ((ws.length : Nat) : Int) ∧ ((ws.length : Nat) : Int) < 13)) := rfl
                by_cases hr : 1 ≤ ws.length ∧ ws.length ≤ 12
                · have ir : inRD (.int (ws.length : Nat)) (.int 1) (.int 13) = some true := by rw [ir, decide_eq_true (by omega)]
                  have e : twB (.tup ws) = ws.all (whB 1 9) := by show ((decide (1 ≤ ws.length) && decide (ws.length ≤ 12)) && _) = _; rw [decide_eq_true hr.1, decide_eq_true hr.2]; rfl
                  have hid : ws = ws.map (fun x : D => x) := (List.map_id' ws).symm
                  rw [e]
                  clean_wf
                  unfold K01.b__law_good_part
                  repeat array_get_dec
                  apply WE_lcF (fun x : D => x) (fun d => !whB 1 9 d) (fun x : D => x) ws
                  simp_wf
                  · omega
                  · intro d hd
                    have w1 := number_b (wa d hd) 1 9
                    repeat array_get_dec
                  · rw [map_idD]
                    have n0 := ne_lst0 wa (es := ws.filter fun d => !whB 1 9 d) (fun d hd => (List.mem_filter.mp hd).1) (by omega)
                    rw [filt_empty] at n0
                    cases hw : ws.all (whB 1 9) with
                    | false =>
                      rw [hw] at n0
                      rw [Bool.false_and]
                      repeat array_get_dec
                    | true =>
                      rw [hw] at n0
                      rw [Bool.true_and]
                      cases ht : tupB y with
                      | false =>
                        rw [ht] at ty
                        rw [nt ht]
                        repeat array_get_dec
                      | true =>
                        rw [ht] at ty
                        repeat array_get_dec
                · have ir : inRD (.int (ws.length : Nat)) (.int 1) (.int 13) = some false := by rw [ir, decide_eq_false (by omega)]
                  have e : twB (.tup ws) = false := by
                    show ((decide (1 ≤ ws.length) && decide (ws.length ≤ 12)) && _) = false
                    rw [← Bool.decide_and, decide_eq_false hr]
                    rfl
                  rw [e, Bool.false_and]
                  clean_wf
                  unfold K01.b__law_good_part
                  repeat array_get_dec
              | _ =>
                rw [show twB _ = false from rfl, Bool.false_and]
                clean_wf
                unfold K01.b__law_good_part
                repeat array_get_dec
      · have q1 := isi_o (a s0 List.mem_cons_self) ns
        rw [gpB_o _ _ ns]
        clean_wf
        unfold K01.b__law_good_part
        repeat array_get_dec
    · have i13 : notInE (.int (ds.length : Nat)) (.lst [.int 1, .int 3]) = some (.bl true) := by
        rw [i13, decide_eq_false (fun z => hl13 (.inl z)), decide_eq_false (fun z => hl13 (.inr z))]
        rfl
      have e : gpB (.tup ds) = false := by
        rcases ds with _ | ⟨s, _ | ⟨x, _ | ⟨y, _ | ⟨z, r⟩⟩⟩⟩
        · rfl
        · exact absurd (.inl rfl) hl13
        · exact gpB_2 _ _
        · exact absurd (.inr rfl) hl13
        · exact gpB_4 _ _ _ _ _
      rw [e]
      clean_wf
      unfold K01.b__law_good_part
      repeat array_get_dec
/-! ### documents -/
def gdB (v : D) : Bool := match v with
  | .tup ds => (decide (1 ≤ ds.length) && decide (ds.length ≤ 8)) && (ds.all gpB && !ds.all fun d => PyData.eqv d.py (D.tup [.str sBreak]).py)
  | _ => false
theorem gp_all : ∀ {ds : List D}, ds.all gpB = true → ∃ d : List Pt, ds = d.map Pt.d ∧ ∀ p ∈ d, p.ok
  | [], _ => ⟨[], rfl, by simp⟩
  | x :: ds, h => by
    rw [List.all_cons, Bool.and_eq_true] at h
    obtain ⟨p, rfl, hp⟩ := gpB_inv h.1
    obtain ⟨d, rfl, q⟩ := gp_all h.2
    refine ⟨p :: d, rfl, fun y hy => ?_⟩
    rcases List.mem_cons.mp hy with rfl | hy
    · exact hp
    · exact q y hy
theorem eqv_brk (p : Pt) : PyData.eqv p.d.py (D.tup [.str sBreak]).py = p.isB := by
  have := encPt.eqv p .brk
  rw [show (D.tup [.str sBreak]) = Pt.brk.d from rfl, this]
  cases p <;> rfl
theorem all_brk (d : List Pt) : ((d.map Pt.d).all fun x => PyData.eqv x.py (D.tup [.str sBreak]).py) = d.all Pt.isB := by
  rw [List.all_map]
  congr 1
  funext p
  exact eqv_brk p
theorem gdB_inv {v : D} (h : gdB v = true) : ∃ d : List Pt, v = docD d ∧ Vd d := by
  cases v with
  | tup ds =>
    simp only [gdB, Bool.and_eq_true, decide_eq_true_eq] at h
    obtain ⟨⟨h1, h8⟩, h2, h3⟩ := h
    obtain ⟨d, rfl, q⟩ := gp_all h2
    rw [all_brk, Bool.not_eq_true', List.all_eq_false] at h3
    rw [List.length_map] at h1 h8
    obtain ⟨p, hp, hb⟩ := h3
    exact ⟨d, rfl, h1, h8, q, p, hp, by simpa using hb⟩
  | _ => cases h
theorem doc_b (j : J m h v) (hm : m ≤ 900) (hh : h ≤ 60) : Is f_is_document [v] (.bl (gdB v)) := by
  have it := isi_t j
  cases j with
  | non h => clean_wf; unfold b_is_document; repeat array_get_dec
  | bl h b => clean_wf; unfold b_is_document; repeat array_get_dec
  | int h i => clean_wf; unfold b_is_document; repeat array_get_dec
  | str h s => clean_wf; unfold b_is_document; repeat array_get_dec
  | lst h l a => clean_wf; unfold b_is_document; repeat array_get_dec
  | @tup h ds l a =>
    have ln := lenT ds
    by_cases h1 : 1 ≤ ds.length
    · have t1 : decide ((1 : Int) ≤ (ds.length : Nat)) = true := decide_eq_true (by omega)
      by_cases h8 : ds.length ≤ 8
      · have t8 : decide (((ds.length : Nat) : Int) ≤ 8) = true := decide_eq_true (by omega)
        have e : gdB (.tup ds) = (ds.all gpB && !ds.all fun d => PyData.eqv d.py (D.tup [.str sBreak]).py) := by
          show ((decide (1 ≤ ds.length) && decide (ds.length ≤ 8)) && _) = _
          rw [decide_eq_true h1, decide_eq_true h8]
          rfl
        have hid : ds = ds.map (fun x : D => x) := (List.map_id' ds).symm
        rw [e]
        clean_wf
        unfold b_is_document
        repeat array_get_dec
        apply WE_lcM (fun x : D => x) (fun d => D.bl (gpB d)) ds
        simp_wf
        · omega
        · intro d hd
          have w1 := part_b (a d hd) hm (by omega)
          repeat array_get_dec
        · repeat array_get_dec
          cases hc : ds.all gpB with
          | false =>
            rw [Bool.false_and]
            repeat array_get_dec
          | true =>
            rw [Bool.true_and]
            obtain ⟨d, rfl, q⟩ := gp_all hc
            rw [all_brk]
            repeat array_get_dec
            apply WE_lcM Pt.d (fun p => D.bl p.isB) d
            simp_wf
            · rw [List.length_map] at h8; omega
            · intro p hp
              repeat array_get_dec
            · repeat array_get_dec
      · have t8 : decide (((ds.length : Nat) : Int) ≤ 8) = false := decide_eq_false (by omega)
        have e : gdB (.tup ds) = false := by
          show ((decide (1 ≤ ds.length) && decide (ds.length ≤ 8)) && _) = _
          rw [decide_eq_false h8, Bool.and_false]
          rfl
        rw [e]
        clean_wf
        unfold b_is_document
        repeat array_get_dec
    · have t1 : decide ((1 : Int) ≤ (ds.length : Nat)) = false := decide_eq_false (by omega)
      have e : gdB (.tup ds) = false := by
        show ((decide (1 ≤ ds.length) && decide (ds.length ≤ 8)) && _) = _
        rw [decide_eq_false h1]
        rfl
      rw [e]
      clean_wf
      unfold b_is_document
      repeat array_get_dec
theorem good_b (j : J m h v) (hm : m ≤ 900) (hh : h ≤ 60) : Is K01.f__law_good [v] (.bl (gdB v)) := by
  have it := isi_t j
  cases j with
  | non h => clean_wf; unfold K01.b__law_good; repeat array_get_dec
  | bl h b => clean_wf; unfold K01.b__law_good; repeat array_get_dec
  | int h i => clean_wf; unfold K01.b__law_good; repeat array_get_dec
  | str h s => clean_wf; unfold K01.b__law_good; repeat array_get_dec
  | lst h l a => clean_wf; unfold K01.b__law_good; repeat array_get_dec
  | @tup h ds l a =>
    have ln := lenT ds
    have ir : inRD (.int (ds.length : Nat)) (.int 1) (.int 9) = some (decide (1 ≤ ((ds.length : Nat) : Int) ∧ ((ds.length : Nat) : Int) < 9)) := rfl
    by_cases hr : 1 ≤ ds.length ∧ ds.length ≤ 8
    · have ir : inRD (.int (ds.length : Nat)) (.int 1) (.int 9) = some true := by rw [ir, decide_eq_true (by omega)]
      have e : gdB (.tup ds) = (ds.all gpB && !ds.all fun d => PyData.eqv d.py (D.tup [.str sBreak]).py) := by
        show ((decide (1 ≤ ds.length) && decide (ds.length ≤ 8)) && _) = _
        rw [decide_eq_true hr.1, decide_eq_true hr.2]
        rfl
      have hid : ds = ds.map (fun x : D => x) := (List.map_id' ds).symm
      rw [e]
      clean_wf
      unfold K01.b__law_good
      repeat array_get_dec
      apply WE_lcF (fun x : D => x) (fun d => !gpB d) (fun x : D => x) ds
      simp_wf
      · omega
      · intro d hd
        have w1 := gpart_b (a d hd) hm (by omega)
        repeat array_get_dec
      · rw [map_idD]
        have n0 := ne_lst0 a (es := ds.filter fun d => !gpB d) (fun d hd => (List.mem_filter.mp hd).1) (by omega)
        rw [filt_empty] at n0
        cases hw : ds.all gpB with
        | false =>
          rw [hw] at n0
          rw [Bool.false_and]
          repeat array_get_dec
        | true =>
          rw [hw] at n0
          rw [Bool.true_and]
          repeat array_get_dec
          apply WE_lcF (fun x : D => x) (fun d => !PyData.eqv d.py (D.tup [.str sBreak]).py) (fun x : D => x) ds
          simp_wf
          · omega
          · intro d hd
            have w1 : neE d (.tup [.str sBreak]) = some (.bl (!PyData.eqv d.py (D.tup [.str sBreak]).py)) := neE_fit ((a d hd).fit (by omega)) (encPt.fit (by decide) .brk)
            repeat array_get_dec
          · rw [map_idD]
            have n1 := ne_lst0 a (es := ds.filter fun d => !PyData.eqv d.py (D.tup [.str sBreak]).py) (fun d hd => (List.mem_filter.mp hd).1) (by omega)
            rw [filt_empty] at n1
            repeat array_get_dec
    · have ir : inRD (.int (ds.length : Nat)) (.int 1) (.int 9) = some false := by rw [ir, decide_eq_false (by omega)]
      have e : gdB (.tup ds) = false := by
        show ((decide (1 ≤ ds.length) && decide (ds.length ≤ 8)) && _) = _
        rw [← Bool.decide_and, decide_eq_false hr]
        rfl
      rw [e]
      clean_wf
      unfold K01.b__law_good
      repeat array_get_dec
end
end MA

set_option maxHeartbeats 4000000
/-! N23: values spoilt. -/
namespace MA
open PySem PySem.Spec PyProof.Rows L2 DL PK
local macro_rules | `(tactic| array_mem_dec) => `(tactic| (simp only [List.set_cons_zero, List.set_cons_succ]; first | done | rfl))
local macro_rules | `(tactic| sizeOf_list_dec) => `(tactic| first | (with_reducible assumption) | exact rfl | assumption | exact Nat.le_of_ble_eq_true rfl | (rw [sz]; exact Nat.le_of_ble_eq_true rfl) | omega | (constructor <;> omega) | (refine ⟨⟨?_, ?_⟩, ?_, ?_⟩ <;> omega) | (refine ⟨⟨?_, ?_⟩, ⟨?_, ?_⟩, ?_⟩ <;> omega))
local macro_rules | `(tactic| array_get_dec) => `(tactic| first
  | ((with_reducible apply WE_var); exact rfl) | with_reducible refine WE_ret ?_ | ((with_reducible apply WS_hyp); (with_reducible assumption)) | with_reducible refine WS_seq ?_ | with_reducible refine WL_cons ?_ | with_reducible refine WL_nil ?_ | with_reducible refine WE_bin ?_
  | ((with_reducible apply OpK.mk); (with_reducible assumption)) | ((with_reducible apply OpK.mk); (simp only [eq_int, ne_int, allD_map, ix_kind, kind_break, kind_nbreak, kind_text, kind_block, isB_brk, isB_blk, isB_txt, isT_brk, isT_blk, isT_txt, isK_brk, isK_blk, isK_txt]; first | done | rfl)) | ((with_reducible apply OpK.mk); exact rfl) | ((with_reducible apply OpK.mk); (simp; rfl))
  | with_reducible refine WS_asg ?_ | with_reducible refine WG_name ?_ | with_reducible refine SetK.mk (by array_mem_dec) ?_
  | with_reducible refine WA_cons ?_ | with_reducible refine WA_nil ?_ | with_reducible refine callD_data1 ?_ | with_reducible refine ArK.a1 ?_ | with_reducible refine ArK.a2 ?_ | with_reducible refine ArK.a3 ?_ | with_reducible refine ArK.a4 ?_ | with_reducible refine ArK.a5 ?_ | with_reducible refine ArK.a0 ?_
  | ((with_reducible apply IsK.mk); (with_reducible assumption)) | ((with_reducible apply IsK.er); (with_reducible assumption))
  | with_reducible refine WS_if ?_ | with_reducible refine WB_tst ?_ | ((with_reducible apply BlK.mk); exact rfl) | with_reducible refine if_t rfl ?_ | with_reducible refine if_f rfl ?_ | with_reducible refine if_nt rfl ?_ | with_reducible refine if_nf rfl ?_ | ((with_reducible apply if_t); (with_reducible assumption)) | ((with_reducible apply if_f); (with_reducible assumption)) | ((with_reducible apply if_nt); (with_reducible assumption)) | ((with_reducible apply if_nf); (with_reducible assumption))
  | with_reducible refine WE_lst ?_ | with_reducible refine WE_tup ?_ | ((with_reducible refine And.intro ?_ ?_); (· sizeOf_list_dec)) | with_reducible refine WE_fun ?_ | with_reducible refine WS_ret ?_ | with_reducible refine WS_nx ?_
  | with_reducible refine WE_un ?_ | with_reducible refine WE_isi ?_ | with_reducible refine WE_and ?_ | with_reducible refine WE_or ?_ | with_reducible refine WE_not ?_ | with_reducible refine WE_if ?_ | with_reducible refine WE_mt1 ?_ | with_reducible refine WE_chain ?_ | with_reducible refine WE_sl ?_ | with_reducible refine WE_listRg ?_
  | with_reducible refine WO_no ?_ | with_reducible refine WO_some ?_ | ((with_reducible apply InK.mk); exact rfl) | ((with_reducible apply StK.mk); exact rfl) | ((with_reducible apply TuK.mk); exact rfl) | ((with_reducible apply LsK.mk); exact rfl) | ((with_reducible apply SqK.lst); exact rfl) | ((with_reducible apply SqK.tup); exact rfl)
  | with_reducible refine WB_yes ?_ | with_reducible refine WB_and ?_ | with_reducible refine WB_or ?_ | with_reducible refine WB_not ?_ | with_reducible refine WG_tup ?_ | with_reducible refine WG_lst ?_ | with_reducible refine WGs_nil ?_ | with_reducible refine WGs_cons ?_
  | with_reducible refine WS_drop ?_ | with_reducible refine WS_par ?_ | with_reducible refine WS_par3 ?_ | with_reducible refine WS_setF ?_ | with_reducible refine WS_raise ?_ | ((with_reducible apply WS_app); exact rfl) | ((with_reducible apply SlK.mk); exact rfl)
  | with_reducible refine WL_lst ?_ | with_reducible refine WL_cat ?_ | with_reducible refine WL_iterS ?_ | with_reducible refine WL_iterR1 ?_ | with_reducible refine WL_iterR2 ?_ | with_reducible refine WL_iterZ ?_ | with_reducible refine WL_iterE ?_
  | ((with_reducible apply WE_move); exact rfl; array_mem_dec) | ((with_reducible apply WL_move); exact rfl; array_mem_dec)
  | ((with_reducible apply WA_own); exact rfl) | with_reducible refine callD_bag1 ?_ | with_reducible refine callD_data0 ?_ | with_reducible refine ArB.a0 ?_ | with_reducible refine ArB.a1 ?_ | with_reducible refine ArB.a2 ?_ | with_reducible refine ArB.a3 ?_ | ((with_reducible apply BagK.mk); (with_reducible assumption))
  | with_reducible refine AppK.mk (by (try simp only [List.cons_append, List.nil_append]); first | done | rfl) ?_ | with_reducible refine WL_callN ?_ | ((with_reducible apply FrK.mk); (with_reducible assumption))
  | with_reducible refine WE_err (by simp only [DL.hide, List.map_cons, List.map_nil]; first | done | rfl) ?_
  | ((with_reducible apply P2K.mk); exact rfl) | ((with_reducible apply P3K.mk); exact rfl) | ((with_reducible apply I1K.mk); exact rfl) | ((with_reducible apply I2K.mk); exact rfl) | ((with_reducible apply ZiK.lst); exact rfl) | ((with_reducible apply ZiK.tup); exact rfl) | ((with_reducible apply E1K.mk); exact rfl) | ((with_reducible apply MoK.mk); exact rfl) | ((with_reducible apply Nat.le_of_ble_eq_true); exact rfl) | ((with_reducible apply Eq.symm); exact rfl) | (with_reducible refine fun (_ : _ = true) => ?_))
local macro_rules | `(tactic| clean_wf) => `(tactic| (refine is_wp rfl ?_; simp only [List.map_cons, List.map_nil, List.cons_append, List.nil_append, Nat.reduceSub, List.replicate]))
local macro_rules | `(tactic| simp_wf) => `(tactic| ((· (repeat array_get_dec)); (· exact rfl); (· (simp only [wipeR, List.set_cons_zero, List.set_cons_succ]; first | done | rfl)); (· (simp only [restR, List.set_cons_zero, List.set_cons_succ, List.getElem?_cons_zero, List.getElem?_cons_succ, Option.getD_some]; first | done | rfl))))
theorem cut_to' (ds : List D) {p : Nat} (hp : p ≤ ds.length) : DL.cutD ds none (some (p : Int)) = ds.take p := by
  unfold DL.cutD
  have e1 : HT.sIx ds.length 0 none = 0 := rfl
  have e2 : HT.sIx ds.length ds.length (some (p : Int)) = p := by
    show (if (p : Int) < 0 then ((p : Int) + (ds.length : Int)).toNat else min (p : Int).toNat ds.length) = _
    rw [if_neg (by omega)]
    omega
  rw [e1, e2, List.drop_zero, Nat.sub_zero]
theorem cut_from' (ds : List D) {p : Nat} (hp : p ≤ ds.length) : DL.cutD ds (some (p : Int)) none = ds.drop p := by
  unfold DL.cutD
  have e1 : HT.sIx ds.length 0 (some (p : Int)) = p := by
    show (if (p : Int) < 0 then ((p : Int) + (ds.length : Int)).toNat else min (p : Int).toNat ds.length) = _
    rw [if_neg (by omega)]
    omega
  have e2 : HT.sIx ds.length ds.length none = ds.length := rfl
  rw [e1, e2]
  exact List.take_of_length_le (by rw [List.length_drop]; omega)
theorem cut_fromN (ds : List D) (lo : Option Int) : ∃ p, DL.cutD ds lo none = ds.drop p := by
  unfold DL.cutD
  refine ⟨HT.sIx ds.length 0 lo, ?_⟩
  have e2 : HT.sIx ds.length ds.length none = ds.length := rfl
  rw [e2]
  exact List.take_of_length_le (by rw [List.length_drop]; omega)
theorem slT_to (ds : List D) {p : Nat} (hp : p ≤ ds.length) : slD (.tup ds) none (some (p : Int)) = some (.tup (ds.take p)) := by
  show some (D.tup (DL.cutD ds none (some (p : Int)))) = _
  rw [cut_to' ds hp]
theorem slT_from (ds : List D) {p : Nat} (hp : p ≤ ds.length) : slD (.tup ds) (some (p : Int)) none = some (.tup (ds.drop p)) := by
  show some (D.tup (DL.cutD ds (some (p : Int)) none)) = _
  rw [cut_from' ds hp]
theorem addT {a b : List D} (h : a.length + b.length ≤ 10000) : addD (.tup a) (.tup b) = some (.tup (a ++ b)) := if_pos (by rw [sz]; omega)
theorem ix_some {l : List D} {i : Int} (h0 : 0 ≤ i) (h1 : i < (l.length : Int)) : ∃ d ∈ l, ixD (.lst l) (.int i) = some d := by
  obtain ⟨j, rfl⟩ : ∃ j : Nat, i = (j : Int) := ⟨i.toNat, by omega⟩
  have hj : j < l.length := by omega
  exact ⟨l[j], List.getElem_mem hj, atNat (List.getElem?_eq_getElem hj)⟩
theorem neT_nil {m h : Nat} {ds : List D} (j : J m h (.tup ds)) (hh : h ≤ 60) : neE (.tup ds) (.tup []) = some (.bl (!ds.isEmpty)) := by
  rw [neE_fit (j.fit (by omega)) fitT0]
  cases ds with
  | nil => rfl
  | cons d ds =>
    show some (D.bl (!PyData.eqv (.tuple (d.py :: D.pys ds)) (.tuple []))) = _
    simp [PyData.eqv, PyData.eqvAll]
theorem isi_l {m h : Nat} {d : D} (j : J m h d) (n : ∀ t, d ≠ .lst t) : isiD "list" d = some (.bl false) := by
  cases j with
  | non h => exact isi_non_list
  | bl h b => exact isi_bl_list b
  | int h i => exact isi_int_list i
  | str h s => exact isi_str_list _
  | tup h l a => exact isi_tup_list _
  | lst h l a => exact absurd rfl (n _)
abbrev spRes (m h : Nat) : Rv → Rho → Prop := fun v ρ => ∃ r, v = .da r ∧ J m h r ∧ ∃ (bs : List Int) (ρ' : Rho), ρ = .mu (.lst (bs.map D.int)) :: ρ' ∧ 1 ≤ ρ'.length
theorem spRes.mk {m h : Nat} {d : D} {bs : List Int} {a b c e : Sl} (j : J m h d) : spRes m h (.da d) [.mu (.lst (bs.map D.int)), a, b, c, e] := ⟨d, rfl, j, bs, _, rfl, by simp⟩
theorem okS (s : Str) (h : PyData.strOk s = true) (m h' : Nat) : J m (h' + 1) (.str s) := .str h' h
theorem spoilt : ∀ (n : Nat) {m h : Nat} {v : D} (bs : List Int), h ≤ n → J m h v → m ≤ 800 → h ≤ 50 → ∃ (r : D) (bs' : List Int), J (m + 1) (h + 2) r ∧ IsB (K01.f__law_spoilt n) (bagM bs) [v] r (bagM bs')
  | 0, m, h, v, bs, hn, j, _, _ => by
    exfalso
    cases j <;> omega
  | n + 1, m, h, v, bs, hn, j, hm, hh => by
    have five : PyData.strOk "5" = true := by decide +kernel
    have emp : PyData.strOk "" = true := by decide +kernel
    show ∃ (r : D) (bs' : List Int), J (m + 1) (h + 2) r ∧ IsB (defF 2 5 (K01.b__law_spoilt (K01.f__law_spoilt n))) (bagM bs) [v] r (bagM bs')
    refine bag_wpX (J (m + 1) (h + 2)) rfl ?_
    simp only [List.map_cons, List.map_nil, List.cons_append, List.nil_append, Nat.reduceSub, List.replicate]
    unfold K01.b__law_spoilt
    cases j with
    | @lst h ds l a =>
      have i1 := isi_lst_list ds
      have e1 : tupleD [.lst ds] = some (.tup ds) := rfl
      repeat array_get_dec
      exact spRes.mk (.tup _ (by omega) fun d hd => (a d hd).mono (by omega) (by omega))
    | non h =>
      have i1 := isi_non_list
      have i2 := isi_non_tuple
      have i3 := isi_non_int
      have t1 := drawTake bs (m := 7) (by omega)
      have b1 := takeV_b bs (m := 7) (by omega)
      obtain ⟨d, hd, e1⟩ := ix_some (l := [.str sText, .str sBlock, .str sBreak, .str sNext, .str sWhole, .non, .str ""]) (i := takeV bs 7) b1.1 b1.2
      repeat array_get_dec
      refine spRes.mk ?_
      simp only [List.mem_cons, List.not_mem_nil, or_false] at hd
      rcases hd with rfl | rfl | rfl | rfl | rfl | rfl | rfl
      · exact okS _ okText _ _
      · exact okS _ okBlock _ _
      · exact okS _ okBreak _ _
      · exact okS _ okNext _ _
      · exact okS _ okWhole _ _
      · exact .non _
      · exact okS _ emp _ _
    | @str h s so =>
      have i1 := isi_str_list s
      have i2 := isi_str_tuple s
      have i3 := isi_str_int s
      have t1 := drawTake bs (m := 7) (by omega)
      have b1 := takeV_b bs (m := 7) (by omega)
      obtain ⟨d, hd, e1⟩ := ix_some (l := [.str sText, .str sBlock, .str sBreak, .str sNext, .str sWhole, .non, .str ""]) (i := takeV bs 7) b1.1 b1.2
      repeat array_get_dec
      refine spRes.mk ?_
      simp only [List.mem_cons, List.not_mem_nil, or_false] at hd
      rcases hd with rfl | rfl | rfl | rfl | rfl | rfl | rfl
      · exact okS _ okText _ _
      · exact okS _ okBlock _ _
      · exact okS _ okBreak _ _
      · exact okS _ okNext _ _
      · exact okS _ okWhole _ _
      · exact .non _
      · exact okS _ emp _ _
    | int h i =>
      have i1 := isi_int_list i
      have i2 := isi_int_tuple i
      have i3 := isi_int_int i
      have t1 := drawTake bs (m := 7) (by omega)
      have b1 := takeV_b bs (m := 7) (by omega)
      have a1 : addBD (.int i) (.int 1) = some (.int (i + 1)) := rfl
      have a2 : subBD (.int i) (.int 1) = some (.int (i - 1)) := rfl
      have a3 : addBD (.int i) (.int 8) = some (.int (i + 8)) := rfl
      obtain ⟨d, hd, e1⟩ := ix_some (l := [.int (i + 1), .int (i - 1), .int (i + 8), .bl true, .non, .int 0, .str "5"]) (i := takeV bs 7) b1.1 b1.2
      repeat array_get_dec
      refine spRes.mk ?_
      simp only [List.mem_cons, List.not_mem_nil, or_false] at hd
      rcases hd with rfl | rfl | rfl | rfl | rfl | rfl | rfl
      · exact .int _ _
      · exact .int _ _
      · exact .int _ _
      · exact .bl _ _
      · exact .non _
      · exact .int _ _
      · exact okS _ five _ _
    | bl h b =>
      have i1 := isi_bl_list b
      have i2 := isi_bl_tuple b
      have i3 := isi_bl_int b
      have t1 := drawTake bs (m := 7) (by omega)
      have b1 := takeV_b bs (m := 7) (by omega)
      have a1 : addBD (.bl b) (.int 1) = some (.int (iB b + 1)) := rfl
      have a2 : subBD (.bl b) (.int 1) = some (.int (iB b - 1)) := rfl
      have a3 : addBD (.bl b) (.int 8) = some (.int (iB b + 8)) := rfl
      obtain ⟨d, hd, e1⟩ := ix_some (l := [.int (iB b + 1), .int (iB b - 1), .int (iB b + 8), .bl true, .non, .int 0, .str "5"]) (i := takeV bs 7) b1.1 b1.2
      repeat array_get_dec
      refine spRes.mk ?_
      simp only [List.mem_cons, List.not_mem_nil, or_false] at hd
      rcases hd with rfl | rfl | rfl | rfl | rfl | rfl | rfl
      · exact .int _ _
      · exact .int _ _
      · exact .int _ _
      · exact .bl _ _
      · exact .non _
      · exact .int _ _
      · exact okS _ five _ _
    | @tup h ds l a =>
      have jt : J m (h + 1) (.tup ds) := .tup h l a
      have i1 := isi_tup_list ds
      have i2 := isi_tup_tuple ds
      have ln := lenT ds
      have n0 := neT_nil jt (by omega)
      refine WS_cut (fun ρ => ρ = [.mu (bagM bs), .da (.tup ds), .un, .un, .un]) (by repeat array_get_dec) ?_
      rintro _ rfl
      refine WS_cut (fun ρ => ∃ bs : List Int, ρ = [.mu (bagM bs), .da (.tup ds), .un, .un, .un]) ?_ ?_
      · cases he : ds.isEmpty with
        | true =>
          rw [he] at n0
          repeat array_get_dec
          exact ⟨bs, rfl⟩
        | false =>
          rw [he] at n0
          have t1 := drawTake bs (m := 5) (by omega)
          have b1 := takeV_b bs (m := 5) (by omega)
          by_cases hg : 0 < takeV bs 5
          · have hg1 : decide (0 < takeV bs 5) = true := decide_eq_true hg
            have hl0 : 0 < ds.length := by
              cases ds with
              | nil => cases he
              | cons d ds => simp
            have t2 := drawTake bs.tail (m := (ds.length : Nat)) (by omega)
            have b2 := takeV_b bs.tail (m := (ds.length : Nat)) (by omega)
            obtain ⟨p, hp⟩ : ∃ p : Nat, takeV bs.tail (ds.length : Nat) = (p : Int) := ⟨(takeV bs.tail (ds.length : Nat)).toNat, by omega⟩
            rw [hp] at t2 b2
            have hpl : p < ds.length := by omega
            have x1 : ixD (.tup ds) (.int (p : Int)) = some ds[p] := atNat (List.getElem?_eq_getElem hpl)
            obtain ⟨r, bs', jr, hr⟩ := spoilt n (m := m) (h := h) (v := ds[p]) bs.tail.tail (by omega) (a _ (List.getElem_mem hpl)) hm (by omega)
            have s1 := slT_to ds (p := p) (by omega)
            have a1 : addBD (.int (p : Int)) (.int 1) = some (.int ((p + 1 : Nat) : Int)) := rfl
            have s2 := slT_from ds (p := p + 1) (by omega)
            have lt1 : (ds.take p).length = p := by rw [List.length_take]; omega
            have lt2 : (ds.drop (p + 1)).length = ds.length - (p + 1) := List.length_drop
            have a2 : addD (.tup (ds.take p)) (.tup [r]) = some (.tup (ds.take p ++ [r])) := addT (by rw [lt1]; simp; omega)
            have a3 : addD (.tup (ds.take p ++ [r])) (.tup (ds.drop (p + 1))) = some (.tup (ds.take p ++ [r] ++ ds.drop (p + 1))) := addT (by rw [List.length_append, lt1, lt2]; simp; omega)
            repeat array_get_dec
            refine spRes.mk (.tup _ (by rw [List.length_append, List.length_append, lt1, lt2]; simp; omega) fun d hd => ?_)
            rcases List.mem_append.mp hd with hd | hd
            · rcases List.mem_append.mp hd with hd | hd
              · exact (a d (List.mem_of_mem_take hd)).mono (by omega) (by omega)
              · rw [List.mem_singleton.mp hd]; exact jr
            · exact (a d (List.mem_of_mem_drop hd)).mono (by omega) (by omega)
          · have hg1 : decide (0 < takeV bs 5) = false := decide_eq_false hg
            repeat array_get_dec
            exact ⟨bs.tail, rfl⟩
      · rintro _ ⟨bs, rfl⟩
        have t1 := drawTake bs (m := 7) (by omega)
        have b1 := takeV_b bs (m := 7) (by omega)
        have t2 := drawTake bs.tail (m := 4) (by omega)
        have b2 := takeV_b bs.tail (m := 4) (by omega)
        obtain ⟨more, hmo, e1⟩ := ix_some (l := [.tup [.str sBreak], .str sNext, .str sWhole, .int 9]) (i := takeV bs.tail 4) b2.1 b2.2
        obtain ⟨p1, hp1⟩ := cut_fromN ds (some 1)
        obtain ⟨p2, hp2⟩ := cut_fromN ds (some (-1))
        have g1 : negD (.int 1) = some (.int (-1)) := rfl
        have s1 : slD (.tup ds) (some 1) none = some (.tup (ds.drop p1)) := by show some (D.tup (DL.cutD ds (some 1) none)) = _; rw [hp1]
        have s2 : slD (.tup ds) (some (-1)) none = some (.tup (ds.drop p2)) := by show some (D.tup (DL.cutD ds (some (-1)) none)) = _; rw [hp2]
        have hp3 : (ds.drop p2).length ≤ 1 := by
          rw [← hp2]
          unfold DL.cutD
          have e2 : HT.sIx ds.length ds.length none = ds.length := rfl
          have e3 : HT.sIx ds.length 0 (some (-1)) = ds.length - 1 := by
            show (if (-1 : Int) < 0 then ((-1 : Int) + (ds.length : Int)).toNat else min (-1 : Int).toNat ds.length) = _
            rw [if_pos (by omega)]
            omega
          rw [e2, e3, List.length_take, List.length_drop]
          omega
        have ld1 : (ds.drop p1).length ≤ ds.length := by rw [List.length_drop]; omega
        have a1 : addD (.tup ds) (.tup (ds.drop p2)) = some (.tup (ds ++ ds.drop p2)) := addT (by omega)
        have a2 : addD (.tup ds) (.tup [more]) = some (.tup (ds ++ [more])) := addT (by simp; omega)
        have r1 : revTD (.tup ds) = some (.tup ds.reverse) := rfl
        have l1 : listD [.tup ds] = some (.lst ds) := rfl
        obtain ⟨d, hd, e2⟩ := ix_some (l := [.lst ds, .tup (ds.drop p1), .tup (ds ++ ds.drop p2), .tup ds.reverse, .tup [], .tup (ds ++ [more]), .non]) (i := takeV bs 7) b1.1 b1.2
        have up : ∀ d ∈ ds, J (m + 1) (h + 2) d := fun d hd => (a d hd).mono (by omega) (by omega)
        repeat array_get_dec
        refine spRes.mk ?_
        simp only [List.mem_cons, List.not_mem_nil, or_false] at hd
        rcases hd with rfl | rfl | rfl | rfl | rfl | rfl | rfl
        · exact .lst _ (by omega) up
        · exact .tup _ (by omega) fun d hd => up d (List.mem_of_mem_drop hd)
        · refine .tup _ (by rw [List.length_append]; omega) fun d hd => ?_
          rcases List.mem_append.mp hd with hd | hd
          · exact up d hd
          · exact up d (List.mem_of_mem_drop hd)
        · exact .tup _ (by rw [List.length_reverse]; omega) fun d hd => up d (List.mem_reverse.mp hd)
        · exact .tup _ (by simp) (by simp)
        · refine .tup _ (by rw [List.length_append]; simp; omega) fun d hd => ?_
          rcases List.mem_append.mp hd with hd | hd
          · exact up d hd
          · rw [List.mem_singleton.mp hd]
            simp only [List.mem_cons, List.not_mem_nil, or_false] at hmo
            rcases hmo with rfl | rfl | rfl | rfl
            · exact .tup _ (by simp) fun d hd => by rw [List.mem_singleton.mp hd]; exact okS _ okBreak _ _
            · exact okS _ okNext _ _
            · exact okS _ okWhole _ _
            · exact .int _ _
        · exact .non _
end MA

set_option maxHeartbeats 4000000
/-! Q01: law k01 on data. -/
namespace MA
open PySem PySem.Spec PyProof.Rows L2 DL PK
local macro_rules | `(tactic| array_mem_dec) => `(tactic| (simp only [List.set_cons_zero, List.set_cons_succ]; first | done | rfl))
local macro_rules | `(tactic| sizeOf_list_dec) => `(tactic| first | (with_reducible assumption) | exact rfl | assumption | exact Nat.le_of_ble_eq_true rfl | (rw [sz]; exact Nat.le_of_ble_eq_true rfl) | omega | (constructor <;> omega) | (refine ⟨⟨?_, ?_⟩, ?_, ?_⟩ <;> omega) | (refine ⟨⟨?_, ?_⟩, ⟨?_, ?_⟩, ?_⟩ <;> omega))
local macro_rules | `(tactic| array_get_dec) => `(tactic| first
  | ((with_reducible apply WE_var); exact rfl) | with_reducible refine WE_ret ?_ | ((with_reducible apply WS_hyp); (with_reducible assumption)) | with_reducible refine WS_seq ?_ | with_reducible refine WL_cons ?_ | with_reducible refine WL_nil ?_ | with_reducible refine WE_bin ?_
  | ((with_reducible apply OpK.mk); (with_reducible assumption)) | ((with_reducible apply OpK.mk); (simp only [eq_int, ne_int, allD_map, ix_kind, kind_break, kind_nbreak, kind_text, kind_block, isB_brk, isB_blk, isB_txt, isT_brk, isT_blk, isT_txt, isK_brk, isK_blk, isK_txt]; first | done | rfl)) | ((with_reducible apply OpK.mk); exact rfl) | ((with_reducible apply OpK.mk); (simp; rfl))
  | with_reducible refine WS_asg ?_ | with_reducible refine WG_name ?_ | with_reducible refine SetK.mk (by array_mem_dec) ?_
  | with_reducible refine WA_cons ?_ | with_reducible refine WA_nil ?_ | with_reducible refine callD_data1 ?_ | with_reducible refine ArK.a1 ?_ | with_reducible refine ArK.a2 ?_ | with_reducible refine ArK.a3 ?_ | with_reducible refine ArK.a4 ?_ | with_reducible refine ArK.a5 ?_ | with_reducible refine ArK.a0 ?_
  | ((with_reducible apply IsK.mk); (with_reducible assumption)) | ((with_reducible apply IsK.er); (with_reducible assumption))
  | with_reducible refine WS_if ?_ | with_reducible refine WB_tst ?_ | ((with_reducible apply BlK.mk); exact rfl) | with_reducible refine if_t rfl ?_ | with_reducible refine if_f rfl ?_ | with_reducible refine if_nt rfl ?_ | with_reducible refine if_nf rfl ?_ | ((with_reducible apply if_t); (with_reducible assumption)) | ((with_reducible apply if_f); (with_reducible assumption)) | ((with_reducible apply if_nt); (with_reducible assumption)) | ((with_reducible apply if_nf); (with_reducible assumption))
  | with_reducible refine WE_lst ?_ | with_reducible refine WE_tup ?_ | ((with_reducible refine And.intro ?_ ?_); (· sizeOf_list_dec)) | with_reducible refine WE_fun ?_ | with_reducible refine WS_ret ?_ | with_reducible refine WS_nx ?_
  | with_reducible refine WE_un ?_ | with_reducible refine WE_isi ?_ | with_reducible refine WE_and ?_ | with_reducible refine WE_or ?_ | with_reducible refine WE_not ?_ | with_reducible refine WE_if ?_ | with_reducible refine WE_mt1 ?_ | with_reducible refine WE_chain ?_ | with_reducible refine WE_sl ?_ | with_reducible refine WE_listRg ?_
  | with_reducible refine WO_no ?_ | with_reducible refine WO_some ?_ | ((with_reducible apply InK.mk); exact rfl) | ((with_reducible apply StK.mk); exact rfl) | ((with_reducible apply TuK.mk); exact rfl) | ((with_reducible apply LsK.mk); exact rfl) | ((with_reducible apply SqK.lst); exact rfl) | ((with_reducible apply SqK.tup); exact rfl)
  | with_reducible refine WB_yes ?_ | with_reducible refine WB_and ?_ | with_reducible refine WB_or ?_ | with_reducible refine WB_not ?_ | with_reducible refine WG_tup ?_ | with_reducible refine WG_lst ?_ | with_reducible refine WGs_nil ?_ | with_reducible refine WGs_cons ?_
  | with_reducible refine WS_drop ?_ | with_reducible refine WS_par ?_ | with_reducible refine WS_par3 ?_ | with_reducible refine WS_setF ?_ | with_reducible refine WS_raise ?_ | ((with_reducible apply WS_app); exact rfl) | ((with_reducible apply SlK.mk); exact rfl)
  | with_reducible refine WL_lst ?_ | with_reducible refine WL_cat ?_ | with_reducible refine WL_iterS ?_ | with_reducible refine WL_iterR1 ?_ | with_reducible refine WL_iterR2 ?_ | with_reducible refine WL_iterZ ?_ | with_reducible refine WL_iterE ?_
  | ((with_reducible apply WE_move); exact rfl; array_mem_dec) | ((with_reducible apply WL_move); exact rfl; array_mem_dec)
  | ((with_reducible apply WA_own); exact rfl) | with_reducible refine callD_bag1 ?_ | with_reducible refine callD_data0 ?_ | with_reducible refine ArB.a0 ?_ | with_reducible refine ArB.a1 ?_ | with_reducible refine ArB.a2 ?_ | with_reducible refine ArB.a3 ?_ | ((with_reducible apply BagK.mk); (with_reducible assumption))
  | with_reducible refine AppK.mk (by (try simp only [List.cons_append, List.nil_append]); first | done | rfl) ?_ | with_reducible refine WL_callN ?_ | ((with_reducible apply FrK.mk); (with_reducible assumption))
  | with_reducible refine WE_err (by simp only [DL.hide, List.map_cons, List.map_nil]; first | done | rfl) ?_
  | ((with_reducible apply P2K.mk); exact rfl) | ((with_reducible apply P3K.mk); exact rfl) | ((with_reducible apply I1K.mk); exact rfl) | ((with_reducible apply I2K.mk); exact rfl) | ((with_reducible apply ZiK.lst); exact rfl) | ((with_reducible apply ZiK.tup); exact rfl) | ((with_reducible apply E1K.mk); exact rfl) | ((with_reducible apply MoK.mk); exact rfl) | ((with_reducible apply Nat.le_of_ble_eq_true); exact rfl) | ((with_reducible apply Eq.symm); exact rfl) | (with_reducible refine fun (_ : _ = true) => ?_))
local macro_rules | `(tactic| clean_wf) => `(tactic| (refine is_wp rfl ?_; simp only [List.map_cons, List.map_nil, List.cons_append, List.nil_append, Nat.reduceSub, List.replicate]))
local macro_rules | `(tactic| simp_wf) => `(tactic| ((· (repeat array_get_dec)); (· exact rfl); (· (simp only [wipeR, List.set_cons_zero, List.set_cons_succ]; first | done | rfl)); (· (simp only [restR, List.set_cons_zero, List.set_cons_succ, List.getElem?_cons_zero, List.getElem?_cons_succ, Option.getD_some]; first | done | rfl))))
theorem truly01 (a : Bool) : Is f__law_truly [.bl a, .bl a] (.bl true) := by
  have e2 := isi_bl_bool a
  have e3 : eqE (.bl a) (.bl a) = some (.bl true) := (Enc.bl.eqE (by decide) a a).trans (by simp)
  clean_wf
  unfold b__law_truly
  repeat array_get_dec
theorem J_doc {d : List Pt} (v : Vd d) : J 12 4 (docD d) := by
  refine .tup 3 (by rw [List.length_map]; have := v.l8; omega) fun x hx => ?_
  obtain ⟨p, hp, rfl⟩ := List.mem_map.mp hx
  have mk : ∀ a b, J 12 2 (markD a b) := fun a b => by
    cases a <;> cases b <;> refine .tup 1 (by decide) fun y hy => ?_
    · cases hy
    · rw [List.mem_singleton.mp hy]; exact okS _ okWhole _ _
    · rw [List.mem_singleton.mp hy]; exact okS _ okNext _ _
    · rcases List.mem_cons.mp hy with rfl | hy
      · exact okS _ okNext _ _
      · rw [List.mem_singleton.mp hy]; exact okS _ okWhole _ _
  have ok := v.ok p hp
  cases p with
  | brk => exact .tup 2 (by decide) fun y hy => by rw [List.mem_singleton.mp hy]; exact okS _ okBreak _ _
  | blk n nx =>
    refine .tup 2 (by simp) fun y hy => ?_
    simp only [List.mem_cons, List.not_mem_nil, or_false] at hy
    rcases hy with rfl | rfl | rfl
    · exact okS _ okBlock _ _
    · exact .int _ _
    · exact mk _ _
  | txt ws nx wh =>
    refine .tup 2 (by simp) fun y hy => ?_
    simp only [List.mem_cons, List.not_mem_nil, or_false] at hy
    rcases hy with rfl | rfl | rfl
    · exact okS _ okText _ _
    · refine .tup 1 (by rw [List.length_map]; exact ok.2.1) fun z hz => ?_
      obtain ⟨w, _, rfl⟩ := List.mem_map.mp hz
      exact .int _ _
    · exact mk _ _
theorem ne_i2 (a b : Int) : neE (.lst [.int a, .int b]) (.lst [.int a, .int b]) = some (.bl false) := ne_intsS [a, b]
abbrev sEmp : Str := ""
theorem ne_emp : neE (.str sEmp) (.str sEmp) = some (.bl false) := by kernel_rfl
theorem ne_docw : neE (.str (xword .doc)) (.str "document value") = some (.bl false) := by kernel_rfl
theorem isNot_t : isNotE (.bl true) (.bl true) = some (.bl false) := rfl
/-! ### the last examples -/
abbrev r13 : D := .lst [.tup [.int 1, .int 1], .tup [.int 3, .int 3]]
structure RuX (x : D) : Prop where
  e : ∃ b, Is f_is_rules [x] (.bl b) ∧ ((inE x r13 = some (.bl false) ∧ b = false) ∨ (inE x r13 = some (.bl true) ∧ ∃ y, ixD x (.int 0) = some y ∧ isNotE y (.bl true) = some (.bl b)))
theorem RuX.f {x : D} (h1 : Is f_is_rules [x] (.bl false)) (h2 : inE x r13 = some (.bl false)) : RuX x := ⟨false, h1, .inl ⟨h2, rfl⟩⟩
theorem RuX.t {x y : D} {b : Bool} (h1 : Is f_is_rules [x] (.bl b)) (h2 : inE x r13 = some (.bl true)) (h3 : ixD x (.int 0) = some y) (h4 : isNotE y (.bl true) = some (.bl b)) : RuX x := ⟨b, h1, .inr ⟨h2, y, h3, h4⟩⟩
abbrev ruL : List D := [.tup [.int 1, .int 1], .tup [.int 3, .int 3], .tup [.int 0, .int 1], .tup [.int 4, .int 1], .tup [.int 1], .tup [.int 1, .int 1, .int 1], .lst [.int 1, .int 1], .tup [.bl true, .int 1], .tup [.int 1, .non], .non, .str "22"]
theorem ruX : ∀ x ∈ ruL, RuX x := by
  intro x hx
  simp only [ruL, List.mem_cons, List.not_mem_nil, or_false] at hx
  rcases hx with rfl | rfl | rfl | rfl | rfl | rfl | rfl | rfl | rfl | rfl | rfl
  · exact .t (y := .int 1) (b := true) (by unfold Is; kernel_rfl) (by kernel_rfl) (by kernel_rfl) (by kernel_rfl)
  · exact .t (y := .int 3) (b := true) (by unfold Is; kernel_rfl) (by kernel_rfl) (by kernel_rfl) (by kernel_rfl)
  · exact .f (by unfold Is; kernel_rfl) (by kernel_rfl)
  · exact .f (by unfold Is; kernel_rfl) (by kernel_rfl)
  · exact .f (by unfold Is; kernel_rfl) (by kernel_rfl)
  · exact .f (by unfold Is; kernel_rfl) (by kernel_rfl)
  · exact .f (by unfold Is; kernel_rfl) (by kernel_rfl)
  · exact .t (y := .bl true) (b := false) (by unfold Is; kernel_rfl) (by kernel_rfl) (by kernel_rfl) (by kernel_rfl)
  · exact .f (by unfold Is; kernel_rfl) (by kernel_rfl)
  · exact .f (by unfold Is; kernel_rfl) (by kernel_rfl)
  · exact .f (by unfold Is; kernel_rfl) (by kernel_rfl)
abbrev nines (n : Nat) : D := .tup (List.replicate n (D.int 9))
theorem mul9 {n : Nat} (h : 2 ≤ n ∧ n ≤ 1000) (x : D) : mulD (.tup [x]) (.int (n : Int)) = some (.tup (List.replicate n x)) := by
  show (if [x].isEmpty = false ∧ 2 ≤ (n : Int) ∧ (n : Int) ≤ 1000 ∧ [x].length ≤ 1000 then some (D.tup (List.replicate (n : Int).toNat [x]).flatten) else none) = _
  rw [if_pos ⟨rfl, by omega, by omega, by simp⟩]
  have : ∀ n : Nat, (List.replicate n [x]).flatten = List.replicate n x := fun n => by
    induction n with
    | zero => rfl
    | succ n ih => rw [List.replicate_succ, List.flatten_cons, ih]; rfl
  rw [this]
  rfl
abbrev longP : Pt := .txt (List.replicate 12 9) true true
abbrev longD : D := longP.d
theorem long_eq : longD = .tup [.str sText, nines 12, .tup [.str sNext, .str sWhole]] := rfl
theorem vd_rep {n : Nat} (h1 : 1 ≤ n) (h8 : n ≤ 8) : Vd (List.replicate n longP) := by
  refine ⟨by rw [List.length_replicate]; exact h1, by rw [List.length_replicate]; exact h8, fun p hp => ?_, longP, ?_, rfl⟩
  · rw [(List.mem_replicate.mp hp).2]
    refine ⟨by simp, by simp, fun w hw => ?_⟩
    rw [(List.mem_replicate.mp hw).2]
    omega
  · exact List.mem_replicate.mpr ⟨by omega, rfl⟩
theorem doc_rep (n : Nat) : docD (List.replicate n longP) = .tup (List.replicate n longD) := by unfold docD; rw [List.map_replicate]
theorem x1 : Is f_is_document [.tup (List.replicate 8 longD)] (.bl true) := by rw [← doc_rep]; exact is_document (vd_rep (by decide) (by decide))
theorem x2 : Is f_is_document [.tup (List.replicate 9 longD)] (.bl false) := by
  have j : J 12 4 (.tup (List.replicate 9 longD)) := by
    have := J_doc (vd_rep (n := 1) (by decide) (by decide))
    rw [doc_rep] at this
    refine .tup 3 (by simp) fun d hd => ?_
    rw [(List.mem_replicate.mp hd).2]
    cases this with
    | tup h l a => exact a longD (List.mem_replicate.mpr ⟨by decide, rfl⟩)
  have := doc_b j (by omega) (by omega)
  have e : gdB (.tup (List.replicate 9 longD)) = false := by
    show ((decide (1 ≤ (List.replicate 9 longD).length) && decide ((List.replicate 9 longD).length ≤ 8)) && ((List.replicate 9 longD).all gpB && !(List.replicate 9 longD).all fun d => PyData.eqv d.py (D.tup [.str sBreak]).py)) = false
    rw [List.length_replicate]
    rfl
  rw [e] at this
  exact this
theorem x3 : Is f_is_document [.tup [.tup [.str sText, nines 13, .tup []]]] (.bl false) := by unfold Is; kernel_rfl
theorem x4 : Is f_is_document [.tup (List.replicate 3 (.tup [.str sBreak]))] (.bl false) := by unfold Is; kernel_rfl
theorem x5 : Is f_is_document [.tup []] (.bl false) := by unfold Is; kernel_rfl
theorem x6 : Is f_is_document [.tup [.tup [.str sBreak], .tup [.str sBlock, .int 9, .tup [.str sNext]]]] (.bl true) := by unfold Is; kernel_rfl
theorem x7 : Is f_narrowest [.tup [longD]] (.int 9) := by
  have := narrowest (vd_rep (n := 1) (by decide) (by decide))
  rw [doc_rep] at this
  have e : least (List.replicate 1 longP) = 9 := by decide +kernel
  rw [e] at this
  exact this
theorem x8 : Is f_widest [.tup [longD]] (.int 119) := by
  have := widest_ (vd_rep (n := 1) (by decide) (by decide))
  rw [doc_rep] at this
  have e : widest (List.replicate 1 longP) = 119 := by decide +kernel
  rw [e] at this
  exact this
theorem end1 : eqE (.lst [.bl true, .bl false, .bl false, .bl false, .bl false, .bl true]) (.lst [.bl true, .bl false, .bl false, .bl false, .bl false, .bl true]) = some (.bl true) := by kernel_rfl
theorem end2 : eqE (.lst [.int 9, .int 119]) (.lst [.int 9, .int 119]) = some (.bl true) := by kernel_rfl
/-! ### the law -/
theorem law01 (ns : List Int) : Is K01.f_law [.scr ns] (.bl true) := by
  clean_wf
  unfold K01.b_law
  refine WS_seq ?_
  refine WS_for (fun i : Nat => D.int (0 + (i : Nat))) (List.range 8) (fun _ ρ => ∃ j1 j2 j3 j4 j5 j6, ρ = [.da (.scr ns), j1, j2, j3, j4, j5, j6, .un, .un]) ?_ ?_ ?_
  · repeat array_get_dec
    exact ⟨_, _, _, _, _, _, rfl⟩
  · rintro i x ρ hi ⟨j1, j2, j3, j4, j5, j6, rfl⟩
    obtain ⟨row, hb⟩ := drawBag ns x
    obtain ⟨d, b1, v, _, hd⟩ := drawDoc row (m := 6) (by omega) (by omega)
    have z0 : (0 : Int) + (x : Nat) = (x : Nat) := by omega
    rw [z0]
    have c1 := is_document v
    have c2 := isNot_t
    have c3 := narrowest v
    have c4 := widest_ v
    have c5 := law_low v
    have c6 := law_high v
    have c7 := ne_i2 (least d) (widest d)
    have jd := J_doc v
    repeat array_get_dec
    refine WS_for (fun i : Nat => D.int (0 + (i : Nat))) (List.range 18) (fun i ρ => ∃ (bs : List Int) (u : D) (j5 j6 : Sl), (i % 3 ≠ 0 → J (12 + i % 3) (4 + 2 * (i % 3)) u) ∧ ρ = [.da (.scr ns), .da (.int (x : Nat)), .mu (bagM bs), .da (docD d), .da u, j5, j6, .un, .un]) ?_ ?_ ?_
    · repeat array_get_dec
      exact ⟨b1, _, _, _, fun z => absurd rfl z, rfl⟩
    · rintro i t ρ hi ⟨bs, u, j5, j6, ju, rfl⟩
      obtain rfl : i = t := by
        have e := List.getElem?_eq_some_iff.mp hi
        obtain ⟨e1, e2⟩ := e
        rw [List.getElem_range] at e2
        exact e2
      have z0 : (0 : Int) + (i : Nat) = (i : Nat) := by omega
      rw [z0]
      have m1 := modD_pos (a := (i : Int)) (b := 3) (by omega)
      obtain ⟨a, ja, ha⟩ : ∃ a, J (12 + i % 3) (4 + 2 * (i % 3)) a ∧ a = if i % 3 = 0 then docD d else u := by
        by_cases h : i % 3 = 0
        · rw [if_pos h, h]; exact ⟨_, jd, rfl⟩
        · rw [if_neg h]; exact ⟨_, ju h, rfl⟩
      obtain ⟨r, bs', jr, hr⟩ := spoilt 12 bs (by omega) ja (by omega) (by omega)
      have q1 := doc_b jr (by omega) (by omega)
      have q2 := good_b jr (by omega) (by omega)
      have q3 := truly01 (gdB r)
      have rest : ∀ ρ, ρ = [.da (.scr ns), .da (.int (x : Nat)), .mu (bagM bs'), .da (docD d), .da r, .da (.int (i : Nat)), j6, .un, .un] → ∃ (bs : List Int) (u : D) (j5 j6' : Sl), ((i + 1) % 3 ≠ 0 → J (12 + (i + 1) % 3) (4 + 2 * ((i + 1) % 3)) u) ∧ ρ = [.da (.scr ns), .da (.int (x : Nat)), .mu (bagM bs), .da (docD d), .da u, j5, j6', .un, .un] := fun ρ e => by
        refine ⟨bs', r, _, j6, fun h => ?_, e⟩
        have e3 : (i + 1) % 3 = i % 3 + 1 := by omega
        rw [e3]
        exact jr.mono (by omega) (by omega)
      have jr' : (i + 1) % 3 ≠ 0 → J (12 + (i + 1) % 3) (4 + 2 * ((i + 1) % 3)) r := fun h => by
        have e3 : (i + 1) % 3 = i % 3 + 1 := by omega
        rw [e3]
        exact jr.mono (by omega) (by omega)
      have fin : ∀ w : Sl, ∃ (bs : List Int) (u : D) (j5 j6' : Sl), ((i + 1) % 3 ≠ 0 → J (12 + (i + 1) % 3) (4 + 2 * ((i + 1) % 3)) u) ∧ [Sl.da (.scr ns), .da (.int (x : Nat)), .mu (bagM bs'), .da (docD d), .da r, .da (.int (i : Nat)), w, .un, .un] = [.da (.scr ns), .da (.int (x : Nat)), .mu (bagM bs), .da (docD d), .da u, j5, j6', .un, .un] := fun w => ⟨bs', r, _, w, jr', rfl⟩
      clear rest
      have n1 := ne_emp
      have n2 := ne_docw
      cases hg : gdB r with
      | true =>
        obtain ⟨d', rfl, v'⟩ := gdB_inv hg
        have p1 := narrowest v'
        have p2 := widest_ v'
        rw [hg] at q1 q2 q3
        by_cases h : i % 3 = 0
        · have t1 : decide ((i : Int) % 3 = 0) = true := decide_eq_true (by omega)
          rw [if_pos h] at ha
          subst ha
          repeat array_get_dec
          exact fin _
        · have t1 : decide ((i : Int) % 3 = 0) = false := decide_eq_false (by omega)
          rw [if_neg h] at ha
          subst ha
          repeat array_get_dec
          exact fin _
      | false =>
        rw [hg] at q1 q2 q3
        have p0 := er_doc q1
        have p1 : Er f_narrowest [r] .doc := by
          (refine er_wp rfl ?_; simp only [List.map_cons, List.map_nil, List.cons_append, List.nil_append, Nat.reduceSub, List.replicate])
          unfold b_narrowest
          repeat array_get_dec
        have p2 : Er f_widest [r] .doc := by
          (refine er_wp rfl ?_; simp only [List.map_cons, List.map_nil, List.cons_append, List.nil_append, Nat.reduceSub, List.replicate])
          unfold b_widest
          repeat array_get_dec
        by_cases h : i % 3 = 0
        · have t1 : decide ((i : Int) % 3 = 0) = true := decide_eq_true (by omega)
          rw [if_pos h] at ha
          subst ha
          repeat array_get_dec
          exact fin _
        · have t1 : decide ((i : Int) % 3 = 0) = false := decide_eq_false (by omega)
          rw [if_neg h] at ha
          subst ha
          repeat array_get_dec
          exact fin _
    · rintro ρ ⟨bs, u, j5, j6, _, rfl⟩
      exact ⟨_, _, _, _, _, _, rfl⟩
  · rintro ρ ⟨j1, j2, j3, j4, j5, j6, rfl⟩
    refine WS_seq ?_
    refine WS_for (fun x : D => x) ruL (fun _ ρ => ∃ j4, ρ = [.da (.scr ns), j1, j2, j3, j4, j5, j6, .un, .un]) ?_ ?_ ?_
    · repeat array_get_dec
      exact ⟨_, rfl⟩
    · rintro i x ρ hi ⟨j4, rfl⟩
      obtain ⟨b, h1, h2⟩ := ruX x (List.mem_of_getElem? hi)
      have q3 := truly01 b
      rcases h2 with ⟨h2, rfl⟩ | ⟨h2, y, h3, h4⟩
      · repeat array_get_dec
        exact ⟨_, rfl⟩
      · repeat array_get_dec
        exact ⟨_, rfl⟩
    · rintro ρ ⟨j4, rfl⟩
      have m1 : mulD (.tup [.int 9]) (.int 12) = some (nines 12) := mul9 (n := 12) (by omega) _
      have m2 : mulD (.tup [.int 9]) (.int 13) = some (nines 13) := mul9 (n := 13) (by omega) _
      have m3 : mulD (.tup [.tup [.str sText, nines 12, .tup [.str sNext, .str sWhole]]]) (.int 8) = some (.tup (List.replicate 8 (.tup [.str sText, nines 12, .tup [.str sNext, .str sWhole]]))) := mul9 (n := 8) (by omega) _
      have m4 : mulD (.tup [.tup [.str sText, nines 12, .tup [.str sNext, .str sWhole]]]) (.int 9) = some (.tup (List.replicate 9 (.tup [.str sText, nines 12, .tup [.str sNext, .str sWhole]]))) := mul9 (n := 9) (by omega) _
      have m5 : mulD (.tup [.tup [.str sBreak]]) (.int 3) = some (.tup (List.replicate 3 (.tup [.str sBreak]))) := mul9 (n := 3) (by omega) _
      have y1 : Is f_is_document [.tup (List.replicate 8 (.tup [.str sText, nines 12, .tup [.str sNext, .str sWhole]]))] (.bl true) := x1
      have y2 : Is f_is_document [.tup (List.replicate 9 (.tup [.str sText, nines 12, .tup [.str sNext, .str sWhole]]))] (.bl false) := x2
      have y3 := x3
      have y4 := x4
      have y5 := x5
      have y6 := x6
      have y7 : Is f_narrowest [.tup [.tup [.str sText, nines 12, .tup [.str sNext, .str sWhole]]]] (.int 9) := x7
      have y8 : Is f_widest [.tup [.tup [.str sText, nines 12, .tup [.str sNext, .str sWhole]]]] (.int 119) := x8
      have e1 := end1
      have e2 := end2
      repeat array_get_dec
end MA
theorem PySem.Challenge.cw_anypages_k01_documents_and_rules_known_holds : PySem.Challenge.rw_anypages_k01_documents_and_rules_known.Holds :=
  K01.holds_of fun ns _ _ => ⟨_, MA.law01 ns⟩
