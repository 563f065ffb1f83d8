import PyProof.Rows.All
import Wide.All
import OpenK.AllK
import Wide.FinOn
import HandS.ForMost
import HandS.ForExc
import HandS.IsInst
import PyProof.Rows.SeqMore
import HandS.Defaults
import HandS.DictComp
import HandS.Small
import PySem.Challenge.RW_graft_k06_first_characters
set_option Elab.async false
set_option linter.all false
set_option autoImplicit false
set_option maxRecDepth 100000
set_option maxHeartbeats 4000000
/-! DL1: values by content. A tuple is its items; lists, dicts, instances stand at addresses. -/
namespace DL
open PySem PySem.Spec PyProof.Rows L2

/-- a value by content -/
inductive D where
  | non | bl (b : Bool) | int (i : Int) | str (s : Str) | tup (ds : List D) | rol (ds : List D) | ref (a : Addr) | ty (n : String)

/-- immutable things stay -/
structure TS (H H' : Hp) : Prop where
  tup : ∀ a xs, H a = some (.tup xs) → H' a = some (.tup xs)
  frz : ∀ a o u, H a = some (.frz o u) → H' a = some (.frz o u)
theorem TS.refl (H : Hp) : TS H H := ⟨fun _ _ h => h, fun _ _ _ h => h⟩
theorem TS.trans {H H1 H2 : Hp} (a : TS H H1) (b : TS H1 H2) : TS H H2 := ⟨fun c x h => b.tup _ _ (a.tup c x h), fun c o u h => b.frz _ _ _ (a.frz c o u h)⟩
theorem TS.new {H : Hp} {p : Addr} {o : HO} (h : H p = none) : TS H (upd H p o) :=
  ⟨fun a xs q => by rw [upd_ne (ne_of_none q h)]; exact q, fun a o u q => by rw [upd_ne (ne_of_none q h)]; exact q⟩
theorem TS.put {H : Hp} {p : Addr} {o o' : HO} (h : H p = some o) (n1 : ∀ xs, o ≠ .tup xs) (n2 : ∀ b u, o ≠ .frz b u) : TS H (upd H p o') :=
  ⟨fun a xs q => by rw [upd_ne (ne_of q h (n1 xs).symm)]; exact q, fun a b u q => by rw [upd_ne (ne_of q h (n2 b u).symm)]; exact q⟩
theorem TS.seqT {K : PySem.W.Frag} {H H' : Hp} {a : Addr} {xs : List V} (e : TS H H') (h : SqT K H a xs) : SqT K H' a xs := by
  rcases h with (h | ⟨o, h⟩) | h
  · exact .inl (.inl (e.tup _ _ h))
  · exact .inl (.inr ⟨o, e.frz _ _ _ h⟩)
  · exact .inr h
mutual
inductive Rp (K : PySem.W.Frag) (H : Hp) : V → D → Prop
  | non : Rp K H .non .non
  | bl (b : Bool) : Rp K H (.bl b) (.bl b)
  | int (i : Int) : Rp K H (.int i) (.int i)
  | str (x : Str) : Rp K H (.str x) (.str x)
  | ref (a : Addr) : Rp K H (.ref a) (.ref a)
  | ty (n : String) : Rp K H (.ty n) (.ty n)
  | tup {a : Addr} {xs : List V} {ds : List D} : SqT K H a xs → RpA K H xs ds → Rp K H (.ref a) (.tup ds)
  | rol {a : Addr} {xs : List V} {ds : List D} : (∀ H' : Hp, TS H H' → SqL K H' a xs) → RpA K H xs ds → Rp K H (.ref a) (.rol ds)
inductive RpA (K : PySem.W.Frag) (H : Hp) : List V → List D → Prop
  | nil : RpA K H [] []
  | cons {v : V} {vs : List V} {d : D} {ds : List D} : Rp K H v d → RpA K H vs ds → RpA K H (v :: vs) (d :: ds)
end

/-- an object by content -/
inductive DO where
  | lst (ds : List D)
  | dK (kvs : List (Key × D))
  | dT (kvs : List (List Key × D))
  | ins (C : Addr) (fs : List (Str × D))
  | xd (fs : List (Str × D))

abbrev Gp := Addr → Option DO
def gup (G : Gp) (a : Addr) (o : DO) : Gp := fun b => if b = a then some o else G b
theorem gup_same {G : Gp} {a : Addr} {o : DO} : gup G a o a = some o := by unfold gup; rw [if_pos rfl]
theorem gup_ne {G : Gp} {a b : Addr} {o : DO} (h : b ≠ a) : gup G a o b = G b := by unfold gup; rw [if_neg h]
theorem gup_gup {G : Gp} {a : Addr} {o u : DO} : gup (gup G a o) a u = gup G a u := by
  funext b; unfold gup; split <;> rfl
theorem gne {G : Gp} {a b : Addr} {o : DO} (h : G a = some o) (h' : G b = none) : a ≠ b := by
  intro e; subst e; rw [h] at h'; cases h'

mutual
theorem Rp.mono {K : PySem.W.Frag} {H H' : Hp} (e : TS H H') : ∀ {v : V} {d : D}, Rp K H v d → Rp K H' v d
  | _, _, .non => .non
  | _, _, .bl b => .bl b
  | _, _, .int i => .int i
  | _, _, .str x => .str x
  | _, _, .ref a => .ref a
  | _, _, .ty n => .ty n
  | _, _, .tup h r => .tup (e.seqT h) (RpA.mono e r)
  | _, _, .rol h r => .rol (fun H2 e2 => h H2 (e.trans e2)) (RpA.mono e r)
theorem RpA.mono {K : PySem.W.Frag} {H H' : Hp} (e : TS H H') : ∀ {vs : List V} {ds : List D}, RpA K H vs ds → RpA K H' vs ds
  | _, _, .nil => .nil
  | _, _, .cons a b => .cons (Rp.mono e a) (RpA.mono e b)
end
theorem RpA.length {K : PySem.W.Frag} {H : Hp} : ∀ {vs : List V} {ds : List D}, RpA K H vs ds → vs.length = ds.length
  | _, _, .nil => rfl
  | _, _, .cons _ b => by rw [List.length_cons, List.length_cons, RpA.length b]
theorem RpA.get {K : PySem.W.Frag} {H : Hp} : ∀ {vs : List V} {ds : List D} {i : Nat} {d : D}, RpA K H vs ds → ds[i]? = some d → ∃ v, vs[i]? = some v ∧ Rp K H v d
  | _, _, _, _, .nil, e => by simp at e
  | _, _, 0, _, .cons a _, e => by simp at e; subst e; exact ⟨_, rfl, a⟩
  | _, _, i + 1, d, .cons _ b, e => by
    obtain ⟨v, h1, h2⟩ := RpA.get (i := i) (d := d) b (by simpa using e)
    exact ⟨v, by simpa using h1, h2⟩
theorem RpA.get' {K : PySem.W.Frag} {H : Hp} : ∀ {vs : List V} {ds : List D} {i : Nat} {v : V}, RpA K H vs ds → vs[i]? = some v → ∃ d, ds[i]? = some d ∧ Rp K H v d
  | _, _, _, _, .nil, e => by simp at e
  | _, _, 0, _, .cons a _, e => by simp at e; subst e; exact ⟨_, rfl, a⟩
  | _, _, i + 1, v, .cons _ b, e => by
    obtain ⟨d, h1, h2⟩ := RpA.get' (i := i) (v := v) b (by simpa using e)
    exact ⟨d, by simpa using h1, h2⟩
theorem RpA.append {K : PySem.W.Frag} {H : Hp} : ∀ {vs ws : List V} {ds es : List D}, RpA K H vs ds → RpA K H ws es → RpA K H (vs ++ ws) (ds ++ es)
  | _, _, _, _, .nil, s => s
  | _, _, _, _, .cons a b, s => .cons a (RpA.append b s)
theorem RpA.set {K : PySem.W.Frag} {H : Hp} {v : V} {d : D} (r : Rp K H v d) : ∀ {vs : List V} {ds : List D} (i : Nat), RpA K H vs ds → RpA K H (vs.set i v) (ds.set i d)
  | _, _, _, .nil => .nil
  | _, _, 0, .cons _ b => .cons r b
  | _, _, i + 1, .cons a b => .cons a (RpA.set r i b)
theorem RpA.take {K : PySem.W.Frag} {H : Hp} : ∀ {vs : List V} {ds : List D} (n : Nat), RpA K H vs ds → RpA K H (vs.take n) (ds.take n)
  | _, _, 0, _ => .nil
  | _, _, _ + 1, .nil => .nil
  | _, _, n + 1, .cons a b => .cons a (RpA.take n b)
theorem RpA.drop {K : PySem.W.Frag} {H : Hp} : ∀ {vs : List V} {ds : List D} (n : Nat), RpA K H vs ds → RpA K H (vs.drop n) (ds.drop n)
  | _, _, 0, r => r
  | _, _, _ + 1, .nil => .nil
  | _, _, n + 1, .cons _ b => RpA.drop n b

def PrD (K : PySem.W.Frag) (H : Hp) {κ : Type} : List (κ × V) → List (κ × D) → Prop := Paired fun p q => p.1 = q.1 ∧ Rp K H p.2 q.2
theorem PrD.mono {K : PySem.W.Frag} {H H' : Hp} (e : TS H H') {κ : Type} {xs : List (κ × V)} {ys : List (κ × D)} (h : PrD K H xs ys) : PrD K H' xs ys :=
  Paired.mapP h fun _ _ z => ⟨z.1, z.2.mono e⟩

def OkO (K : PySem.W.Frag) (H : Hp) (a : Addr) : DO → Prop
  | .lst ds => ∃ xs, H a = some (.lst xs) ∧ RpA K H xs ds
  | .dK kvs => ∃ ks, H a = some (.dK ks) ∧ PrD K H ks kvs
  | .dT kvs => ∃ ks, H a = some (.dT ks) ∧ PrD K H ks kvs
  | .ins C fs => ∃ dx gs, H a = some (.ins C dx gs) ∧ PrD K H gs fs
  | .xd fs => ∃ gs, H a = some (.xd gs) ∧ PrD K H gs fs
def HR (K : PySem.W.Frag) (H : Hp) (G : Gp) : Prop := ∀ a o, G a = some o → OkO K H a o
/-- a part of it -/
def Sub (G G' : Gp) : Prop := ∀ a o, G a = some o → G' a = some o
theorem Sub.refl (G : Gp) : Sub G G := fun _ _ h => h
theorem Sub.trans {G G1 G2 : Gp} (a : Sub G G1) (b : Sub G1 G2) : Sub G G2 := fun x o h => b x o (a x o h)
theorem Sub.new {G : Gp} {a : Addr} {o : DO} (h : G a = none) : Sub G (gup G a o) := fun b u q => by rw [gup_ne (gne q h)]; exact q
theorem HR.sub {K : PySem.W.Frag} {H : Hp} {G G' : Gp} (h : HR K H G') (s : Sub G G') : HR K H G := fun a o e => h a o (s a o e)
theorem OkO.there {K : PySem.W.Frag} {H : Hp} {a : Addr} {o : DO} (h : OkO K H a o) : ∃ u, H a = some u := by
  cases o with
  | lst _ => obtain ⟨_, e, _⟩ := h; exact ⟨_, e⟩
  | dK _ => obtain ⟨_, e, _⟩ := h; exact ⟨_, e⟩
  | dT _ => obtain ⟨_, e, _⟩ := h; exact ⟨_, e⟩
  | ins _ _ => obtain ⟨_, _, e, _⟩ := h; exact ⟨_, e⟩
  | xd _ => obtain ⟨_, e, _⟩ := h; exact ⟨_, e⟩
/-- an object keeps its description where its own entry stays -/
theorem OkO.keep {K : PySem.W.Frag} {H H' : Hp} {a : Addr} {o : DO} (h : OkO K H a o) (e : TS H H') (k : ∀ u, H a = some u → H' a = some u) : OkO K H' a o := by
  cases o with
  | lst _ => obtain ⟨xs, q, r⟩ := h; exact ⟨xs, k _ q, r.mono e⟩
  | dK _ => obtain ⟨xs, q, r⟩ := h; exact ⟨xs, k _ q, r.mono e⟩
  | dT _ => obtain ⟨xs, q, r⟩ := h; exact ⟨xs, k _ q, r.mono e⟩
  | ins _ _ => obtain ⟨dx, xs, q, r⟩ := h; exact ⟨dx, xs, k _ q, r.mono e⟩
  | xd _ => obtain ⟨xs, q, r⟩ := h; exact ⟨xs, k _ q, r.mono e⟩
/-- something new beside -/
theorem HR.new {K : PySem.W.Frag} {H : Hp} {G : Gp} {p : Addr} {o : HO} (h : HR K H G) (n : H p = none) : HR K (upd H p o) G := fun a u e =>
  (h a u e).keep (TS.new n) fun w q => by rw [upd_ne (ne_of_none q n)]; exact q
/-- something new, told -/
theorem HR.newG {K : PySem.W.Frag} {H : Hp} {G : Gp} {p : Addr} {o : HO} {u : DO} (h : HR K H G) (n : H p = none) (k : OkO K (upd H p o) p u) : HR K (upd H p o) (gup G p u) := fun a v e => by
  by_cases c : a = p
  · subst c; rw [gup_same] at e; cases e; exact k
  · rw [gup_ne c] at e; exact h.new n a v e
theorem HR.free {K : PySem.W.Frag} {H : Hp} {G : Gp} {p : Addr} (h : HR K H G) (n : H p = none) : G p = none := by
  cases e : G p with
  | none => rfl
  | some o =>
    obtain ⟨u, q⟩ := (h p o e).there
    rw [n] at q; cases q
/-- a changed object -/
theorem HR.put {K : PySem.W.Frag} {H : Hp} {G : Gp} {p : Addr} {o o' : HO} {u : DO} (h : HR K H G) (q : H p = some o) (n1 : ∀ xs, o ≠ .tup xs) (n2 : ∀ b u, o ≠ .frz b u) (k : OkO K (upd H p o') p u) : HR K (upd H p o') (gup G p u) := fun a v e => by
  by_cases c : a = p
  · subst c; rw [gup_same] at e; cases e; exact k
  · rw [gup_ne c] at e
    exact (h a v e).keep (TS.put q n1 n2) fun w r => by rw [upd_ne c]; exact r

/-! ### slots -/
abbrev Rho := List (Option D)
structure RS (K : PySem.W.Frag) (H : Hp) (σ : L2.St) (ρ : Rho) : Prop where
  len : σ.length = ρ.length
  get : ∀ (i : Nat) (d : D), ρ[i]? = some (some d) → ∃ v, σ[i]? = some (some v) ∧ Rp K H v d
theorem RS.mono {K : PySem.W.Frag} {H H' : Hp} {σ : L2.St} {ρ : Rho} (e : TS H H') (h : RS K H σ ρ) : RS K H' σ ρ :=
  ⟨h.len, fun i d q => let ⟨v, a, b⟩ := h.get i d q; ⟨v, a, b.mono e⟩⟩
theorem RS.set {K : PySem.W.Frag} {H : Hp} {σ : L2.St} {ρ : Rho} {v : V} {d : D} (h : RS K H σ ρ) (i : Nat) (r : Rp K H v d) : RS K H (σ.set i (some v)) (ρ.set i (some d)) := by
  refine ⟨by rw [List.length_set, List.length_set, h.len], fun j e q => ?_⟩
  by_cases c : i = j
  · subst c
    have hi : i < ρ.length := by
      have := (List.getElem?_eq_some_iff.mp q).1
      simpa using this
    rw [List.getElem?_set_self hi] at q
    cases q
    exact ⟨v, List.getElem?_set_self (by rw [h.len]; exact hi), r⟩
  · rw [List.getElem?_set_ne c] at q ⊢
    exact h.get j e q
def wipeD (ρ : Rho) : List Nat → Rho
  | [] => ρ
  | v :: vs => (wipeD ρ vs).set v none
theorem RS.unset {K : PySem.W.Frag} {H : Hp} {σ : L2.St} {ρ : Rho} (h : RS K H σ ρ) (i : Nat) : RS K H (σ.set i none) (ρ.set i none) := by
  refine ⟨by rw [List.length_set, List.length_set, h.len], fun j e q => ?_⟩
  by_cases c : i = j
  · subst c
    by_cases hi : i < ρ.length
    · rw [List.getElem?_set_self hi] at q; cases q
    · rw [List.getElem?_eq_none (by simpa using hi)] at q; cases q
  · rw [List.getElem?_set_ne c] at q ⊢
    exact h.get j e q
theorem RS.wipe {K : PySem.W.Frag} {H : Hp} {σ : L2.St} {ρ : Rho} (h : RS K H σ ρ) : ∀ vs : List Nat, RS K H (L2.wipe σ vs) (wipeD ρ vs)
  | [] => h
  | v :: vs => by unfold L2.wipe wipeD; exact (h.wipe vs).unset v
/-- forgetting slots -/
theorem RS.weak {K : PySem.W.Frag} {H : Hp} {σ : L2.St} {ρ ρ' : Rho} (h : RS K H σ ρ) (hl : ρ'.length = ρ.length) (w : ∀ (i : Nat) (d : D), ρ'[i]? = some (some d) → ρ[i]? = some (some d)) : RS K H σ ρ' :=
  ⟨h.len.trans hl.symm, fun i d q => h.get i d (w i d q)⟩
def dstart (N : List Str) (ds : List D) : Rho := ds.map some ++ List.replicate (N.length - ds.length) none
theorem RS.start {K : PySem.W.Frag} {H : Hp} {vs : List V} {ds : List D} (N : List Str) (h : RpA K H vs ds) : RS K H (L2.start N vs) (dstart N ds) := by
  unfold L2.start dstart
  refine ⟨by simp [h.length], fun i d q => ?_⟩
  by_cases hi : i < ds.length
  · rw [List.getElem?_append_left (by simpa using hi), List.getElem?_map] at q
    cases e : ds[i]? with
    | none => rw [e] at q; cases q
    | some x =>
      rw [e] at q; cases q
      obtain ⟨v, h1, h2⟩ := h.get e
      exact ⟨v, by rw [List.getElem?_append_left (by rw [List.length_map, h.length]; exact hi), List.getElem?_map, h1]; rfl, h2⟩
  · rw [List.getElem?_append_right (by simpa using hi), List.getElem?_replicate] at q
    split at q <;> cases q

/-! ### the transformers by content, and what they are below -/
abbrev DK := D → Gp → Prop
abbrev DTE := Rho → Gp → DK → Prop
abbrev DTT := Rho → Gp → (Bool → Gp → Prop) → Prop
abbrev DTA := Rho → Gp → (List D → Gp → Prop) → Prop
/-- the wish of an exception: its class, its own dict's content -/
abbrev DX := Addr → List (Str × D) → Gp → Prop
structure DEnds where
  nx : Rho → Gp → Prop
  rt : DK
  bk : Rho → Gp → Prop := fun _ _ => False
  ct : Rho → Gp → Prop := fun _ _ => False
abbrev DTS := DEnds → Rho → Gp → Prop

def liftE (K : PySem.W.Frag) (t : DTE) : TE := fun σ H Q => ∃ ρ G Q', RS K H σ ρ ∧ HR K H G ∧ t ρ G Q' ∧ ∀ d G' v H', TS H H' → HR K H' G' → Rp K H' v d → Q' d G' → Q v H'
def liftT (K : PySem.W.Frag) (t : DTT) : TT := fun σ H Q => ∃ ρ G Q', RS K H σ ρ ∧ HR K H G ∧ t ρ G Q' ∧ ∀ b G' H', TS H H' → HR K H' G' → Q' b G' → Q b H'
def liftA (K : PySem.W.Frag) (t : DTA) : TA := fun σ H Q => ∃ ρ G Q', RS K H σ ρ ∧ HR K H G ∧ t ρ G Q' ∧ ∀ ds G' vs H', TS H H' → HR K H' G' → RpA K H' vs ds → Q' ds G' → Q vs H'
/-- the ends below serve the ends by content -/
structure EndsUp (K : PySem.W.Frag) (H : Hp) (E : DEnds) (F : Ends) : Prop where
  nx : ∀ ρ G σ H', TS H H' → RS K H' σ ρ → HR K H' G → E.nx ρ G → F.nx σ H'
  rt : ∀ d G v H', TS H H' → Rp K H' v d → HR K H' G → E.rt d G → F.rt v H'
  bk : ∀ ρ G σ H', TS H H' → RS K H' σ ρ → HR K H' G → E.bk ρ G → F.bk σ H'
  ct : ∀ ρ G σ H', TS H H' → RS K H' σ ρ → HR K H' G → E.ct ρ G → F.ct σ H'
theorem EndsUp.mono {K : PySem.W.Frag} {H H' : Hp} {E : DEnds} {F : Ends} (h : EndsUp K H E F) (e : TS H H') : EndsUp K H' E F :=
  ⟨fun ρ G σ H2 t => h.nx ρ G σ H2 (e.trans t), fun d G v H2 t => h.rt d G v H2 (e.trans t), fun ρ G σ H2 t => h.bk ρ G σ H2 (e.trans t), fun ρ G σ H2 t => h.ct ρ G σ H2 (e.trans t)⟩
def liftS (K : PySem.W.Frag) (t : DTS) : L2.TS := fun F σ H => ∃ ρ G E, RS K H σ ρ ∧ HR K H G ∧ t E ρ G ∧ EndsUp K H E F
end DL

/-! DL2: two rules of tuples that the layer lacks (an empty left side, the whole slice), the room of deep calls. -/
namespace DL
open PySem PySem.Spec PyProof.Rows L2
section
variable {X : Cx}
/-- () + t is t itself -/
def rCat0 (K : PySem.W.Frag) : R2 := fun x y H Q => ∃ a b ys, x = .ref a ∧ y = .ref b ∧ SqT K H a [] ∧ SqT K H b ys ∧ Q (.ref b) H
theorem op_cat0 : OpR X (binaryOp .Add) (rCat0 X.K) := by
  intro pins s σ H x y v u Q I rx ry h
  obtain ⟨a, b, ys, rfl, rfl, ha, hb, q⟩ := h
  cases rx
  cases ry
  obtain ⟨its, r1, p1, _⟩ := I.tuple ha
  obtain ⟨its2, r2, p2, _⟩ := I.tuple hb
  cases r1
  obtain ⟨⟨cls, dd, data, sl⟩, ho, hc, n, hd⟩ := id p1
  obtain ⟨⟨cls2, dd2, data2, sl2⟩, ho2, hc2, n2, hd2⟩ := id p2
  simp only at hc hd hc2 hd2
  subst hc hd hc2 hd2
  exact concat_meets ⟨_, ho, rfl⟩ ⟨_, ho2, rfl⟩ noFill_tuple_add seq_tuple_add PySem.F.slot_tuple_add PySem.F.entry_tuple_add (PySem.F.args_tuple_add_2 _ _)
    (tuple_addW0 a b _ its2.toArray n n2 dd dd2 sl sl2 (by simp)) ⟨ho, ho2, ⟨.ref b, H, I, rfl, q⟩⟩
end
end DL
namespace HT
open PySem PySem.Spec PyProof.Rows L2
section
variable {prog : Program} {w : World} {A : Around} {E : Value → Shared → Prop} {s : Shared}
theorem getItem_tuple_whole {t sl : Addr} {items : Array Value} {vl vu : Value} {lo hi : Option Int} {Q : Value → Shared → Prop} (ht : IsTup s.heap t items) (hs : s.heap.IsSliceOf sl vl vu .none) (pl : IsPart vl lo) (pu : IsPart vu hi)
    (hw : sIx items.size 0 lo = 0 ∧ sIx items.size items.size hi = items.size) (h : Q (.ref t) s) : wpAny (model prog w) A (getItem (.ref t) (.ref sl)) Q E s := by
  have hj : sIx items.size items.size hi ≤ items.size := sIx_le _ _ (Nat.le_refl _) hi
  obtain ⟨os, hos, hcs, hds⟩ := id hs
  have hTs : s.TypeIs (.ref sl) "slice" := ⟨os, hos, hcs⟩
  unfold getItem
  try with_reducible refine wpAny_holding ?_
  first | refine wpAny_bind (wpAny_pure ?_) | skip
  refine wpAny_bind (wpAny_sequenceKey ht.typeIs (by decide) ?_)
  refine wpAny_bind (wpAny_callSpecial?_slot (name := Str.ofString "__getitem__") ht.typeIs PyProof.Rows.slot_tuple_getitem
    (wpAny_call_entry PyProof.Rows.slot_tuple_getitem ht.typeIs entry_tuple_getitem ?_ (args_tuple_getitem _ _)))
  show wpAny _ _ (Builtin.Tuple.tupleItemsOf (.ref t) >>= _) _ _ s
  refine wpAny_bind (tupleItemsOf_ ht ?_)
  refine wpAny_bind (wpAny_typeOf hTs ?_)
  rw [if_pos (by decide)]
  refine wpAny_bind (sliceApplied_gen hs pl pu ?_)
  have hno : ((((sIx items.size 0 lo : Nat) : Int) == 0 && (1 : Int) == 1 && (sIx items.size items.size hi - sIx items.size 0 lo) == items.size) = true) := by
    rw [hw.1, hw.2]; simp
  show wpAny _ _ (if (((sIx items.size 0 lo : Nat) : Int) == 0 && (1 : Int) == 1 && (sIx items.size items.size hi - sIx items.size 0 lo) == items.size) = true then _ else _) _ _ s
  rw [if_pos hno]
  obtain ⟨⟨cls, dd, data, slt⟩, ho, hc, n, hd⟩ := id ht
  simp only at hc hd
  subst hc hd
  unfold Builtin.Tuple.tupleIsExact
  repeat (first | exact ⟨_, rfl, wpAny_pure h⟩ | exact h | with_reducible refine wpAny_load ho ?_ | with_reducible refine wpAny_loadPart_at ho ?_ | wp_step | dsimp only)
end
end HT

/-! DL3: expressions and plain statements by content. -/
namespace DL
open PySem PySem.Spec PyProof.Rows L2
section
variable {X : Cx}
/-- t[:] is t itself -/
def rSlTW (K : PySem.W.Frag) : V → Option Int → Option Int → Hp → VK → Prop := fun x lo hi H Q => ∃ a xs, x = .ref a ∧ SqT K H a xs ∧
  (HT.sIx xs.length 0 lo = 0 ∧ HT.sIx xs.length xs.length hi = xs.length) ∧ Q (.ref a) H
theorem sl_tupW : SlR X (rSlTW X.K) := by
  intro pins s σ H x v vl vu lo hi sl Q I rx hs pl pu h
  obtain ⟨a, xs, rfl, hx, hw, q⟩ := h
  cases rx
  obtain ⟨its, r, ht, hz⟩ := I.tuple hx
  have hlen : its.toArray.size = xs.length := by rw [List.size_toArray]; exact r.length.symm
  refine ⟨"tuple", _, PyProof.Rows.slot_tuple_getitem.lookup, ht.typeIs, ?_⟩
  exact HT.getItem_tuple_whole ht hs pl pu (by rw [hlen]; exact hw) ⟨.ref a, H, I, rfl, q⟩
theorem pe_weak {e : Expr} {t t' : TE} (h : PE X e t) (w : ∀ σ H Q, t' σ H Q → t σ H Q) : PE X e t' := ⟨fun pins s σ H Q I q => h.run pins s σ H Q I (w _ _ _ q)⟩
theorem pt_weak {e : Expr} {t t' : TT} (h : PT X e t) (w : ∀ σ H Q, t' σ H Q → t σ H Q) : PT X e t' := ⟨fun pins s σ H Q I q => h.run pins s σ H Q I (w _ _ _ q)⟩
theorem pw_weak {e : Expr} {t t' : TT} (h : PW X e t) (w : ∀ σ H Q, t' σ H Q → t σ H Q) : PW X e t' := ⟨fun wh pins s σ H Q I q => h.run wh pins s σ H Q I (w _ _ _ q)⟩
theorem pa_weak {es : List Expr} {t t' : TA} (h : PA X es t) (w : ∀ σ H Q, t' σ H Q → t σ H Q) : PA X es t' := ⟨fun p pins s σ H Q I q => h.run p pins s σ H Q I (w _ _ _ q)⟩
theorem ps_weak {st : Stmt} {t t' : L2.TS} (h : PS X st t) (w : ∀ D σ H, t' D σ H → t D σ H) : PS X st t' := ⟨fun pins s σ H D I q => h.run pins s σ H D I (w _ _ _ q)⟩
theorem pss_weak {st : List Stmt} {t t' : L2.TS} (h : PSs X st t) (w : ∀ D σ H, t' D σ H → t D σ H) : PSs X st t' := ⟨fun pins s σ H D I q => h.run pins s σ H D I (w _ _ _ q)⟩
end
abbrev DE (X : Cx) (e : Expr) (t : DTE) : Prop := PE X e (liftE X.K t)
abbrev DT (X : Cx) (e : Expr) (t : DTT) : Prop := PT X e (liftT X.K t)
abbrev DWh (X : Cx) (e : Expr) (t : DTT) : Prop := PW X e (liftT X.K t)
abbrev DA (X : Cx) (es : List Expr) (t : DTA) : Prop := PA X es (liftA X.K t)
abbrev DS (X : Cx) (st : Stmt) (t : DTS) : Prop := PS X st (liftS X.K t)
abbrev DSs (X : Cx) (st : List Stmt) (t : DTS) : Prop := PSs X st (liftS X.K t)

section
variable {K : PySem.W.Frag} {ρ : Rho} {G : Gp} {σ : L2.St} {H : Hp}
/-- a lifted reading, from a state told by content -/
theorem liftE.of {t : DTE} {Q : VK} {Q' : DK} (rs : RS K H σ ρ) (hr : HR K H G) (q : t ρ G Q') (k : ∀ d G' v H', TS H H' → HR K H' G' → Rp K H' v d → Q' d G' → Q v H') : liftE K t σ H Q := ⟨ρ, G, Q', rs, hr, q, k⟩
theorem liftA.of {t : DTA} {Q : List V → Hp → Prop} {Q' : List D → Gp → Prop} (rs : RS K H σ ρ) (hr : HR K H G) (q : t ρ G Q') (k : ∀ d G' v H', TS H H' → HR K H' G' → RpA K H' v d → Q' d G' → Q v H') : liftA K t σ H Q := ⟨ρ, G, Q', rs, hr, q, k⟩
theorem liftT.of {t : DTT} {Q : Bool → Hp → Prop} {Q' : Bool → Gp → Prop} (rs : RS K H σ ρ) (hr : HR K H G) (q : t ρ G Q') (k : ∀ b G' H', TS H H' → HR K H' G' → Q' b G' → Q b H') : liftT K t σ H Q := ⟨ρ, G, Q', rs, hr, q, k⟩
end

/-! ### names, constants -/
def dVar (i : Nat) : DTE := fun ρ G Q => ∃ d, ρ[i]? = some (some d) ∧ Q d G
def dC (d : D) : DTE := fun _ G Q => Q d G
section
variable {X : Cx} {pos : Pos}
theorem de_v (i : Nat) {x : Str} {pos : Pos} (hN : X.N[i]? = some x := by rfl) (hv : Vis X.env.scope x := by first | exact Or.inl rfl | exact Or.inr (Or.inl rfl) | exact Or.inr (Or.inr rfl)) (hd : (x == ("__debug__" : Str)) = false := by decide)
    (hcd : (x == ("__classdict__" : Str)) = false := by decide) : DE X (.Name x pos) (dVar i) := by
  refine pe_weak (pe_var hN hv hd hcd) fun σ H Q ⟨ρ, G, Q', rs, hr, ⟨d, e, q⟩, k⟩ => ?_
  obtain ⟨v, e1, r1⟩ := rs.get i d e
  exact ⟨v, e1, k d G v H (TS.refl H) hr r1 q⟩
theorem de_k {e : Expr} {v : V} {d : D} (h : PE X e (tC v)) (r : ∀ H : Hp, Rp X.K H v d) : DE X e (dC d) :=
  pe_weak h fun σ H Q ⟨ρ, G, Q', rs, hr, q, k⟩ => k d G v H (TS.refl H) hr (r H) q
theorem de_int {i : Int} {j pos} : DE X (.Constant (.int i) j pos) (dC (.int i)) := de_k pe_int fun _ => .int _
theorem de_bl {b : Bool} {j pos} : DE X (.Constant (.bool b) j pos) (dC (.bl b)) := de_k pe_bl fun _ => .bl _
theorem de_non {j pos} : DE X (.Constant .none j pos) (dC .non) := de_k pe_non fun _ => .non
theorem de_str {x : Str} {j pos} : DE X (.Constant (.str x) j pos) (dC (.str x)) := de_k pe_str fun _ => .str _
/-- a module's name: a constant, a def, a class -/
theorem de_glob {x : Str} {v : V} {d : D} {u : Value} {pos : Pos} (hg : Gl X x) (hm : X.mg x = some u) (r : RelV v u) (rp : ∀ H : Hp, Rp X.K H v d) (hd : (x == ("__debug__" : Str)) = false := by decide) : DE X (.Name x pos) (dC d) := de_k (pe_glob hg hm r hd) rp
theorem de_bltn {x : Str} {v : V} {d : D} {u : Value} {pos : Pos} (hg : Gl X x) (hm : X.mg x = none) (hv : bootBuiltins x = some u) (r : RelV v u) (rp : ∀ H : Hp, Rp X.K H v d) (hn : x ≠ "__name__" := by decide) (hd : (x == ("__debug__" : Str)) = false := by decide) : DE X (.Name x pos) (dC d) :=
  de_k (pe_bltn hg hm hv r hn hd) rp

/-! ### operators -/
abbrev DR2 := D → D → Gp → DK → Prop
def dOp (r : DR2) (ta tb : DTE) : DTE := fun ρ G Q => ta ρ G fun x G1 => tb ρ G1 fun y G2 => r x y G2 Q
/-- a reading of an operator by content, over one below -/
def R2Up (K : PySem.W.Frag) (r : R2) (r' : DR2) : Prop := ∀ (x y : V) (H : Hp) (Q : VK) (d e : D) (G : Gp) (Q' : DK), HR K H G → Rp K H x d → Rp K H y e → r' d e G Q' →
  (∀ z G' v H', TS H H' → HR K H' G' → Rp K H' v z → Q' z G' → Q v H') → r x y H Q
theorem lift_bin {K : PySem.W.Frag} {r : R2} {r' : DR2} (up : R2Up K r r') {ta tb : DTE} {σ : L2.St} {H : Hp} {Q : VK} (h : liftE K (dOp r' ta tb) σ H Q) : tOp r (liftE K ta) (liftE K tb) σ H Q := by
  obtain ⟨ρ, G, Q', rs, hr, q, k⟩ := h
  refine liftE.of rs hr q fun x G1 v H1 t1 hr1 r1 q1 => ?_
  refine liftE.of (rs.mono t1) hr1 q1 fun y G2 u H2 t2 hr2 r2 q2 => ?_
  exact up v u H2 Q x y G2 Q' hr2 (r1.mono t2) r2 q2 fun z G' v' H' t3 hr3 r3 q3 => k z G' v' H' ((t1.trans t2).trans t3) hr3 r3 q3
variable {a b : Expr} {ta tb : DTE}
theorem de_op {op : Operator} {r : R2} {r' : DR2} (ho : OpR X (binaryOp op) r) (up : R2Up X.K r r') (ha : DE X a ta) (hb : DE X b tb) : DE X (.BinOp a op b pos) (dOp r' ta tb) :=
  pe_weak (pe_op ho ha hb) fun _ _ _ h => lift_bin up h
theorem de_cmp {op : CmpOp} {r : R2} {r' : DR2} (ho : OpR X (compareOp op) r) (up : R2Up X.K r r') (ha : DE X a ta) (hb : DE X b tb) (hm : behindInMarks op b = false) : DE X (.Compare a [op] [b] pos) (dOp r' ta tb) :=
  pe_weak (pe_cmpR ho ha hb hm) fun _ _ _ h => lift_bin up h
/-- a value that is a bool, as a test -/
def dTest (t : DTE) : DTT := fun ρ G Q => t ρ G fun x G' => ∃ k, x = .bl k ∧ Q k G'
theorem lift_test {K : PySem.W.Frag} {t : DTE} {σ : L2.St} {H : Hp} {Q : Bool → Hp → Prop} (h : liftT K (dTest t) σ H Q) : tTest (liftE K t) σ H Q := by
  obtain ⟨ρ, G, Q', rs, hr, q, k⟩ := h
  refine liftE.of rs hr q fun x G1 v H1 t1 hr1 r1 ⟨c, e, q1⟩ => ?_
  subst e
  cases r1
  exact ⟨c, rfl, k c G1 H1 t1 hr1 q1⟩
theorem dt_cmp {op : CmpOp} {r : R2} {r' : DR2} (ho : OpR X (compareOp op) r) (up : R2Up X.K r r') (ha : DE X a ta) (hb : DE X b tb) (hm : behindInMarks op b = false) : DT X (.Compare a [op] [b] pos) (dTest (dOp r' ta tb)) := by
  refine pt_weak (pt_cmpR ho ha hb hm) fun σ H Q h => ?_
  obtain ⟨ρ, G, Q', rs, hr, q, k⟩ := lift_test h
  exact lift_bin up ⟨ρ, G, Q', rs, hr, q, k⟩
theorem dt_val {e : Expr} {t : DTE} (h : DE X e t) (he : ∀ whole, isTrue e X.env whole = (do let v ← whole; standAt e.pos; holding [v] (truthy v)) := by intro _; rfl) : DT X e (dTest t) :=
  pt_weak (pt_val h he) fun _ _ _ h => lift_test h
/-- the truth of any value -/
def truthD (G : Gp) : D → Option Bool
  | .non => some false
  | .bl b => some b
  | .int i => some (i != 0)
  | .str s => if s.length ≤ sizeLine then some (s.length != 0) else none
  | .tup ds => some (!ds.isEmpty)
  | .ref a => match G a with
    | some (.lst ds) => some (!ds.isEmpty)
    | _ => none
  | _ => none
def dTruth (t : DTE) : DTT := fun ρ G Q => t ρ G fun x G' => ∃ k, truthD G' x = some k ∧ Q k G'
theorem RpA.isEmpty {K : PySem.W.Frag} {H : Hp} {vs : List V} {ds : List D} (h : RpA K H vs ds) : vs.isEmpty = ds.isEmpty := by cases h <;> rfl
theorem truV_of {K : PySem.W.Frag} {H : Hp} {G : Gp} {v : V} {x : D} {k : Bool} (hr : HR K H G) (r : Rp K H v x) (e : truthD G x = some k) : TruV K v H k := by
  cases r with
  | non => cases e; rfl
  | bl b => cases e; rfl
  | int i => cases e; rfl
  | str s =>
    have e' : (if s.length ≤ sizeLine then some (s.length != 0) else none) = some k := e
    by_cases hs : s.length ≤ sizeLine
    · rw [if_pos hs] at e'; cases e'; exact ⟨hs, by generalize s.length = n; cases n <;> first | rfl | (simp [bne]; omega)⟩
    · rw [if_neg hs] at e'; cases e'
  | ty n => cases e
  | rol _ _ => cases e
  | tup h ra => cases e; exact .inr (.inl ⟨_, h, by rw [ra.isEmpty]⟩)
  | ref a =>
    unfold truthD at e
    cases g : G a with
    | none => simp [g] at e
    | some o =>
      cases o with
      | lst ds =>
        simp only [g, Option.some.injEq] at e
        subst e
        obtain ⟨xs, q, ra⟩ := hr a _ g
        exact .inl ⟨xs, SqL.of q, by rw [ra.isEmpty]⟩
      | dK _ => simp [g] at e
      | dT _ => simp [g] at e
      | ins _ _ => simp [g] at e
      | xd _ => simp [g] at e
theorem dt_truth {e : Expr} {t : DTE} (h : DE X e t) (he : ∀ whole, isTrue e X.env whole = (do let v ← whole; standAt e.pos; holding [v] (truthy v)) := by intro _; rfl) : DT X e (dTruth t) := by
  refine pt_weak (pt_truth h he) fun σ H Q ⟨ρ, G, Q', rs, hr, q, k⟩ => ?_
  refine liftE.of rs hr q fun x G1 v H1 t1 hr1 r1 ⟨c, e, q1⟩ => ?_
  exact ⟨c, truV_of hr1 r1 e, k c G1 H1 t1 hr1 q1⟩

/-! ### and, or, not -/
def dAnd (t u : DTT) : DTT := fun ρ G Q => t ρ G fun c G1 => if c = true then u ρ G1 Q else Q false G1
def dOr (t u : DTT) : DTT := fun ρ G Q => t ρ G fun c G1 => if c = true then Q true G1 else u ρ G1 Q
def dNot (t : DTT) : DTT := fun ρ G Q => t ρ G fun c G1 => Q (!c) G1
variable {tA tB' : DTT} {rest : List Expr}
theorem dw_and1 (ha : DT X a tA) : DWh X (.BoolOp .And [a] pos) tA := pw_and1 ha
theorem dw_or1 (ha : DT X a tA) : DWh X (.BoolOp .Or [a] pos) tA := pw_or1 ha
theorem dw_and (ha : DT X a tA) (hb : DWh X (.BoolOp .And (b :: rest) pos) tB') : DWh X (.BoolOp .And (a :: b :: rest) pos) (dAnd tA tB') := by
  refine pw_weak (pw_and ha hb) fun σ H Q ⟨ρ, G, Q', rs, hr, q, k⟩ => ?_
  refine liftT.of rs hr q fun c G1 H1 t1 hr1 q1 => ?_
  cases c with
  | true => rw [if_pos rfl] at q1 ⊢; exact liftT.of (rs.mono t1) hr1 q1 fun b' G' H' t' hr' q' => k b' G' H' (t1.trans t') hr' q'
  | false => rw [if_neg Bool.false_ne_true] at q1 ⊢; exact k false G1 H1 t1 hr1 q1
theorem dw_or (ha : DT X a tA) (hb : DWh X (.BoolOp .Or (b :: rest) pos) tB') : DWh X (.BoolOp .Or (a :: b :: rest) pos) (dOr tA tB') := by
  refine pw_weak (pw_or ha hb) fun σ H Q ⟨ρ, G, Q', rs, hr, q, k⟩ => ?_
  refine liftT.of rs hr q fun c G1 H1 t1 hr1 q1 => ?_
  cases c with
  | false => rw [if_neg Bool.false_ne_true] at q1 ⊢; exact liftT.of (rs.mono t1) hr1 q1 fun b' G' H' t' hr' q' => k b' G' H' (t1.trans t') hr' q'
  | true => rw [if_pos rfl] at q1 ⊢; exact k true G1 H1 t1 hr1 q1
theorem dt_w {e : Expr} {t : DTT} (h : DWh X e t) : DT X e t := PW.pt h
theorem dt_not (ha : DT X a tA) : DT X (.UnaryOp .Not a pos) (dNot tA) := by
  refine pt_weak (pt_not ha) fun σ H Q ⟨ρ, G, Q', rs, hr, q, k⟩ => ?_
  exact liftT.of rs hr q fun c G1 H1 t1 hr1 q1 => k (!c) G1 H1 t1 hr1 q1
/-- as values (bools) -/
def dAndV (ta tb : DTE) : DTE := fun ρ G Q => ta ρ G fun x G1 => ∃ c, x = .bl c ∧ if c = true then tb ρ G1 Q else Q (.bl false) G1
def dOrV (ta tb : DTE) : DTE := fun ρ G Q => ta ρ G fun x G1 => ∃ c, x = .bl c ∧ if c = true then Q (.bl true) G1 else tb ρ G1 Q
def dNotV (ta : DTE) : DTE := fun ρ G Q => ta ρ G fun x G1 => ∃ c, x = .bl c ∧ Q (.bl (!c)) G1
theorem de_one {op} {t : DTE} (h : DE X a t) : DE X (.BoolOp op [a] pos) t := pe_one h
theorem de_and (ha : DE X a ta) (hb : DE X (.BoolOp .And (b :: rest) pos) tb) : DE X (.BoolOp .And (a :: b :: rest) pos) (dAndV ta tb) := by
  refine pe_weak (pe_and ha hb) fun σ H Q ⟨ρ, G, Q', rs, hr, q, k⟩ => ?_
  refine liftE.of rs hr q fun x G1 v H1 t1 hr1 r1 ⟨c, e, q1⟩ => ?_
  subst e; cases r1
  refine ⟨c, rfl, ?_⟩
  cases c with
  | true => rw [if_pos rfl] at q1 ⊢; exact liftE.of (rs.mono t1) hr1 q1 fun b' G' v' H' t' hr' r' q' => k b' G' v' H' (t1.trans t') hr' r' q'
  | false => rw [if_neg Bool.false_ne_true] at q1 ⊢; exact k _ G1 _ H1 t1 hr1 (.bl _) q1
theorem de_or (ha : DE X a ta) (hb : DE X (.BoolOp .Or (b :: rest) pos) tb) : DE X (.BoolOp .Or (a :: b :: rest) pos) (dOrV ta tb) := by
  refine pe_weak (pe_or ha hb) fun σ H Q ⟨ρ, G, Q', rs, hr, q, k⟩ => ?_
  refine liftE.of rs hr q fun x G1 v H1 t1 hr1 r1 ⟨c, e, q1⟩ => ?_
  subst e; cases r1
  refine ⟨c, rfl, ?_⟩
  cases c with
  | false => rw [if_neg Bool.false_ne_true] at q1 ⊢; exact liftE.of (rs.mono t1) hr1 q1 fun b' G' v' H' t' hr' r' q' => k b' G' v' H' (t1.trans t') hr' r' q'
  | true => rw [if_pos rfl] at q1 ⊢; exact k _ G1 _ H1 t1 hr1 (.bl _) q1
theorem de_not (ha : DE X a ta) : DE X (.UnaryOp .Not a pos) (dNotV ta) := by
  refine pe_weak (pe_not ha) fun σ H Q ⟨ρ, G, Q', rs, hr, q, k⟩ => ?_
  refine liftE.of rs hr q fun x G1 v H1 t1 hr1 r1 ⟨c, e, q1⟩ => ?_
  subst e; cases r1
  exact ⟨c, rfl, k _ G1 _ H1 t1 hr1 (.bl _) q1⟩
def dIf (t : DTT) (ta tb : DTE) : DTE := fun ρ G Q => t ρ G fun c G1 => if c = true then ta ρ G1 Q else tb ρ G1 Q
theorem de_if {c : Expr} (hc : DT X c tA) (ha : DE X a ta) (hb : DE X b tb) : DE X (.IfExp c a b pos) (dIf tA ta tb) := by
  refine pe_weak (pe_ifExp hc ha hb) fun σ H Q ⟨ρ, G, Q', rs, hr, q, k⟩ => ?_
  refine liftT.of rs hr q fun c G1 H1 t1 hr1 q1 => ?_
  cases c with
  | true => rw [if_pos rfl] at q1 ⊢; exact liftE.of (rs.mono t1) hr1 q1 fun b' G' v' H' t' hr' r' q' => k b' G' v' H' (t1.trans t') hr' r' q'
  | false => rw [if_neg Bool.false_ne_true] at q1 ⊢; exact liftE.of (rs.mono t1) hr1 q1 fun b' G' v' H' t' hr' r' q' => k b' G' v' H' (t1.trans t') hr' r' q'

/-! ### arguments, displays -/
def dNil : DTA := fun _ G Q => Q [] G
def dCons (ta : DTE) (tr : DTA) : DTA := fun ρ G Q => ta ρ G fun x G1 => tr ρ G1 fun xs G2 => Q (x :: xs) G2
variable {e : Expr} {es : List Expr} {te : DTE} {t : DTA}
theorem da_nil : DA X [] dNil := pa_weak pa_nil fun σ H Q ⟨ρ, G, Q', rs, hr, q, k⟩ => k [] G [] H (TS.refl H) hr .nil q
theorem da_cons (ha : DE X e te) (hr : DA X es t) (hs : starEach (e :: es) X.env = (false, eval e X.env) :: starEach es X.env := by rfl) : DA X (e :: es) (dCons te t) := by
  refine pa_weak (pa_cons ha hr hs) fun σ H Q ⟨ρ, G, Q', rs, hr, q, k⟩ => ?_
  refine liftE.of rs hr q fun x G1 v H1 t1 hr1 r1 q1 => ?_
  refine liftA.of (rs.mono t1) hr1 q1 fun xs G2 vs H2 t2 hr2 r2 q2 => ?_
  exact k _ G2 _ H2 (t1.trans t2) hr2 (.cons (r1.mono t2) r2) q2
def dTup (t : DTA) : DTE := fun ρ G Q => t ρ G fun xs G1 => xs.length ≤ sizeLine ∧ Q (.tup xs) G1
def dLst (t : DTA) : DTE := fun ρ G Q => t ρ G fun xs G1 => xs.length ≤ sizeLine ∧ ∀ p, G1 p = none → Q (.ref p) (gup G1 p (.lst xs))
theorem de_tup {x1} (h : DA X es t) : DE X (.Tuple es x1 pos) (dTup t) := by
  refine pe_weak (pe_tup h) fun σ H Q ⟨ρ, G, Q', rs, hr, q, k⟩ => ?_
  refine liftA.of rs hr q fun xs G1 vs H1 t1 hr1 r1 ⟨z, q1⟩ => ⟨by rw [r1.length]; exact z, fun p hp => ?_⟩
  have tn := TS.new (o := HO.tup vs) hp
  exact k _ G1 _ _ (t1.trans tn) (hr1.new hp) (.tup (SqT.of upd_same) (r1.mono tn)) q1
theorem de_lst (h : DA X es t) : DE X (.List es pos) (dLst t) := by
  refine pe_weak (pe_lst h) fun σ H Q ⟨ρ, G, Q', rs, hr, q, k⟩ => ?_
  refine liftA.of rs hr q fun xs G1 vs H1 t1 hr1 r1 ⟨z, q1⟩ => ⟨by rw [r1.length]; exact z, fun p hp => ?_⟩
  have tn := TS.new (o := HO.lst vs) hp
  exact k _ _ _ _ (t1.trans tn) (hr1.newG (u := .lst xs) hp ⟨vs, upd_same, r1.mono tn⟩) (.ref p) (q1 p (hr1.free hp))

/-! ### blocks, statements -/
def dNext : DTS := fun D ρ G => D.nx ρ G
def dSeq (t u : DTS) : DTS := fun D ρ G => t { D with nx := u D } ρ G
variable {st : Stmt} {sts : List Stmt} {ts us : DTS}
theorem dss_nil : DSs X [] dNext := pss_weak pss_nil fun D σ H ⟨ρ, G, E, rs, hr, q, up⟩ => up.nx ρ G σ H (TS.refl H) rs hr q
theorem dss_cons (h1 : DS X st ts) (h2 : DSs X sts us) : DSs X (st :: sts) (dSeq ts us) := by
  refine pss_weak (pss_cons h1 h2) fun D σ H ⟨ρ, G, E, rs, hr, q, up⟩ => ?_
  exact ⟨ρ, G, _, rs, hr, q, ⟨fun ρ' G' σ' H' t' rs' hr' q' => ⟨ρ', G', E, rs', hr', q', up.mono t'⟩, up.rt, up.bk, up.ct⟩⟩
theorem dss_one (h1 : DS X st ts) : DSs X [st] ts := pss_one h1
def dBreak : DTS := fun D ρ G => D.bk ρ G
def dCont : DTS := fun D ρ G => D.ct ρ G
theorem ds_break : DS X (.Break pos) dBreak := ps_weak ps_break fun D σ H ⟨ρ, G, E, rs, hr, q, up⟩ => up.bk ρ G σ H (TS.refl H) rs hr q
theorem ds_cont : DS X (.Continue pos) dCont := ps_weak ps_continue fun D σ H ⟨ρ, G, E, rs, hr, q, up⟩ => up.ct ρ G σ H (TS.refl H) rs hr q
theorem ds_pass : DS X (.Pass pos) dNext := ps_weak ps_pass fun D σ H ⟨ρ, G, E, rs, hr, q, up⟩ => up.nx ρ G σ H (TS.refl H) rs hr q
theorem ds_doc {x : Str} {j pos pos'} : DS X (.Expr (.Constant (.str x) j pos) pos') dNext := ps_weak ps_doc fun D σ H ⟨ρ, G, E, rs, hr, q, up⟩ => up.nx ρ G σ H (TS.refl H) rs hr q
def dDrop (te : DTE) : DTS := fun D ρ G => te ρ G fun _ G1 => D.nx ρ G1
theorem ds_expr (he : DE X e te) (hs : swapsWith e none pos.line X.env = pure false := by rfl) : DS X (.Expr e pos) (dDrop te) := by
  refine ps_weak (ps_expr he hs) fun D σ H ⟨ρ, G, E, rs, hr, q, up⟩ => ?_
  exact liftE.of rs hr q fun d G' v H' t' hr' r' q' => up.nx ρ G' σ H' t' (rs.mono t') hr' q'
def dRet (te : DTE) : DTS := fun D ρ G => te ρ G D.rt
theorem ds_ret (he : DE X e te) : DS X (.Return (some e) pos) (dRet te) := by
  refine ps_weak (ps_ret he) fun D σ H ⟨ρ, G, E, rs, hr, q, up⟩ => ?_
  exact liftE.of rs hr q fun d G' v H' t' hr' r' q' => up.rt d G' v H' t' r' hr' q'
def dRetN : DTS := fun D _ G => D.rt .non G
theorem ds_retN : DS X (.Return none pos) dRetN := ps_weak ps_retN fun D σ H ⟨ρ, G, E, rs, hr, q, up⟩ => up.rt .non G .non H (TS.refl H) .non hr q
def dIfS (c : DTT) (t u : DTS) : DTS := fun D ρ G => c ρ G fun b G1 => if b = true then t D ρ G1 else u D ρ G1
theorem ds_if {c : Expr} {as bs : List Stmt} {tc : DTT} (hc : DT X c tc) (ha : DSs X as ts) (hb : DSs X bs us) : DS X (.If c as bs pos) (dIfS tc ts us) := by
  refine ps_weak (ps_if hc ha hb) fun D σ H ⟨ρ, G, E, rs, hr, q, up⟩ => ?_
  refine liftT.of rs hr q fun c G1 H1 t1 hr1 q1 => ?_
  cases c with
  | true => rw [if_pos rfl] at q1 ⊢; exact ⟨ρ, G1, E, rs.mono t1, hr1, q1, up.mono t1⟩
  | false => rw [if_neg Bool.false_ne_true] at q1 ⊢; exact ⟨ρ, G1, E, rs.mono t1, hr1, q1, up.mono t1⟩
def dNever : DTS := fun _ _ _ => False
theorem ds_never : DS X st dNever := ps_weak ps_never fun D σ H ⟨ρ, G, E, rs, hr, q, up⟩ => q
theorem dss_never : DSs X sts dNever := pss_weak pss_never fun D σ H ⟨ρ, G, E, rs, hr, q, up⟩ => q

/-! ### targets -/
abbrev DTG := D → Rho → Gp → (Rho → Gp → Prop) → Prop
abbrev DTGs := List D → Rho → Gp → (Rho → Gp → Prop) → Prop
def liftG (K : PySem.W.Frag) (g : DTG) : TG := fun v σ H Q => ∃ d ρ G Q', Rp K H v d ∧ RS K H σ ρ ∧ HR K H G ∧ g d ρ G Q' ∧ ∀ ρ' G' σ' H', TS H H' → RS K H' σ' ρ' → HR K H' G' → Q' ρ' G' → Q σ' H'
def liftGs (K : PySem.W.Frag) (g : DTGs) : TGs := fun vs σ H Q => ∃ ds ρ G Q', RpA K H vs ds ∧ RS K H σ ρ ∧ HR K H G ∧ g ds ρ G Q' ∧ ∀ ρ' G' σ' H', TS H H' → RS K H' σ' ρ' → HR K H' G' → Q' ρ' G' → Q σ' H'
abbrev DG (X : Cx) (tg : Expr) (g : DTG) : Prop := PG X tg (liftG X.K g)
abbrev DGs (X : Cx) (tg : List Expr) (g : DTGs) : Prop := PGs X tg (liftGs X.K g)
theorem pg_weak {tg : Expr} {g g' : TG} (h : PG X tg g) (w : ∀ v σ H Q, g' v σ H Q → g v σ H Q) : PG X tg g' := ⟨fun pins s σ H v u Q I r q => h.run pins s σ H v u Q I r (w _ _ _ _ q)⟩
theorem pgs_weak {tg : List Expr} {g g' : TGs} (h : PGs X tg g) (w : ∀ v σ H Q, g' v σ H Q → g v σ H Q) : PGs X tg g' := ⟨fun pins s σ H v u Q I r q => h.run pins s σ H v u Q I r (w _ _ _ _ q)⟩
def dgName (i : Nat) : DTG := fun v ρ G Q => Q (ρ.set i (some v)) G
theorem dg_name {i : Nat} {x : Str} (hN : X.N.Nodup) (hi : X.N[i]? = some x) (hx : Loc X.env.scope x) (hf : X.fn x = true ∨ X.env.scope.names.lookup x = some .local := by first | exact .inl rfl | exact .inr rfl | assumption) : DG X (.Name x pos) (dgName i) :=
  pg_weak (pg_name hN hi hx hf) fun v σ H Q ⟨d, ρ, G, Q', r, rs, hr, q, k⟩ => k _ G _ H (TS.refl H) (rs.set i r) hr q
def dgNil : DTGs := fun vs ρ G Q => vs = [] ∧ Q ρ G
def dgCons (t : DTG) (u : DTGs) : DTGs := fun vs ρ G Q => ∃ v r, vs = v :: r ∧ t v ρ G fun ρ' G' => u r ρ' G' Q
theorem dgs_nil : DGs X [] dgNil := pgs_weak pgs_nil fun v σ H Q ⟨d, ρ, G, Q', r, rs, hr, ⟨e, q⟩, k⟩ => by
  subst e; cases r
  exact ⟨rfl, k ρ G σ H (TS.refl H) rs hr q⟩
theorem dgs_cons {g : DTG} {gs : DTGs} (h1 : DG X e g) (h2 : DGs X es gs)
    (hs : (assignEach (e :: es) X.env).map (·.2) = assign e X.env :: (assignEach es X.env).map (·.2) := by rfl) : DGs X (e :: es) (dgCons g gs) := by
  refine pgs_weak (pgs_cons h1 h2 hs) fun v σ H Q ⟨d, ρ, G, Q', r, rs, hr, ⟨x, xs, e, q⟩, k⟩ => ?_
  subst e
  cases r with
  | cons r1 r2 =>
    refine ⟨_, _, rfl, x, ρ, G, _, r1, rs, hr, q, fun ρ' G' σ' H' t' rs' hr' q' => ?_⟩
    exact ⟨xs, ρ', G', Q', r2.mono t', rs', hr', q', fun ρ2 G2 σ2 H2 t2 => k ρ2 G2 σ2 H2 (t'.trans t2)⟩
def dgTup (n : Nat) (t : DTGs) : DTG := fun v ρ G Q => ∃ ds, v = .tup ds ∧ ds.length = n ∧ t ds ρ G Q
theorem dg_tup {k : Nat} {n : Nat} {gs : DTGs} (hc : X.calm = true) (h : DGs X es gs)
    (hn : (assignEach es X.env).length = n := by rfl) (hst : (assignEach es X.env).findIdx? (·.1) = none := by rfl) : DG X (.Tuple es k pos) (dgTup n gs) := by
  refine pg_weak (pg_tup hc h hn hst) fun v σ H Q ⟨d, ρ, G, Q', r, rs, hr, ⟨ds, e, l, q⟩, k⟩ => ?_
  subst e
  cases r with
  | tup hs ra => exact ⟨_, _, rfl, hs, by rw [ra.length]; exact l, ds, ρ, G, Q', ra, rs, hr, q, k⟩
def dAsg (te : DTE) (g : DTG) : DTS := fun D ρ G => te ρ G fun x G1 => g x ρ G1 D.nx
theorem ds_asg {tg : Expr} {g : DTG} (he : DE X e te) (hg : DG X tg g) (hs : swapsWithSole [tg] e pos.line X.env = pure false := by rfl) (hw : swappedStores [tg] e X.env = pure none := by rfl)
    (h1 : (assignEach [tg] X.env).map (·.2) = [assign tg X.env] := by rfl) : DS X (.Assign [tg] e pos) (dAsg te g) := by
  refine ps_weak (ps_asg he hg hs hw h1) fun D σ H ⟨ρ, G, E, rs, hr, q, up⟩ => ?_
  refine liftE.of rs hr q fun x G1 v H1 t1 hr1 r1 q1 => ?_
  exact ⟨x, ρ, G1, _, r1, rs.mono t1, hr1, q1, fun ρ' G' σ' H' t' rs' hr' q' => up.nx ρ' G' σ' H' (t1.trans t') rs' hr' q'⟩
theorem ds_set {i : Nat} {x : Str} {pos' : Pos} (hN : X.N.Nodup) (hi : X.N[i]? = some x) (hx : Loc X.env.scope x) (he : DE X e te) (hs : swapsWith e (some (.Name x pos')) pos.line X.env = pure false := by rfl) (hf : X.fn x = true ∨ X.env.scope.names.lookup x = some .local := by first | exact .inl rfl | exact .inr rfl | assumption) :
    DS X (.Assign [.Name x pos'] e pos) (dAsg te (dgName i)) := by
  refine ps_weak (ps_set hN hi hx he hs hf) fun D σ H ⟨ρ, G, E, rs, hr, q, up⟩ => ?_
  refine liftE.of rs hr q fun x G1 v H1 t1 hr1 r1 q1 => ?_
  exact up.nx _ G1 _ H1 t1 ((rs.mono t1).set i r1) hr1 q1
/-- a, b = x, y -/
def dPar (i j : Nat) (ta : DTA) : DTS := fun D ρ G => ta ρ G fun vs G1 => ∃ v w, vs = [v, w] ∧ D.nx ((ρ.set i (some v)).set j (some w)) G1
theorem ds_par {i j : Nat} {x y : Str} {ta : DTA} {px py pt : Pos} {kt k2 pt2} (hc : X.calm = true) (hN : X.N.Nodup) (hi : X.N[i]? = some x) (hj : X.N[j]? = some y) (hij : i ≠ j)
    (hx : X.env.scope.names.lookup x = some .local) (hy : X.env.scope.names.lookup y = some .local) (ha : DA X [a, b] ta)
    (hw : swappedStores [.Tuple [.Name x px, .Name y py] kt pt] (.Tuple [a, b] k2 pt2) X.env = pure (some [x, y]))
    (hs : swapsWithSole [.Tuple [.Name x px, .Name y py] kt pt] (.Tuple [a, b] k2 pt2) pos.line X.env = pure false := by rfl) :
    DS X (.Assign [.Tuple [.Name x px, .Name y py] kt pt] (.Tuple [a, b] k2 pt2) pos) (dPar i j ta) := by
  refine ps_weak (ps_par hc hN hi hj hij hx hy ha hw hs) fun D σ H ⟨ρ, G, E, rs, hr, q, up⟩ => ?_
  refine liftA.of rs hr q fun xs G1 vs H1 t1 hr1 r1 ⟨v, w, e, q1⟩ => ?_
  subst e
  cases r1 with
  | cons ra rb =>
    cases rb with
    | cons rc rd =>
      cases rd
      exact ⟨_, _, rfl, up.nx _ G1 _ H1 t1 (((rs.mono t1).set i ra).set j rc) hr1 q1⟩
end
end DL

/-! DL4: operators, subscripts, slices by content. -/
namespace DL
open PySem PySem.Spec PyProof.Rows L2

/-! ### data for == -/
mutual
def toP (g : Addr → Option (List PyData)) : D → Option PyData
  | .non => some .none
  | .bl b => some (.bool b)
  | .int i => some (.int i)
  | .str s => some (.str s)
  | .tup ds => (toPs g ds).map .tuple
  | .rol ds => (toPs g ds).map .list
  | .ref a => (g a).map .list
  | .ty _ => none
def toPs (g : Addr → Option (List PyData)) : List D → Option (List PyData)
  | [] => some []
  | d :: ds => (toP g d).bind fun p => (toPs g ds).map fun ps => p :: ps
end
def gl (G : Gp) : Addr → Option (List PyData) := fun a => match G a with
  | some (.lst ds) => toPs (fun _ => none) ds
  | _ => none
mutual
theorem dp_of {K : PySem.W.Frag} {H : Hp} {g : Addr → Option (List PyData)} (hg : ∀ a ps, g a = some ps → Dp K H (.ref a) (.list ps)) :
    ∀ (d : D) (v : V) (p : PyData), Rp K H v d → toP g d = some p → Dp K H v p
  | .non, _, _, r, e => by cases r; cases e; exact .non
  | .bl b, _, _, r, e => by cases r; cases e; exact .bl b
  | .int i, _, _, r, e => by cases r; cases e; exact .int i
  | .str s, _, _, r, e => by cases r; cases e; exact .str s
  | .ty _, _, _, r, e => by cases e
  | .ref a, _, _, r, e => by
    cases r
    simp only [toP, Option.map_eq_some_iff] at e
    obtain ⟨ps, e1, e2⟩ := e
    subst e2
    exact hg a ps e1
  | .tup ds, _, _, r, e => by
    simp only [toP, Option.map_eq_some_iff] at e
    obtain ⟨ps, e1, e2⟩ := e
    subst e2
    cases r with
    | tup h ra => exact .tup h (dps_of hg ds _ ps ra e1)
  | .rol ds, _, _, r, e => by
    simp only [toP, Option.map_eq_some_iff] at e
    obtain ⟨ps, e1, e2⟩ := e
    subst e2
    cases r with
    | rol h ra => exact .lst (h H (TS.refl H)) (dps_of hg ds _ ps ra e1)
theorem dps_of {K : PySem.W.Frag} {H : Hp} {g : Addr → Option (List PyData)} (hg : ∀ a ps, g a = some ps → Dp K H (.ref a) (.list ps)) :
    ∀ (ds : List D) (vs : List V) (ps : List PyData), RpA K H vs ds → toPs g ds = some ps → DpAll K H vs ps
  | [], _, _, r, e => by cases r; cases e; exact .nil
  | d :: ds, _, _, r, e => by
    cases r with
    | cons r1 r2 =>
      simp only [toPs, Option.bind_eq_some_iff, Option.map_eq_some_iff] at e
      obtain ⟨p, e1, ps, e2, e3⟩ := e
      subst e3
      exact .cons (dp_of hg d _ p r1 e1) (dps_of hg ds _ ps r2 e2)
end
theorem dp_gl {K : PySem.W.Frag} {H : Hp} {G : Gp} (hr : HR K H G) {d : D} {v : V} {p : PyData} (r : Rp K H v d) (e : toP (gl G) d = some p) : Dp K H v p := by
  refine dp_of (fun a ps q => ?_) d v p r e
  unfold gl at q
  cases g : G a with
  | none => rw [g] at q; cases q
  | some o =>
    rw [g] at q
    cases o with
    | lst ds =>
      obtain ⟨xs, q1, ra⟩ := hr a _ g
      exact .lst (SqL.of q1) (dps_of (g := fun _ => none) (fun _ _ z => nomatch z) ds xs ps ra q)
    | _ => cases q

/-! ### operators by value -/
section
variable {X : Cx} {K : PySem.W.Frag}
def rInt (g : Int → Int → D) : DR2 := fun x y G Q => ∃ i j, x = .int i ∧ y = .int j ∧ Q (g i j) G
def rIntC (C : Int → Int → Prop) (g : Int → Int → D) : DR2 := fun x y G Q => ∃ i j, x = .int i ∧ y = .int j ∧ C i j ∧ Q (g i j) G
def vOf : D → V
  | .non => .non | .bl b => .bl b | .int i => .int i | .str s => .str s | .ref a => .ref a | .ty n => .ty n | _ => .non
def flatD : D → Bool
  | .non | .bl _ | .int _ | .str _ => true
  | _ => false
theorem up_int {g : Int → Int → V} {g' : Int → Int → D} (h : ∀ (H : Hp) i j, Rp K H (g i j) (g' i j)) : R2Up K (rI0 g) (rInt g') := by
  rintro x y H Q d e G Q' hr rx ry ⟨i, j, rfl, rfl, q⟩ k
  cases rx; cases ry
  exact ⟨i, j, rfl, rfl, k _ G _ H (TS.refl H) hr (h H i j) q⟩
theorem up_intC {C : Int → Int → Prop} {g : Int → Int → V} {g' : Int → Int → D} (h : ∀ (H : Hp) i j, Rp K H (g i j) (g' i j)) : R2Up K (rI C g) (rIntC C g') := by
  rintro x y H Q d e G Q' hr rx ry ⟨i, j, rfl, rfl, c, q⟩ k
  cases rx; cases ry
  exact ⟨i, j, rfl, rfl, c, k _ G _ H (TS.refl H) hr (h H i j) q⟩
def rSub : DR2 := rInt fun i j => .int (i - j)
def rMul : DR2 := rIntC CMul fun i j => .int (i * j)
def rMod : DR2 := rIntC (fun _ j => 0 < j) fun i j => .int (i % j)
def rFdiv : DR2 := rIntC CDiv fun i j => .int (i / j)
theorem up_sub : R2Up K (rI0 fun i j => .int (i - j)) rSub := up_int fun _ _ _ => .int _
theorem up_mul : R2Up K (rI CMul fun i j => .int (i * j)) rMul := up_intC fun _ _ _ => .int _
theorem up_mod : R2Up K (rI (fun _ j => 0 < j) fun i j => .int (i % j)) rMod := up_intC fun _ _ _ => .int _
theorem up_fdiv : R2Up K (rI CDiv fun i j => .int (i / j)) rFdiv := up_intC fun _ _ _ => .int _
/-- + of ints, texts, tuples, lists -/
def rAdd : DR2 := fun x y G Q => match x, y with
  | .int i, .int j => Q (.int (i + j)) G
  | .str a, .str b => a.length + b.length ≤ sizeLine ∧ Q (.str (a ++ b)) G
  | .tup a, .tup b => a.length + b.length ≤ sizeLine ∧ Q (.tup (a ++ b)) G
  | .ref a, .ref b => ∃ xs ys, G a = some (.lst xs) ∧ G b = some (.lst ys) ∧ xs.length + ys.length ≤ sizeLine ∧ ∀ p, G p = none → Q (.ref p) (gup G p (.lst (xs ++ ys)))
  | _, _ => False
def vAdd (K : PySem.W.Frag) : R2 := fun x y H Q => (rI0 fun i j => .int (i + j)) x y H Q ∨ (∃ i j, x = .str i ∧ y = .str j ∧ i.length + j.length ≤ sizeLine ∧ Q (.str (i ++ j)) H) ∨ rCat0 K x y H Q ∨ rCatT K x y H Q ∨ rCat x y H Q
theorem op_addV : OpR X (binaryOp .Add) (vAdd X.K) := op_add.or (op_add_str.or (op_cat0.or (op_catT.or op_cat)))
theorem up_add : R2Up K (vAdd K) rAdd := by
  intro x y H Q d e G Q' hr rx ry q k
  unfold rAdd at q
  split at q
  · cases rx; cases ry
    exact .inl ⟨_, _, rfl, rfl, k _ G _ H (TS.refl H) hr (.int _) q⟩
  · cases rx; cases ry
    exact .inr (.inl ⟨_, _, rfl, rfl, q.1, k _ G _ H (TS.refl H) hr (.str _) q.2⟩)
  · rename_i as bs
    obtain ⟨z, q⟩ := q
    cases rx with
    | @tup a xs _ h1 r1 =>
      cases ry with
      | @tup b ys _ h2 r2 =>
        by_cases c : xs = []
        · subst c
          cases r1
          exact .inr (.inr (.inl ⟨a, b, ys, rfl, rfl, h1, h2, k _ G _ H (TS.refl H) hr (.tup h2 r2) q⟩))
        · refine .inr (.inr (.inr (.inl ⟨a, b, xs, ys, rfl, rfl, h1, h2, c, by rw [r1.length, r2.length]; exact z, fun e => ?_, fun _ p hp => ?_⟩)))
          · subst e
            cases r2
            rw [List.append_nil] at q
            exact k _ G _ H (TS.refl H) hr (.tup h1 r1) q
          · have tn := TS.new (o := HO.tup (xs ++ ys)) hp
            exact k _ G _ _ tn (hr.new hp) (.tup (SqT.of upd_same) ((r1.mono tn).append (r2.mono tn))) q
  · rename_i a b
    obtain ⟨xs, ys, g1, g2, z, q⟩ := q
    cases rx; cases ry
    obtain ⟨us, h1, r1⟩ := hr a _ g1
    obtain ⟨ws, h2, r2⟩ := hr b _ g2
    refine .inr (.inr (.inr (.inr ⟨a, b, us, ws, rfl, rfl, h1, h2, by rw [r1.length, r2.length]; exact z, fun p hp => ?_⟩)))
    have tn := TS.new (o := HO.lst (us ++ ws)) hp
    exact k _ _ _ _ tn (hr.newG (u := .lst (xs ++ ys)) hp ⟨_, upd_same, (r1.mono tn).append (r2.mono tn)⟩) (.ref p) (q p (hr.free hp))
  · exact q.elim

/-! ### comparisons -/
def rLt : DR2 := fun x y G Q => match x, y with
  | .int i, .int j => Q (.bl (decide (i < j))) G
  | .str a, .str b => Q (.bl (decide (a.cps.toList < b.cps.toList))) G
  | _, _ => False
def vLt : R2 := fun x y H Q => (rI0 fun i j => .bl (decide (i < j))) x y H Q ∨ ∃ i j, x = .str i ∧ y = .str j ∧ Q (.bl (decide (i.cps.toList < j.cps.toList))) H
theorem op_ltV : OpR X (compareOp .Lt) vLt := op_lt.or op_lt_str
theorem up_lt : R2Up K vLt rLt := by
  intro x y H Q d e G Q' hr rx ry q k
  unfold rLt at q
  split at q
  · cases rx; cases ry
    exact .inl ⟨_, _, rfl, rfl, k _ G _ H (TS.refl H) hr (.bl _) q⟩
  · cases rx; cases ry
    exact .inr ⟨_, _, rfl, rfl, k _ G _ H (TS.refl H) hr (.bl _) q⟩
  · exact q.elim
def rLe : DR2 := rInt fun i j => .bl (decide (i ≤ j))
def rGt : DR2 := rInt fun i j => .bl (decide (j < i))
def rGe : DR2 := rInt fun i j => .bl (decide (j ≤ i))
theorem up_le : R2Up K (rI0 fun i j => .bl (decide (i ≤ j))) rLe := up_int fun _ _ _ => .bl _
theorem up_gt : R2Up K (rI0 fun i j => .bl (decide (j < i))) rGt := up_int fun _ _ _ => .bl _
theorem up_ge : R2Up K (rI0 fun i j => .bl (decide (j ≤ i))) rGe := up_int fun _ _ _ => .bl _
/-- ==, as data -/
structure EqOk (G : Gp) (x y : D) (r : Bool) : Prop where
  ex : ∃ p q, toP (gl G) x = some p ∧ toP (gl G) y = some q ∧ p.canLay0 = true ∧ q.canLay0 = true ∧ min p.depth q.depth ≤ 1000 ∧ r = PyData.eqv p q
def EqScal (x y : D) (r : Bool) : Prop := flatD x = true ∧ flatD y = true ∧ scal (vOf x) (vOf y) = true ∧ r = decide (vOf x = vOf y)
def rEq : DR2 := fun x y G Q => ∃ r, (EqScal x y r ∨ EqOk G x y r) ∧ Q (.bl r) G
def rNe : DR2 := fun x y G Q => ∃ r, (EqScal x y r ∨ EqOk G x y r) ∧ Q (.bl (!r)) G
def vEq (K : PySem.W.Frag) : R2 := fun x y H Q => L2.rEq x y H Q ∨ ∃ p q, Dp K H x p ∧ Dp K H y q ∧ p.canLay0 = true ∧ q.canLay0 = true ∧ min p.depth q.depth ≤ 1000 ∧ Q (.bl (PyData.eqv p q)) H
def vNe (K : PySem.W.Frag) : R2 := fun x y H Q => L2.rNe x y H Q ∨ ∃ p q, Dp K H x p ∧ Dp K H y q ∧ p.canLay0 = true ∧ q.canLay0 = true ∧ min p.depth q.depth ≤ 1000 ∧ Q (.bl (!PyData.eqv p q)) H
theorem op_eqV (hu : X.A.units + 1001 < cLine) : OpR X (compareOp .Eq) (vEq X.K) := by
  refine op_eq.or ?_
  intro pins s σ H x y v u Q I rx ry h
  obtain ⟨d, e, hd, he, sd, se, z, q⟩ := h
  obtain ⟨as, r1⟩ := Dp.reads I d x v hd rx
  obtain ⟨bs, r2⟩ := Dp.reads I e y u he ry
  exact SeqAt.compareEq_reads r1 r2 sd se (by omega) ⟨.bl _, H, I, rfl, q⟩
theorem op_neV (hu : X.A.units + 1001 < cLine) : OpR X (compareOp .NotEq) (vNe X.K) := by
  refine op_ne.or ?_
  intro pins s σ H x y v u Q I rx ry h
  obtain ⟨d, e, hd, he, sd, se, z, q⟩ := h
  obtain ⟨as, r1⟩ := Dp.reads I d x v hd rx
  obtain ⟨bs, r2⟩ := Dp.reads I e y u he ry
  exact SeqAt.compareNe_reads r1 r2 sd se (by omega) ⟨.bl _, H, I, rfl, q⟩
theorem flat_v {H : Hp} {v : V} {x : D} (r : Rp K H v x) (f : flatD x = true) : v = vOf x := by
  cases r <;> first | rfl | cases f
theorem up_eq : R2Up K (vEq K) rEq := by
  intro x y H Q d e G Q' hr rx ry ⟨r, h, q⟩ k
  rcases h with ⟨f1, f2, sc, rfl⟩ | ⟨p, p', e1, e2, c1, c2, z, rfl⟩
  · have h1 := flat_v rx f1
    have h2 := flat_v ry f2
    subst h1 h2
    exact .inl ⟨sc, k _ G _ H (TS.refl H) hr (.bl _) q⟩
  · exact .inr ⟨p, p', dp_gl hr rx e1, dp_gl hr ry e2, c1, c2, z, k _ G _ H (TS.refl H) hr (.bl _) q⟩
theorem up_ne : R2Up K (vNe K) rNe := by
  intro x y H Q d e G Q' hr rx ry ⟨r, h, q⟩ k
  rcases h with ⟨f1, f2, sc, rfl⟩ | ⟨p, p', e1, e2, c1, c2, z, rfl⟩
  · have h1 := flat_v rx f1
    have h2 := flat_v ry f2
    subst h1 h2
    exact .inl ⟨sc, k _ G _ H (TS.refl H) hr (.bl _) q⟩
  · exact .inr ⟨p, p', dp_gl hr rx e1, dp_gl hr ry e2, c1, c2, z, k _ G _ H (TS.refl H) hr (.bl _) q⟩
/-- is None -/
def rIsN (neg : Bool) : DR2 := fun x y G Q => y = .non ∧ Q (.bl (match x with | .non => !neg | _ => neg)) G
theorem isn_v {H : Hp} {v : V} {x : D} (r : Rp K H v x) : decide (v = .non) = (match x with | .non => true | _ => false) := by
  cases r <;> rfl
theorem up_isN : R2Up K (fun x y H Q => y = .non ∧ Q (.bl (decide (x = .non))) H) (rIsN false) := by
  rintro x y H Q d e G Q' hr rx ry ⟨rfl, q⟩ k
  cases ry
  refine ⟨rfl, k _ G _ H (TS.refl H) hr (.bl _) ?_⟩
  rw [isn_v rx]
  cases d <;> exact q
theorem up_notN : R2Up K (fun x y H Q => y = .non ∧ Q (.bl (!decide (x = .non))) H) (rIsN true) := by
  rintro x y H Q d e G Q' hr rx ry ⟨rfl, q⟩ k
  cases ry
  refine ⟨rfl, k _ G _ H (TS.refl H) hr (.bl _) ?_⟩
  rw [isn_v rx]
  cases d <;> exact q
/-- x in a tuple or a list of flat things; a sign in a text -/
def itemsD (G : Gp) : D → Option (List D)
  | .tup ds => some ds
  | .rol ds => some ds
  | .ref a => match G a with
    | some (.lst ds) => some ds
    | _ => none
  | _ => none
def eqFlat (y x : D) : Bool := eqV (vOf y) (vOf x)
def inFlat (x : D) (xs : List D) : Bool := xs.any fun y => eqFlat y x
def rInSeq (neg : Bool) : DR2 := fun x y G Q => ∃ ds, itemsD G y = some ds ∧ flatD x = true ∧ ds.all flatD = true ∧ Q (.bl (if neg then !inFlat x ds else inFlat x ds)) G
theorem flat_all {H : Hp} : ∀ {vs : List V} {ds : List D}, RpA K H vs ds → ds.all flatD = true → vs = ds.map vOf ∧ vs.all flatV = true
  | _, _, .nil, _ => ⟨rfl, rfl⟩
  | _, _, .cons a b, f => by
    rw [List.all_cons, Bool.and_eq_true] at f
    obtain ⟨e1, e2⟩ := flat_all b f.2
    have e := flat_v a f.1
    rename_i v vs d ds
    have fv : flatV v = true := by cases a <;> first | rfl | exact absurd (show false = true from f.1) Bool.false_ne_true
    refine ⟨by rw [e, e1]; rfl, ?_⟩
    rw [List.all_cons, Bool.and_eq_true]
    exact ⟨fv, e2⟩
theorem items_seq {H : Hp} {G : Gp} {v : V} {y : D} {ds : List D} (hr : HR K H G) (r : Rp K H v y) (e : itemsD G y = some ds) : ∃ p xs, v = .ref p ∧ (SqL K H p xs ∨ SqT K H p xs) ∧ RpA K H xs ds := by
  cases r with
  | tup h ra => cases e; exact ⟨_, _, rfl, .inr h, ra⟩
  | rol h ra => cases e; exact ⟨_, _, rfl, .inl (h H (TS.refl H)), ra⟩
  | ref a =>
    unfold itemsD at e
    cases g : G a with
    | none => simp [g] at e
    | some o =>
      cases o with
      | lst ds' =>
        simp only [g, Option.some.injEq] at e
        subst e
        obtain ⟨xs, q, ra⟩ := hr a _ g
        exact ⟨a, xs, rfl, .inl (SqL.of q), ra⟩
      | _ => simp [g] at e
  | _ => cases e
theorem up_inSeq (neg : Bool) : R2Up K (rIn K neg) (rInSeq neg) := by
  intro x y H Q d e G Q' hr rx ry ⟨ds, e1, f1, f2, q⟩ k
  obtain ⟨p, xs, rfl, hs, ra⟩ := items_seq hr ry e1
  obtain ⟨ex, fx⟩ := flat_all ra f2
  have ed := flat_v rx f1
  have fv : flatV x = true := by
    cases rx <;> first | rfl | exact absurd (show false = true from f1) Bool.false_ne_true
  refine ⟨p, xs, rfl, hs, fv, fx, k _ G _ H (TS.refl H) hr (.bl _) ?_⟩
  have ei : inV x xs = inFlat d ds := by
    subst ex ed
    unfold inV inFlat eqFlat
    rw [List.any_map]
    rfl
  rw [ei]
  exact q
def rInStr (neg : Bool) : DR2 := fun x y G Q => ∃ (c : Nat) (z : Str), x = .str ⟨#[c]⟩ ∧ y = .str z ∧ Q (.bl (if neg then !decide (c ∈ z.cps.toList) else decide (c ∈ z.cps.toList))) G
theorem up_inStr : R2Up K (fun x y H Q => ∃ (c : Nat) (z : Str), x = .str ⟨#[c]⟩ ∧ y = .str z ∧ Q (.bl (decide (c ∈ z.cps.toList))) H) (rInStr false) := by
  rintro x y H Q d e G Q' hr rx ry ⟨c, z, rfl, rfl, q⟩ k
  cases rx; cases ry
  exact ⟨c, z, rfl, rfl, k _ G _ H (TS.refl H) hr (.bl _) q⟩
theorem up_notInStr : R2Up K (fun x y H Q => ∃ (c : Nat) (z : Str), x = .str ⟨#[c]⟩ ∧ y = .str z ∧ Q (.bl (!decide (c ∈ z.cps.toList))) H) (rInStr true) := by
  rintro x y H Q d e G Q' hr rx ry ⟨c, z, rfl, rfl, q⟩ k
  cases rx; cases ry
  exact ⟨c, z, rfl, rfl, k _ G _ H (TS.refl H) hr (.bl _) q⟩

/-! ### subscripts, slices -/
def rIxD : DR2 := fun x y G Q => ∃ i, y = .int i ∧ match x with
  | .str z => z.length ≤ sizeLine ∧ ∃ c, atI z.cps.toList i = some c ∧ Q (.str ⟨#[c]⟩) G
  | x => ∃ ds d, itemsD G x = some ds ∧ atI ds i = some d ∧ Q d G
theorem RpA.atI {H : Hp} {vs : List V} {ds : List D} {i : Int} {d : D} (r : RpA K H vs ds) (e : L2.atI ds i = some d) : ∃ v, L2.atI vs i = some v ∧ Rp K H v d := by
  unfold L2.atI at e ⊢
  rw [r.length]
  cases h : ixN ds.length i with
  | none => rw [h] at e; cases e
  | some j =>
    rw [h] at e
    exact r.get e
theorem up_ix : R2Up K (rIx K) rIxD := by
  rintro x y H Q d e G Q' hr rx ry ⟨i, rfl, q⟩ k
  cases ry
  have gen : (∃ ds d', itemsD G d = some ds ∧ L2.atI ds i = some d' ∧ Q' d' G) → rIx K x (.int i) H Q := by
    rintro ⟨ds, d', e1, e2, q⟩
    obtain ⟨p, xs, rfl, hs, ra⟩ := items_seq hr rx e1
    obtain ⟨v, h1, h2⟩ := ra.atI e2
    rcases hs with hs | hs
    · exact .inl ⟨p, xs, i, v, rfl, rfl, hs, h1, k _ G _ H (TS.refl H) hr h2 q⟩
    · exact .inr (.inl ⟨p, xs, i, v, rfl, rfl, hs, h1, k _ G _ H (TS.refl H) hr h2 q⟩)
  cases d with
  | str z =>
    obtain ⟨hz, c, e, q⟩ := q
    cases rx
    exact .inr (.inr ⟨z, i, c, rfl, rfl, hz, e, k _ G _ H (TS.refl H) hr (.str _) q⟩)
  | _ => exact gen q
variable {a b : Expr} {ta tb : DTE} {pos : Pos}
theorem de_ix (ha : DE X a ta) (hb : DE X b tb) (hs : PlainIx b) : DE X (.Subscript a b pos) (dOp rIxD ta tb) :=
  pe_weak (pe_ix ix_seq ha hb hs) fun _ _ _ h => lift_bin up_ix h

abbrev DTO := Rho → Gp → (Option Int → Gp → Prop) → Prop
def liftO (K : PySem.W.Frag) (t : DTO) : TO := fun σ H Q => ∃ ρ G Q', RS K H σ ρ ∧ HR K H G ∧ t ρ G Q' ∧ ∀ o G' H', TS H H' → HR K H' G' → Q' o G' → Q o H'
abbrev DO_ (X : Cx) (e : Option Expr) (t : DTO) : Prop := PO X e (liftO X.K t)
theorem po_weak {e : Option Expr} {t t' : TO} (h : PO X e t) (w : ∀ σ H Q, t' σ H Q → t σ H Q) : PO X e t' := ⟨fun pins s σ H Q I q => h.run pins s σ H Q I (w _ _ _ q)⟩
def dNoPart : DTO := fun _ G Q => Q none G
def dPart (t : DTE) : DTO := fun ρ G Q => t ρ G fun x G1 => ∃ i, x = .int i ∧ Q (some i) G1
theorem do_none : DO_ X none dNoPart := po_weak po_none fun σ H Q ⟨ρ, G, Q', rs, hr, q, k⟩ => k none G H (TS.refl H) hr q
theorem do_some {e : Expr} {te : DTE} (h : DE X e te) : DO_ X (some e) (dPart te) := po_weak (po_some h) fun σ H Q ⟨ρ, G, Q', rs, hr, q, k⟩ =>
  liftE.of rs hr q fun x G1 v H1 t1 hr1 r1 ⟨i, e, q1⟩ => by
    subst e; cases r1
    exact ⟨i, rfl, k _ G1 H1 t1 hr1 q1⟩
def cutD {α : Type} (xs : List α) (lo hi : Option Int) : List α := (xs.drop (HT.sIx xs.length 0 lo)).take (HT.sIx xs.length xs.length hi - HT.sIx xs.length 0 lo)
def dSl (te : DTE) (tl th : DTO) : DTE := fun ρ G Q => te ρ G fun x G1 => tl ρ G1 fun l G2 => th ρ G2 fun u G3 => match x with
  | .str z => z.length ≤ sizeLine ∧ Q (.str (cutS z l u)) G3
  | .tup ds => Q (.tup (cutD ds l u)) G3
  | x => ∃ ds, itemsD G3 x = some ds ∧ ∀ p, G3 p = none → Q (.ref p) (gup G3 p (.lst (cutD ds l u)))
def vSl (K : PySem.W.Frag) : V → Option Int → Option Int → Hp → VK → Prop := fun x lo hi H Q => rSlS x lo hi H Q ∨ rSlT K x lo hi H Q ∨ rSlTW K x lo hi H Q ∨ rSlL K x lo hi H Q
theorem sl_V : SlR X (vSl X.K) := sl_str.or (sl_tup.or (sl_tupW.or sl_list))
theorem RpA.cut {H : Hp} {vs : List V} {ds : List D} (r : RpA K H vs ds) (lo hi : Option Int) : RpA K H (cutV vs lo hi) (cutD ds lo hi) := by
  unfold cutV cutD
  rw [r.length]
  exact (r.drop _).take _
theorem cutD_whole {α : Type} {xs : List α} {lo hi : Option Int} (h : HT.sIx xs.length 0 lo = 0 ∧ HT.sIx xs.length xs.length hi = xs.length) : cutD xs lo hi = xs := by
  unfold cutD
  rw [h.1, h.2]
  simp
variable {p2 : Pos} {lo hi : Option Expr} {tl th : DTO} {e : Expr} {te : DTE}
theorem de_slice (he : DE X e te) (hl : DO_ X lo tl) (hu : DO_ X hi th) : DE X (.Subscript e (.Slice lo hi none p2) pos) (dSl te tl th) := by
  refine pe_weak (pe_slice sl_V he hl hu) fun σ H Q ⟨ρ, G, Q', rs, hr, q, k⟩ => ?_
  refine liftE.of rs hr q fun x G1 v H1 t1 hr1 r1 q1 => ?_
  refine ⟨ρ, G1, _, rs.mono t1, hr1, q1, fun l G2 H2 t2 hr2 q2 => ?_⟩
  refine ⟨ρ, G2, _, rs.mono (t1.trans t2), hr2, q2, fun u G3 H3 t3 hr3 q3 => ?_⟩
  have r3 := (r1.mono t2).mono t3
  have t03 := (t1.trans t2).trans t3
  have gen : (∃ ds, itemsD G3 x = some ds ∧ ∀ p, G3 p = none → Q' (.ref p) (gup G3 p (.lst (cutD ds l u)))) → (∀ ds, x ≠ .tup ds) → vSl X.K v l u H3 Q := by
    rintro ⟨ds, e1, q⟩ nt
    obtain ⟨p, xs, rfl, hs, ra⟩ := items_seq hr3 r3 e1
    rcases hs with hs | hs
    · refine .inr (.inr (.inr ⟨p, xs, rfl, hs, fun p' hp => ?_⟩))
      have tn := TS.new (o := HO.lst (cutV xs l u)) hp
      exact k _ _ _ _ (t03.trans tn) (hr3.newG (u := .lst (cutD ds l u)) hp ⟨_, upd_same, (ra.mono tn).cut l u⟩) (.ref p') (q p' (hr3.free hp))
    · cases r3 with
      | tup h ra' => exact absurd rfl (nt _)
      | @rol _ ws _ h ra' =>
        refine .inr (.inr (.inr ⟨p, ws, rfl, h _ (TS.refl _), fun p' hp => ?_⟩))
        have tn := TS.new (o := HO.lst (cutV ws l u)) hp
        cases e1
        exact k _ _ _ _ (t03.trans tn) (hr3.newG (u := .lst (cutD ds l u)) hp ⟨_, upd_same, (ra'.mono tn).cut l u⟩) (.ref p') (q p' (hr3.free hp))
      | ref a =>
        unfold itemsD at e1
        cases g : G3 p with
        | none => simp [g] at e1
        | some o =>
          cases o with
          | lst ds' =>
            simp only [g, Option.some.injEq] at e1
            subst e1
            obtain ⟨us, h1, ra2⟩ := hr3 p _ g
            refine .inr (.inr (.inr ⟨p, us, rfl, SqL.of h1, fun p' hp => ?_⟩))
            have tn := TS.new (o := HO.lst (cutV us l u)) hp
            exact k _ _ _ _ (t03.trans tn) (hr3.newG (u := .lst (cutD ds' l u)) hp ⟨_, upd_same, (ra2.mono tn).cut l u⟩) (.ref p') (q p' (hr3.free hp))
          | _ => simp [g] at e1
  cases x with
  | str z =>
    cases r3
    exact .inl ⟨z, rfl, q3.1, k _ G3 _ H3 t03 hr3 (.str _) q3.2⟩
  | tup ds =>
    cases r3 with
    | @tup a xs _ h ra =>
      by_cases c : HT.sIx xs.length 0 l = 0 ∧ HT.sIx xs.length xs.length u = xs.length
      · have q4 : Q' (.tup (cutD ds l u)) G3 := q3
        rw [cutD_whole (by rw [← ra.length]; exact c)] at q4
        exact .inr (.inr (.inl ⟨a, xs, rfl, h, c, k _ G3 _ H3 t03 hr3 (.tup h ra) q4⟩))
      · refine .inr (.inl ⟨a, xs, rfl, h, c, fun p hp => ?_⟩)
        have tn := TS.new (o := HO.tup (cutV xs l u)) hp
        exact k _ G3 _ _ (t03.trans tn) (hr3.new hp) (.tup (SqT.of upd_same) ((ra.mono tn).cut l u)) q3
  | _ => exact gen q3 (fun _ z => nomatch z)
end
end DL

/-! DL5: calls of built-ins and methods, loops, comprehensions by content. -/
namespace DL
open PySem PySem.Spec PyProof.Rows L2
abbrev DCall := List D → Gp → DK → Prop
section
variable {X : Cx} {K : PySem.W.Frag}
/-! ### built-ins by name -/
def dCB (r : DCall) (t : DTA) : DTE := fun ρ G Q => t ρ G fun vs G1 => r vs G1 Q
def CallUp (K : PySem.W.Frag) (r : List V → Hp → VK → Prop) (r' : DCall) : Prop := ∀ (vs : List V) (H : Hp) (Q : VK) (ds : List D) (G : Gp) (Q' : DK), HR K H G → RpA K H vs ds → r' ds G Q' →
  (∀ z G' v H', TS H H' → HR K H' G' → Rp K H' v z → Q' z G' → Q v H') → r vs H Q
theorem lift_cb {r : List V → Hp → VK → Prop} {r' : DCall} (up : CallUp K r r') {t : DTA} {σ : L2.St} {H : Hp} {Q : VK} (h : liftE K (dCB r' t) σ H Q) : tCB r (liftA K t) σ H Q := by
  obtain ⟨ρ, G, Q', rs, hr, q, k⟩ := h
  exact liftA.of rs hr q fun ds G1 vs H1 t1 hr1 r1 q1 => up vs H1 Q ds G1 Q' hr1 r1 q1 fun z G' v H' t' hr' r' q' => k z G' v H' (t1.trans t') hr' r' q'
variable {x : Str} {p pos : Pos} {e : Expr} {es : List Expr} {t : DTA} {id T : String} {r : List V → Hp → VK → Prop} {r' : DCall}
theorem de_callB (hc : CallR X (.builtin id) r) (up : CallUp X.K r r') (hg : Gl X x) (hm : X.mg x = none) (hv : bootBuiltins x = some (.builtin id)) (ha : DA X (e :: es) t) (hn : x ≠ "__name__" := by decide) (hdb : (x == ("__debug__" : Str)) = false := by decide)
    (he : starEach (e :: es) X.env = (false, eval e X.env) :: starEach es X.env := by rfl) (hpl : (backTo pos (starEach es X.env)).any (·.1) = false := by rfl) : DE X (.Call (.Name x p) (e :: es) [] pos) (dCB r' t) :=
  pe_weak (pe_callB hc hg hm hv ha hn hdb he hpl) fun _ _ _ h => lift_cb up h
theorem de_callTy (hc : CallR X (.type T) r) (up : CallUp X.K r r') (hg : Gl X x) (hm : X.mg x = none) (hv : bootBuiltins x = some (.type T)) (ha : DA X (e :: es) t) (hn : x ≠ "__name__" := by decide) (hdb : (x == ("__debug__" : Str)) = false := by decide)
    (he : starEach (e :: es) X.env = (false, eval e X.env) :: starEach es X.env := by rfl) (hpl : (backTo pos (starEach es X.env)).any (·.1) = false := by rfl) : DE X (.Call (.Name x p) (e :: es) [] pos) (dCB r' t) :=
  pe_weak (pe_callTy hc hg hm hv ha hn hdb he hpl) fun _ _ _ h => lift_cb up h
/-- len -/
def cLen : DCall := fun ds G Q => ∃ x, ds = [x] ∧ match x with
  | .str z => z.length ≤ sizeLine ∧ Q (.int z.length) G
  | x => ∃ xs, itemsD G x = some xs ∧ Q (.int xs.length) G
def vLen (K : PySem.W.Frag) : List V → Hp → VK → Prop := fun xs H Q => (∃ p ys, xs = [.ref p] ∧ (SqL K H p ys ∨ SqT K H p ys) ∧ Q (.int ys.length) H) ∨ ∃ z, xs = [.str z] ∧ z.length ≤ sizeLine ∧ Q (.int z.length) H
theorem call_lenV : CallR X (.builtin "len") (vLen X.K) := call_len_seq.or call_len_str
theorem up_len : CallUp K (vLen K) cLen := by
  rintro vs H Q ds G Q' hr ra ⟨x, rfl, q⟩ k
  cases ra with
  | cons r1 r2 =>
    cases r2
    rename_i v0
    have gen : (∃ xs, itemsD G x = some xs ∧ Q' (.int xs.length) G) → vLen K [v0] H Q := by
      rintro ⟨xs, e, q⟩
      obtain ⟨p, us, rfl, hs, ra⟩ := items_seq hr r1 e
      exact .inl ⟨p, us, rfl, hs, k _ G _ H (TS.refl H) hr (.int _) (by rw [ra.length]; exact q)⟩
    cases x with
    | str z => cases r1; exact .inr ⟨z, rfl, q.1, k _ G _ H (TS.refl H) hr (.int _) q.2⟩
    | _ => exact gen q
/-- all, any of a list of bools -/
def boolsD : List D → Option (List Bool)
  | [] => some []
  | .bl b :: r => (boolsD r).map (b :: ·)
  | _ => none
theorem bools_of {H : Hp} : ∀ {vs : List V} {ds : List D} {bs : List Bool}, RpA K H vs ds → boolsD ds = some bs → vs = bs.map V.bl
  | _, [], _, .nil, e => by cases e; rfl
  | _, .bl b :: r, _, .cons a t, e => by
    simp only [boolsD, Option.map_eq_some_iff] at e
    obtain ⟨bs, e1, e2⟩ := e
    subst e2
    cases a
    rw [bools_of t e1]; rfl
def cAll : DCall := fun ds G Q => ∃ x xs bs, ds = [x] ∧ itemsD G x = some xs ∧ (∀ ys, x ≠ .tup ys) ∧ boolsD xs = some bs ∧ Q (.bl (bs.all _root_.id)) G
def cAny : DCall := fun ds G Q => ∃ x xs bs, ds = [x] ∧ itemsD G x = some xs ∧ (∀ ys, x ≠ .tup ys) ∧ boolsD xs = some bs ∧ Q (.bl (bs.any _root_.id)) G
theorem list_of_items {H : Hp} {G : Gp} {v : V} {y : D} {ds : List D} (hr : HR K H G) (r : Rp K H v y) (e : itemsD G y = some ds) (nt : ∀ ys, y ≠ .tup ys) : ∃ p xs, v = .ref p ∧ SqL K H p xs ∧ RpA K H xs ds := by
  cases r with
  | tup h ra => exact absurd rfl (nt _)
  | rol h ra => cases e; exact ⟨_, _, rfl, h H (TS.refl H), ra⟩
  | ref a =>
    unfold itemsD at e
    cases g : G a with
    | none => simp [g] at e
    | some o =>
      cases o with
      | lst ds' =>
        simp only [g, Option.some.injEq] at e
        subst e
        obtain ⟨xs, q, ra⟩ := hr a _ g
        exact ⟨a, xs, rfl, SqL.of q, ra⟩
      | _ => simp [g] at e
  | _ => cases e
theorem up_all : CallUp K (rAll K) cAll := by
  rintro vs H Q ds G Q' hr ra ⟨x, xs, bs, rfl, e1, nt, e2, q⟩ k
  cases ra with
  | cons r1 r2 =>
    cases r2
    obtain ⟨p, us, rfl, hs, ra⟩ := list_of_items hr r1 e1 nt
    exact ⟨p, bs, rfl, by rw [← bools_of ra e2]; exact hs, k _ G _ H (TS.refl H) hr (.bl _) q⟩
theorem up_any : CallUp K (rAny K) cAny := by
  rintro vs H Q ds G Q' hr ra ⟨x, xs, bs, rfl, e1, nt, e2, q⟩ k
  cases ra with
  | cons r1 r2 =>
    cases r2
    obtain ⟨p, us, rfl, hs, ra⟩ := list_of_items hr r1 e1 nt
    exact ⟨p, bs, rfl, by rw [← bools_of ra e2]; exact hs, k _ G _ H (TS.refl H) hr (.bl _) q⟩
/-- sum of a list of ints -/
def intsD : List D → Option (List Int)
  | [] => some []
  | .int b :: r => (intsD r).map (b :: ·)
  | _ => none
theorem ints_ofD {H : Hp} : ∀ {vs : List V} {ds : List D} {bs : List Int}, RpA K H vs ds → intsD ds = some bs → vs = bs.map V.int
  | _, [], _, .nil, e => by cases e; rfl
  | _, .int b :: r, _, .cons a t, e => by
    simp only [intsD, Option.map_eq_some_iff] at e
    obtain ⟨bs, e1, e2⟩ := e
    subst e2
    cases a
    rw [ints_ofD t e1]; rfl
def cSum : DCall := fun ds G Q => ∃ x xs bs, ds = [x] ∧ itemsD G x = some xs ∧ (∀ ys, x ≠ .tup ys) ∧ intsD xs = some bs ∧ Q (.int bs.sum) G
theorem up_sum : CallUp K (rSum K) cSum := by
  rintro vs H Q ds G Q' hr ra ⟨x, xs, bs, rfl, e1, nt, e2, q⟩ k
  cases ra with
  | cons r1 r2 =>
    cases r2
    obtain ⟨p, us, rfl, hs, ra⟩ := list_of_items hr r1 e1 nt
    exact ⟨p, bs, rfl, by rw [← ints_ofD ra e2]; exact hs, k _ G _ H (TS.refl H) hr (.int _) q⟩
/-- tuple(x), list(x) -/
def cTuple : DCall := fun ds G Q => ∃ x xs, ds = [x] ∧ itemsD G x = some xs ∧ Q (.tup xs) G
def cList : DCall := fun ds G Q => ∃ x xs, ds = [x] ∧ itemsD G x = some xs ∧ ∀ p, G p = none → Q (.ref p) (gup G p (.lst xs))
theorem up_tuple : CallUp K (fun xs H Q => ∃ p ys, xs = [.ref p] ∧ ((SqL K H p ys ∧ ∀ l, H l = none → Q (.ref l) (upd H l (.tup ys))) ∨ (SqT K H p ys ∧ Q (.ref p) H))) cTuple := by
  rintro vs H Q ds G Q' hr ra ⟨x, xs, rfl, e1, q⟩ k
  cases ra with
  | cons r1 r2 =>
    cases r2
    obtain ⟨p, us, rfl, hs, ra⟩ := items_seq hr r1 e1
    rcases hs with hs | hs
    · refine ⟨p, us, rfl, .inl ⟨hs, fun l hl => ?_⟩⟩
      have tn := TS.new (o := HO.tup us) hl
      exact k _ G _ _ tn (hr.new hl) (.tup (SqT.of upd_same) (ra.mono tn)) q
    · exact ⟨p, us, rfl, .inr ⟨hs, k _ G _ H (TS.refl H) hr (.tup hs ra) q⟩⟩
theorem up_list : CallUp K (fun xs H Q => ∃ p ys, xs = [.ref p] ∧ (SqL K H p ys ∨ SqT K H p ys) ∧ ∀ l, H l = none → Q (.ref l) (upd H l (.lst ys))) cList := by
  rintro vs H Q ds G Q' hr ra ⟨x, xs, rfl, e1, q⟩ k
  cases ra with
  | cons r1 r2 =>
    cases r2
    obtain ⟨p, us, rfl, hs, ra⟩ := items_seq hr r1 e1
    refine ⟨p, us, rfl, hs, fun l hl => ?_⟩
    have tn := TS.new (o := HO.lst us) hl
    exact k _ _ _ _ tn (hr.newG (u := .lst xs) hl ⟨us, upd_same, ra.mono tn⟩) (.ref l) (q l (hr.free hl))
/-- int(x) of ints and bools, abs -/
def cInt : DCall := fun ds G Q => ∃ x, ds = [x] ∧ match x with
  | .int i => Q (.int i) G
  | .bl b => Q (.int (if b then 1 else 0)) G
  | _ => False
theorem up_int1 : CallUp K (fun xs H Q => (∃ i, xs = [.int i] ∧ Q (.int i) H) ∨ ∃ k, xs = [.bl k] ∧ Q (.int (if k then 1 else 0)) H) cInt := by
  rintro vs H Q ds G Q' hr ra ⟨x, rfl, q⟩ k
  cases ra with
  | cons r1 r2 =>
    cases r2
    cases x with
    | int i => cases r1; exact .inl ⟨i, rfl, k _ G _ H (TS.refl H) hr (.int _) q⟩
    | bl b => cases r1; exact .inr ⟨b, rfl, k _ G _ H (TS.refl H) hr (.int _) q⟩
    | _ => exact q.elim
def cAbs : DCall := fun ds G Q => ∃ i, ds = [.int i] ∧ Q (.int (if i < 0 then -i else i)) G
theorem up_abs : CallUp K (fun xs H Q => ∃ i, xs = [.int i] ∧ Q (.int (if i < 0 then -i else i)) H) cAbs := by
  rintro vs H Q ds G Q' hr ra ⟨i, rfl, q⟩ k
  cases ra with
  | cons r1 r2 =>
    cases r2; cases r1
    exact ⟨i, rfl, k _ G _ H (TS.refl H) hr (.int _) q⟩
/-- isinstance(x, T), T a built-in class -/
def tyNameD (G : Gp) : D → Option String
  | .non => some "NoneType"
  | .bl _ => some "bool"
  | .int _ => some "int"
  | .str _ => some "str"
  | .tup _ => some "tuple"
  | .rol _ => some "list"
  | .ref a => match G a with
    | some (.lst _) => some "list"
    | some (.dK _) => some "dict"
    | _ => none
  | .ty _ => none
def cIsi : DCall := fun ds G Q => ∃ x n m b, ds = [x, .ty n] ∧ tyNameD G x = some m ∧ kitB m n = some b ∧ Q (.bl b) G
theorem tyx_of {H : Hp} {G : Gp} {v : V} {x : D} {m : String} (hr : HR K H G) (r : Rp K H v x) (e : tyNameD G x = some m) : TyX K H v (.type m) := by
  cases r with
  | non => cases e; exact .base .non
  | bl b => cases e; exact .base (.bl _)
  | int i => cases e; exact .base (.int _)
  | str s => cases e; exact .base (.str _)
  | ty n => cases e
  | tup h ra =>
    cases e
    rcases h with (h | ⟨o, h⟩) | ⟨o, its, n, h1, h2, _⟩
    · exact .base (.tup h)
    · exact .fTuple h
    · exact .kTuple h1 h2
  | rol h ra =>
    cases e
    rcases h H (TS.refl H) with (h | ⟨o, h⟩) | ⟨o, its, n, h1, h2, _⟩
    · exact .base (.lst h)
    · exact .base (.frz h)
    · exact .kList h1 h2
  | ref a =>
    unfold tyNameD at e
    cases g : G a with
    | none => simp [g] at e
    | some o =>
      cases o with
      | lst ds =>
        simp only [g, Option.some.injEq] at e
        subst e
        obtain ⟨xs, q, _⟩ := hr a _ g
        exact .base (.lst q)
      | dK ds =>
        simp only [g, Option.some.injEq] at e
        subst e
        obtain ⟨xs, q, _⟩ := hr a _ g
        exact .base (.dK q)
      | _ => simp [g] at e
theorem up_isi : CallUp K (rIsi K) cIsi := by
  rintro vs H Q ds G Q' hr ra ⟨x, n, m, b, rfl, e1, e2, q⟩ k
  cases ra with
  | cons r1 r2 =>
    cases r2 with
    | cons r2 r3 =>
      cases r3; cases r2
      exact ⟨_, _, _, _, b, rfl, .ty n, tyx_of hr r1 e1, kit_ty e2, k _ G _ H (TS.refl H) hr (.bl _) q⟩
/-! ### methods of built-in types -/
abbrev DM := D → List D → Gp → DK → Prop
def dBM (r : DM) (to : DTE) (t : DTA) : DTE := fun ρ G Q => to ρ G fun x G1 => t ρ G1 fun vs G2 => r x vs G2 Q
def isListD (G : Gp) (x : D) : Prop := ∃ a ds, x = .ref a ∧ G a = some (.lst ds)
/-- of a list: a method's reading; the list stands when the arguments come -/
def dBML (r : DM) (to : DTE) (t : DTA) : DTE := fun ρ G Q => to ρ G fun x G1 => isListD G1 x ∧ t ρ G1 fun vs G2 => r x vs G2 Q
def MUp (K : PySem.W.Frag) (r : V → List V → Hp → VK → Prop) (r' : DM) : Prop := ∀ (x : V) (vs : List V) (H : Hp) (Q : VK) (d : D) (ds : List D) (G : Gp) (Q' : DK), HR K H G → Rp K H x d → RpA K H vs ds → r' d ds G Q' →
  (∀ z G' v H', TS H H' → HR K H' G' → Rp K H' v z → Q' z G' → Q v H') → r x vs H Q
theorem tyV_list {H : Hp} {G : Gp} {v : V} {x : D} (hr : HR K H G) (r : Rp K H v x) (h : isListD G x) : tyV K "list" v H := by
  obtain ⟨a, ds, rfl, g⟩ := h
  cases r
  obtain ⟨xs, q, _⟩ := hr a _ g
  exact .inl ⟨rfl, xs, .inl (.inl q)⟩
variable {o : Expr} {to : DTE} {name : Str} {apos cpos : Pos} {rm : V → List V → Hp → VK → Prop} {rm' : DM}
theorem de_ml (slot : Slot "list" name id) (hty : typeOf (.builtin id) = pure (.type "method_descriptor")) (hm : MtR X id rm) (up : MUp X.K rm rm') (ho : DE X o to) (ha : DA X (e :: es) t)
    (hbase : attributeBase o name X.env (eval o X.env) = eval o X.env := by rfl)
    (hfew : ((backTo cpos (starEach (e :: es) X.env)).all (fun x => !x.1) && (backToKw cpos (keywordEach [] X.env)).all (fun x => x.1.isSome)
      && decide ((e :: es).length + ([] : List Keyword).length + (if ([] : List Keyword).isEmpty then 0 else 1) < 30)) = true := by rfl)
    (hline : (apos.endLine == cpos.line) = true := by rfl) (hs : starEach (e :: es) X.env = (false, eval e X.env) :: starEach es X.env := by rfl) (hplain : (backTo cpos (starEach es X.env)).any (·.1) = false := by rfl) :
    DE X (.Call (.Attribute o name apos) (e :: es) [] cpos) (dBML rm' to t) := by
  refine pe_weak (pe_bm PySem.F.plainAttrs_list slot hty hm ho ha hbase hfew hline hs hplain) fun σ H Q ⟨ρ, G, Q', rs, hr, q, k⟩ => ?_
  refine liftE.of rs hr q fun x G1 v H1 t1 hr1 r1 ⟨il, q1⟩ => ⟨tyV_list hr1 r1 il, ?_⟩
  refine liftA.of (rs.mono t1) hr1 q1 fun ds G2 vs H2 t2 hr2 r2 q2 => ?_
  exact up v vs H2 Q x ds G2 Q' hr2 (r1.mono t2) r2 q2 fun z G' v H' t' hr' r' q' => k z G' v H' ((t1.trans t2).trans t') hr' r' q'
theorem de_ml0 (slot : Slot "list" name id) (hty : typeOf (.builtin id) = pure (.type "method_descriptor")) (hm : MtR X id rm) (up : MUp X.K rm rm') (ho : DE X o to)
    (hbase : attributeBase o name X.env (eval o X.env) = eval o X.env := by rfl) (hline : (apos.endLine == cpos.line) = true := by rfl) : DE X (.Call (.Attribute o name apos) [] [] cpos) (dBML rm' to dNil) := by
  refine pe_weak (pe_bm0 PySem.F.plainAttrs_list slot hty hm ho hbase hline) fun σ H Q ⟨ρ, G, Q', rs, hr, q, k⟩ => ?_
  refine liftE.of rs hr q fun x G1 v H1 t1 hr1 r1 ⟨il, q1⟩ => ⟨tyV_list hr1 r1 il, ?_⟩
  exact up v [] H1 Q x [] G1 Q' hr1 r1 .nil q1 fun z G' v H' t' hr' r' q' => k z G' v H' (t1.trans t') hr' r' q'
def mAppend : DM := fun x vs G Q => ∃ a xs y, x = .ref a ∧ vs = [y] ∧ G a = some (.lst xs) ∧ xs.length < sizeLine ∧ Q .non (gup G a (.lst (xs ++ [y])))
theorem up_append : MUp K rAppend mAppend := by
  rintro x vs H Q d ds G Q' hr rx ra ⟨a, xs, y, rfl, rfl, g, z, q⟩ k
  cases rx
  cases ra with
  | cons r1 r2 =>
    cases r2
    obtain ⟨us, h, rl⟩ := hr a _ g
    rename_i v1
    refine ⟨a, us, v1, rfl, rfl, h, by rw [rl.length]; exact z, ?_⟩
    have tp := TS.put (o' := HO.lst (us ++ [v1])) h (fun _ q => nomatch q) (fun _ _ q => nomatch q)
    exact k _ _ _ _ tp (hr.put (u := .lst (xs ++ [y])) h (fun _ q => nomatch q) (fun _ _ q => nomatch q) ⟨_, upd_same, (rl.mono tp).append (.cons (r1.mono tp) .nil)⟩) .non q
def mExtend : DM := fun x vs G Q => ∃ a b xs ys, x = .ref a ∧ vs = [.ref b] ∧ G a = some (.lst xs) ∧ G b = some (.lst ys) ∧ xs.length + ys.length ≤ sizeLine ∧ Q .non (gup G a (.lst (xs ++ ys)))
theorem up_extend : MUp K rExtend mExtend := by
  rintro x vs H Q d ds G Q' hr rx ra ⟨a, b, xs, ys, rfl, rfl, g, g2, z, q⟩ k
  cases rx
  cases ra with
  | cons r1 r2 =>
    cases r2; cases r1
    obtain ⟨us, h, rl⟩ := hr a _ g
    obtain ⟨ws, h2, rl2⟩ := hr b _ g2
    refine ⟨a, b, us, ws, rfl, rfl, h, h2, by rw [rl.length, rl2.length]; exact z, ?_⟩
    have tp := TS.put (o' := HO.lst (us ++ ws)) h (fun _ q => nomatch q) (fun _ _ q => nomatch q)
    exact k _ _ _ _ tp (hr.put (u := .lst (xs ++ ys)) h (fun _ q => nomatch q) (fun _ _ q => nomatch q) ⟨_, upd_same, (rl.mono tp).append (rl2.mono tp)⟩) .non q
def mPop : DM := fun x vs G Q => ∃ a xs y, x = .ref a ∧ vs = [] ∧ G a = some (.lst xs) ∧ xs[xs.length - 1]? = some y ∧ Q y (gup G a (.lst xs.dropLast))
theorem RpA.dropLast {H : Hp} : ∀ {vs : List V} {ds : List D}, RpA K H vs ds → RpA K H vs.dropLast ds.dropLast
  | _, _, .nil => .nil
  | _, _, .cons a .nil => .nil
  | _, _, .cons a (.cons b c) => .cons a (RpA.dropLast (.cons b c))
theorem up_pop : MUp K rPop mPop := by
  rintro x vs H Q d ds G Q' hr rx ra ⟨a, xs, y, rfl, rfl, g, z, q⟩ k
  cases rx; cases ra
  obtain ⟨us, h, rl⟩ := hr a _ g
  obtain ⟨v, e, rv⟩ := rl.get z
  refine ⟨a, us, v, rfl, rfl, h, by rw [rl.length]; exact e, ?_⟩
  have tp := TS.put (o' := HO.lst us.dropLast) h (fun _ q => nomatch q) (fun _ _ q => nomatch q)
  exact k _ _ _ _ tp (hr.put (u := .lst xs.dropLast) h (fun _ q => nomatch q) (fun _ _ q => nomatch q) ⟨_, upd_same, (rl.mono tp).dropLast⟩) (rv.mono tp) q
/-- xs[i] = v -/
abbrev DSet := D → D → D → Gp → (Gp → Prop) → Prop
def dgSub (to ti : DTE) (t : DSet) : DTG := fun v ρ G Q => to ρ G fun o G1 => ti ρ G1 fun i G2 => t o i v G2 fun G3 => Q ρ G3
def SetUp (K : PySem.W.Frag) (t : TSet) (t' : DSet) : Prop := ∀ (o i v : V) (H : Hp) (Q : Hp → Prop) (od id vd : D) (G : Gp) (Q' : Gp → Prop), HR K H G → Rp K H o od → Rp K H i id → Rp K H v vd → t' od id vd G Q' → (∀ G' H', TS H H' → HR K H' G' → Q' G' → Q H') → t o i v H Q
theorem dg_sub {o i : Expr} {to ti : DTE} {ts : TSet} {ts' : DSet} (ho : DE X o to) (hi : DE X i ti) (hs : PSet X ts) (up : SetUp X.K ts ts')
    (ha : ∀ v, assign (.Subscript o i pos) X.env v = (do
      let ov ← holding [v] (eval o X.env)
      let iv ← holding [v, ov] (eval i X.env)
      standAt pos
      holding [v, ov, iv] (setItem ov iv v)
      release [v, ov, iv] []) := by intro _; rfl) : DG X (.Subscript o i pos) (dgSub to ti ts') := by
  refine pg_weak (pg_sub ho hi hs ha) fun v σ H Q ⟨d, ρ, G, Q', r, rs, hr, q, k⟩ => ?_
  refine liftE.of rs hr q fun od G1 ov H1 t1 hr1 r1 q1 => ?_
  refine liftE.of (rs.mono t1) hr1 q1 fun id G2 iv H2 t2 hr2 r2 q2 => ?_
  exact up ov iv v H2 _ od id d G2 _ hr2 (r1.mono t2) r2 (r.mono (t1.trans t2)) q2 fun G' H' t' hr' q' => k ρ G' σ H' ((t1.trans t2).trans t') (rs.mono ((t1.trans t2).trans t')) hr' q'
def sSetL : DSet := fun o i v G Q => ∃ a xs k j, o = .ref a ∧ i = .int k ∧ G a = some (.lst xs) ∧ ixN xs.length k = some j ∧ Q (gup G a (.lst (xs.set j v)))
theorem up_setL : SetUp K rSetL sSetL := by
  rintro o i v H Q od id vd G Q' hr r1 r2 r3 ⟨a, xs, m, j, rfl, rfl, g, e, q⟩ k
  cases r1; cases r2
  obtain ⟨us, h, rl⟩ := hr a _ g
  refine ⟨a, us, m, j, rfl, rfl, h, by rw [rl.length]; exact e, ?_⟩
  have tp := TS.put (o' := HO.lst (us.set j v)) h (fun _ q => nomatch q) (fun _ _ q => nomatch q)
  exact k _ _ tp (hr.put (u := .lst (xs.set j vd)) h (fun _ q => nomatch q) (fun _ _ q => nomatch q) ⟨_, upd_same, (rl.mono tp).set (r3.mono tp) j⟩) q
/-! ### name op= e -/
def dAug (i : Nat) (te : DTE) (r : DR2) : DTS := fun D ρ G => ∃ x, ρ[i]? = some (some x) ∧ te ρ G fun y G1 => r x y G1 fun z G2 => D.nx (ρ.set i (some z)) G2
theorem ds_aug {i : Nat} {x : Str} {e : Expr} {te : DTE} {op : Operator} {ti : TIp} {r' : DR2} {pos' : Pos} (hN : X.N.Nodup) (hi : X.N[i]? = some x) (hx : Loc X.env.scope x) (he : DE X e te) (ho : PIp X op ti) (up : R2Up X.K ti r') (hf : X.fn x = true ∨ X.env.scope.names.lookup x = some .local := by first | exact .inl rfl | exact .inr rfl | assumption) :
    DS X (.AugAssign (.Name x pos') op e pos) (dAug i te r') := by
  refine ps_weak (ps_aug hN hi hx he ho hf) fun D σ H ⟨ρ, G, E, rs, hr, ⟨d, e1, q⟩, up'⟩ => ?_
  obtain ⟨v, e2, r0⟩ := rs.get i d e1
  refine ⟨v, e2, liftE.of rs hr q fun y G1 u H1 t1 hr1 r1 q1 => ?_⟩
  exact up v u H1 _ d y G1 _ hr1 (r0.mono t1) r1 q1 fun z G' w H' t' hr' r' q' => up'.nx _ G' _ H' (t1.trans t') ((rs.mono (t1.trans t')).set i r') hr' q'
theorem up_ipadd : R2Up K (ipI fun i j => i + j) (rInt fun i j => .int (i + j)) := by
  rintro x y H Q d e G Q' hr rx ry ⟨i, j, rfl, rfl, q⟩ k
  cases rx; cases ry
  exact ⟨i, j, rfl, rfl, k _ G _ H (TS.refl H) hr (.int _) q⟩
/-! ### while -/
def dWhile (c : DTT) (tb : DTS) : DTS := fun D ρ G => ∃ W : Nat → Rho → Gp → Prop, (∃ m, W m ρ G) ∧ ∀ m ρ G, W m ρ G →
  c ρ G fun b G1 => if b = true then ∃ N : Rho → Gp → Prop, (∀ ρ' G', N ρ' G' → ∃ m', m' < m ∧ W m' ρ' G') ∧ tb { D with nx := N, ct := N, bk := D.nx } ρ G1 else D.nx ρ G1
theorem ds_while {c : Expr} {body : List Stmt} {tc : DTT} {tb : DTS} (hp : PassesOwn (model X.prog X.w) X.A X.env X.xe) (hc : DT X c tc) (hb : DSs X body tb) : DS X (.While c body [] pos) (dWhile tc tb) := by
  refine ps_weak (ps_while hp hc hb) fun D σ H ⟨ρ, G, E, rs, hr, ⟨W, ⟨m0, w0⟩, turn⟩, up⟩ => ?_
  refine ⟨fun m σ' H' => ∃ ρ' G', TS H H' ∧ RS X.K H' σ' ρ' ∧ HR X.K H' G' ∧ W m ρ' G', ⟨m0, ρ, G, TS.refl H, rs, hr, w0⟩, ?_⟩
  rintro m σ1 H1 ⟨ρ1, G1, t1, rs1, hr1, w1⟩
  refine liftT.of rs1 hr1 (turn m ρ1 G1 w1) fun b G2 H2 t2 hr2 q2 => ?_
  have t02 := t1.trans t2
  cases b with
  | true =>
    rw [if_pos rfl] at q2 ⊢
    obtain ⟨N, hN, q2⟩ := q2
    refine ⟨fun σ' H' => ∃ ρ' G', TS H H' ∧ RS X.K H' σ' ρ' ∧ HR X.K H' G' ∧ N ρ' G', fun σ' H' ⟨ρ', G', a, b, c, d⟩ => ?_, ?_⟩
    · obtain ⟨m', hm, w'⟩ := hN ρ' G' d
      exact ⟨m', hm, ρ', G', a, b, c, w'⟩
    · exact ⟨ρ1, G2, _, rs1.mono t2, hr2, q2, ⟨fun ρ' G' σ' H' t' rs' hr' q' => ⟨ρ', G', t02.trans t', rs', hr', q'⟩, fun d G' v H' t' => up.rt d G' v H' (t02.trans t'), fun ρ' G' σ' H' t' => up.nx ρ' G' σ' H' (t02.trans t'), fun ρ' G' σ' H' t' rs' hr' q' => ⟨ρ', G', t02.trans t', rs', hr', q'⟩⟩⟩
  | false =>
    rw [if_neg Bool.false_ne_true] at q2 ⊢
    exact up.nx ρ1 G2 σ1 H2 t02 (rs1.mono t2) hr2 q2
/-! ### what is walked -/
abbrev DSrc := Rho → Gp → (List D → (Gp → Prop) → Gp → Prop) → Prop
structure ItOk (K : PySem.W.Frag) (J : It) (H1 : Hp) (items : List D) (chk : Gp → Prop) : Prop where
  go : ∀ (i : Nat) (x : D) (H : Hp) (G : Gp), items[i]? = some x → TS H1 H → HR K H G → chk G → J.go i H ∧ ∀ v H', J.yld i H v H' → H' = H ∧ Rp K H v x
  stop : ∀ (H : Hp) (G : Gp), TS H1 H → HR K H G → chk G → J.stop items.length H
def iUp (K : PySem.W.Frag) (s : DSrc) : TI := fun σ H R => ∃ ρ G R', RS K H σ ρ ∧ HR K H G ∧ s ρ G R' ∧ ∀ items chk G1 H1 J, TS H H1 → HR K H1 G1 → R' items chk G1 → ItOk K J H1 items chk → R J H1
abbrev DI (X : Cx) (tg e : Expr) (s : DSrc) : Prop := PI X tg e (iUp X.K s)
theorem pi_weak {tg e : Expr} {w w' : TI} (h : PI X tg e w) (k : ∀ σ H R, w' σ H R → w σ H R) : PI X tg e w' := ⟨fun pins s σ H R I q => h.run pins s σ H R I (k _ _ _ q)⟩
def signsD (z : Str) : List D := z.cps.toList.map fun c => .str ⟨#[c]⟩
def sSeq (te : DTE) : DSrc := fun ρ G R => te ρ G fun x G1 => match x with
  | .tup ds => R ds (fun _ => True) G1
  | .rol ds => R ds (fun _ => True) G1
  | .str z => R (signsD z) (fun _ => True) G1
  | .ref a => ∃ ds, G1 a = some (.lst ds) ∧ R ds (fun G => G a = some (.lst ds)) G1
  | _ => False
def iSeq (K : PySem.W.Frag) (tl : TE) : TI := fun σ H R => tl σ H fun x H1 => (∃ a, x = .ref a ∧ (∃ xs, SqL K H1 a xs) ∧ R (Itl K a) H1) ∨ (∃ a, x = .ref a ∧ (∃ xs, SqT K H1 a xs) ∧ R (Itt K a) H1) ∨ (∃ z, x = .str z ∧ R (Its z) H1)
theorem pi_seq {tg l : Expr} {tl : TE} (hl : PE X l tl) : PI X tg l (iSeq X.K tl) := by
  refine ⟨fun pins s σ H R I h => ?_⟩
  refine thn (hl.run pins s σ H _ I h) fun v s1 ⟨x, H1, I1, r1, q1⟩ => ?_
  rcases q1 with ⟨a, e, ⟨xs, hq⟩, q⟩ | ⟨a, e, ⟨xs, hq⟩, q⟩ | ⟨z, e, q⟩
  · subst e
    cases r1
    obtain ⟨its, rv, p, hz⟩ := I1.list hq
    refine wpAny_pyIter_list p.isList ?_
    refine ⟨s1.heap.objs.size, [s1.heap.objs.size], _, _, H1, rfl, I1.kept (t' := s1.toks) fun b o e => Heap.get?_push_of_some _ e, turn_list a _, ⟨_, Heap.get?_push_size _ rfl, rfl, rfl⟩, fun b hb => ?_, q⟩
    have e : b = s1.heap.objs.size := by simpa using hb
    subst e
    exact I1.fpOk (Nat.le_refl _) (I1.hok.fresh (Nat.le_refl _))
  · subst e
    cases r1
    obtain ⟨its, rv, p, hz⟩ := I1.tuple hq
    refine wpAny_pyIter_tuple (show s1.heap.IsTuple a its.toArray from p) ?_
    refine ⟨s1.heap.objs.size, [s1.heap.objs.size], _, _, H1, rfl, I1.kept (t' := s1.toks) fun b o e => Heap.get?_push_of_some _ e, turn_tuple a _, ⟨_, Heap.get?_push_size _ rfl, rfl, rfl⟩, fun b hb => ?_, q⟩
    have e : b = s1.heap.objs.size := by simpa using hb
    subst e
    exact I1.fpOk (Nat.le_refl _) (I1.hok.fresh (Nat.le_refl _))
  · subst e
    obtain ⟨t, rfl⟩ := r1
    cases ha : z.cps.all (· < 128)
    · exact wpAny_pyIter_wide ha (pi_one (tk := s1.toks) I1 _ (turn_str _ z t "str_iterator" (.inr rfl)) ⟨_, Heap.get?_push_size _ rfl, rfl, rfl⟩ q)
    · exact wpAny_pyIter_ascii ha (pi_one (tk := s1.toks) I1 _ (turn_str _ z t "str_ascii_iterator" (.inl rfl)) ⟨_, Heap.get?_push_size _ rfl, rfl, rfl⟩ q)

theorem di_seq {tg : Expr} {te : DTE} (h : DE X e te) : DI X tg e (sSeq te) := by
  refine pi_weak (pi_seq h) fun σ H R ⟨ρ, G, R', rs, hr, q, k⟩ => ?_
  refine liftE.of rs hr q fun x G1 v H1 t1 hr1 r1 q1 => ?_
  have lst : ∀ (a : Addr) (xs : List V) (ds : List D) (chk : Gp → Prop), (∀ H2 G2, TS H1 H2 → HR X.K H2 G2 → chk G2 → SqL X.K H2 a xs ∧ RpA X.K H2 xs ds ∧ ∀ ys, SqL X.K H2 a ys → ys = xs) → ItOk X.K (Itl X.K a) H1 ds chk := by
    intro a xs ds chk f
    refine ⟨fun i x H2 G2 hx t2 hr2 c2 => ?_, fun H2 G2 t2 hr2 c2 => ?_⟩
    · obtain ⟨s1, r1, u1⟩ := f H2 G2 t2 hr2 c2
      obtain ⟨v', h1, h2⟩ := r1.get hx
      refine ⟨⟨xs, v', s1, h1⟩, fun v2 H3 y => ?_⟩
      obtain ⟨e1, y1⟩ := y
      have e2 := y1 xs s1
      rw [h1] at e2; cases e2
      exact ⟨e1, h2⟩
    · obtain ⟨s1, r1, u1⟩ := f H2 G2 t2 hr2 c2
      exact ⟨xs, s1, by rw [r1.length]; exact Nat.le_refl _⟩
  cases x with
  | tup ds =>
    cases r1 with
    | @tup a xs _ h ra =>
      refine .inr (.inl ⟨a, rfl, ⟨xs, h⟩, k ds _ G1 H1 _ t1 hr1 q1 ⟨fun i x H2 G2 hx t2 hr2 c2 => ?_, fun H2 G2 t2 hr2 c2 => ⟨xs, t2.seqT h, by rw [ra.length]; exact Nat.le_refl _⟩⟩⟩)
      obtain ⟨v', h1, h2⟩ := ra.get hx
      refine ⟨⟨xs, v', t2.seqT h, h1⟩, fun v2 H3 y => ?_⟩
      obtain ⟨e1, y1⟩ := y
      have e2 := y1 xs (t2.seqT h)
      rw [h1] at e2; cases e2
      exact ⟨e1, h2.mono t2⟩
  | rol ds =>
    cases r1 with
    | @rol a xs _ h ra =>
      refine .inl ⟨a, rfl, ⟨xs, h H1 (TS.refl H1)⟩, k ds _ G1 H1 _ t1 hr1 q1 ⟨fun i x H2 G2 hx t2 hr2 c2 => ?_, fun H2 G2 t2 hr2 c2 => ⟨xs, h H2 t2, by rw [ra.length]; exact Nat.le_refl _⟩⟩⟩
      obtain ⟨v', h1, h2⟩ := ra.get hx
      refine ⟨⟨xs, v', h H2 t2, h1⟩, fun v2 H3 y => ?_⟩
      obtain ⟨e1, y1⟩ := y
      have e2 := y1 xs (h H2 t2)
      rw [h1] at e2; cases e2
      exact ⟨e1, h2.mono t2⟩
  | str z =>
    cases r1
    refine .inr (.inr ⟨z, rfl, k (signsD z) _ G1 H1 _ t1 hr1 q1 ⟨fun i x H2 G2 hx t2 hr2 c2 => ?_, fun H2 G2 t2 hr2 c2 => ?_⟩⟩)
    · unfold signsD at hx
      rw [List.getElem?_map, Option.map_eq_some_iff] at hx
      obtain ⟨c, hc, rfl⟩ := hx
      have hc' : z.cps[i]? = some c := by simpa using hc
      refine ⟨(Array.getElem?_eq_some_iff.mp hc').1, fun v2 H3 y => ?_⟩
      obtain ⟨e1, c', e2, e3⟩ := y
      rw [hc'] at e2; cases e2
      subst e3
      exact ⟨e1, .str _⟩
    · show z.cps.size ≤ _
      unfold signsD
      simp
  | ref a =>
    cases r1
    obtain ⟨ds, g, q1⟩ := q1
    obtain ⟨xs, h, ra⟩ := hr1 a _ g
    refine .inl ⟨a, rfl, ⟨xs, SqL.of h⟩, k ds _ G1 H1 _ t1 hr1 q1 ⟨fun i x H2 G2 hx t2 hr2 c2 => ?_, fun H2 G2 t2 hr2 c2 => ?_⟩⟩
    · obtain ⟨us, h', ra'⟩ := hr2 a _ c2
      obtain ⟨v', h1, h2⟩ := ra'.get hx
      refine ⟨⟨us, v', SqL.of h', h1⟩, fun v2 H3 y => ?_⟩
      obtain ⟨e1, y1⟩ := y
      have e2 := y1 us (SqL.of h')
      rw [h1] at e2; cases e2
      exact ⟨e1, h2⟩
    · obtain ⟨us, h', ra'⟩ := hr2 a _ c2
      exact ⟨us, SqL.of h', by rw [ra'.length]; exact Nat.le_refl _⟩
  | _ => exact q1.elim
/-- range -/
def rangeD (lo : Int) (n : Nat) : List D := (List.range n).map fun i => .int (lo + (i : Nat))
def sRng1 (ta : DTA) : DSrc := fun ρ G R => ta ρ G fun vs G1 => ∃ j : Int, vs = [.int j] ∧ (-(2 ^ 62) ≤ j ∧ j < 2 ^ 62) ∧ R (rangeD 0 j.toNat) (fun _ => True) G1
def sRng2 (ta : DTA) : DSrc := fun ρ G R => ta ρ G fun vs G1 => ∃ i j : Int, vs = [.int i, .int j] ∧ (-(2 ^ 62) ≤ i ∧ i < 2 ^ 62 ∧ -(2 ^ 62) ≤ j ∧ j < 2 ^ 62) ∧ R (rangeD i (j - i).toNat) (fun _ => True) G1
theorem rangeD_ok {H1 : Hp} {lo : Int} {n : Nat} : ItOk K (Itr lo n) H1 (rangeD lo n) (fun _ => True) := by
  refine ⟨fun i x H2 G2 hx t2 hr2 c2 => ?_, fun H2 G2 t2 hr2 c2 => ?_⟩
  · unfold rangeD at hx
    rw [List.getElem?_map, Option.map_eq_some_iff] at hx
    obtain ⟨c, hc, rfl⟩ := hx
    have hi : i < n := by
      have := (List.getElem?_eq_some_iff.mp hc).1
      simpa using this
    have hcc : c = i := by
      rw [List.getElem?_range hi] at hc
      exact (Option.some.inj hc).symm
    subst hcc
    refine ⟨hi, fun v2 H3 y => ?_⟩
    obtain ⟨e1, e2⟩ := y
    subst e2
    exact ⟨e1, .int _⟩
  · show n ≤ (rangeD lo n).length
    unfold rangeD
    simp
theorem di_rng1 {tg a : Expr} {ta : DTA} {p pos : Pos} (hg : Gl X "range") (hm : X.mg "range" = none) (ha : DA X [a] ta) (hs : starEach [a] X.env = [(false, eval a X.env)] := by rfl) : DI X tg (.Call (.Name "range" p) [a] [] pos) (sRng1 ta) := by
  refine pi_weak (pi_range1 hg hm ha hs) fun σ H R ⟨ρ, G, R', rs, hr, q, k⟩ => ?_
  refine liftA.of rs hr q fun xs G1 vs H1 t1 hr1 r1 ⟨j, e, ⟨b1, b2⟩, q1⟩ => ?_
  subst e
  cases r1 with
  | cons ra rb =>
    cases rb; cases ra
    exact ⟨j, rfl, b1, b2, k _ _ G1 H1 _ t1 hr1 q1 rangeD_ok⟩
theorem di_rng2 {tg a b : Expr} {ta : DTA} {p pos : Pos} (hg : Gl X "range") (hm : X.mg "range" = none) (ha : DA X [a, b] ta) (hs : starEach [a, b] X.env = [(false, eval a X.env), (false, eval b X.env)] := by rfl) (hs2 : starEach [b] X.env = [(false, eval b X.env)] := by rfl) :
    DI X tg (.Call (.Name "range" p) [a, b] [] pos) (sRng2 ta) := by
  refine pi_weak (pi_range2 hg hm ha hs hs2) fun σ H R ⟨ρ, G, R', rs, hr, q, k⟩ => ?_
  refine liftA.of rs hr q fun xs G1 vs H1 t1 hr1 r1 ⟨i, j, e, bd, q1⟩ => ?_
  subst e
  cases r1 with
  | cons ra rb =>
    cases rb with
    | cons rc rd =>
      cases rd; cases ra; cases rc
      exact ⟨i, j, rfl, bd, k _ _ G1 H1 _ t1 hr1 q1 rangeD_ok⟩
/-! ### for -/
def dForL (chk : Gp → Prop) (g : DTG) (tb : DTS) (F : DEnds) : List D → Rho → Gp → Prop
  | [] => fun ρ G => chk G ∧ F.nx ρ G
  | x :: xs => fun ρ G => chk G ∧ g x ρ G fun ρ' G' => tb { F with nx := dForL chk g tb F xs, ct := dForL chk g tb F xs, bk := F.nx } ρ' G'
def dFor (s : DSrc) (g : DTG) (tb : DTS) : DTS := fun D ρ G => s ρ G fun items chk G1 => dForL chk g tb D items ρ G1
theorem drop_cons {α : Type} {l : List α} {i : Nat} {x : α} {r : List α} (h : l.drop i = x :: r) : l[i]? = some x ∧ l.drop (i + 1) = r := by
  have h1 : i < l.length := by
    rcases Nat.lt_or_ge i l.length with c | c
    · exact c
    · rw [List.drop_eq_nil_of_le c] at h; cases h
  rw [List.drop_eq_getElem_cons h1] at h
  injection h with h2 h3
  exact ⟨by rw [List.getElem?_eq_getElem h1, h2], h3⟩
theorem ds_for {tg iter : Expr} {body : List Stmt} {s : DSrc} {g : DTG} {tb : DTS} (hp : PassesOwn (model X.prog X.w) X.A X.env X.xe) (hc : X.calm = true) (hi : DI X tg iter s) (hg : DG X tg g) (hb : DSs X body tb)
    (hs : ∀ x, foldedSetIterable iter X.env x = pure x := by intro _; rfl) : DS X (.For tg iter body [] pos) (dFor s g tb) := by
  refine ps_weak (ps_for hp hc hi hg hb hs) fun D σ H ⟨ρ, G, E, rs, hr, q, up⟩ => ?_
  refine ⟨ρ, G, _, rs, hr, q, fun items chk G1 H1 J t1 hr1 q1 ok => ?_⟩
  refine ⟨fun i m σ' H' => m = items.length - i ∧ i ≤ items.length ∧ ∃ ρ' G', TS H1 H' ∧ RS X.K H' σ' ρ' ∧ HR X.K H' G' ∧ dForL chk g tb E (items.drop i) ρ' G', ⟨items.length, by simp, Nat.zero_le _, ρ, G1, TS.refl H1, rs.mono t1, hr1, q1⟩, ?_⟩
  rintro i m σ2 H2 ⟨rfl, hi, ρ2, G2, t2, rs2, hr2, q2⟩
  cases hd : items.drop i with
  | nil =>
    rw [hd] at q2
    have e : i = items.length := by
      have := List.drop_eq_nil_iff.mp hd
      omega
    subst e
    exact .inl ⟨ok.stop H2 G2 t2 hr2 q2.1, up.nx ρ2 G2 σ2 H2 (t1.trans t2) rs2 hr2 q2.2⟩
  | cons x r =>
    rw [hd] at q2
    obtain ⟨hx, hr'⟩ := drop_cons hd
    obtain ⟨go, y⟩ := ok.go i x H2 G2 hx t2 hr2 q2.1
    have hlt := (List.getElem?_eq_some_iff.mp hx).1
    refine .inr ⟨go, fun σ' H' => ∃ ρ' G', TS H1 H' ∧ RS X.K H' σ' ρ' ∧ HR X.K H' G' ∧ dForL chk g tb E r ρ' G', fun σ' H' ⟨ρ', G', a, b, c, d⟩ => ⟨items.length - (i + 1), by omega, rfl, hlt, ρ', G', a, b, c, by rw [hr']; exact d⟩, fun v H3 hy => ?_⟩
    obtain ⟨e3, rv⟩ := y v H3 hy
    subst e3
    refine ⟨x, ρ2, G2, _, rv, rs2, hr2, q2.2, fun ρ3 G3 σ3 H4 t3 rs3 hr3 q3 => ?_⟩
    have t13 := t2.trans t3
    exact ⟨ρ3, G3, _, rs3, hr3, q3, ⟨fun ρ' G' σ' H' t' rs' hr' q' => ⟨ρ', G', t13.trans t', rs', hr', q'⟩, fun d G' v H' t' => up.rt d G' v H' ((t1.trans t13).trans t'), fun ρ' G' σ' H' t' => up.nx ρ' G' σ' H' ((t1.trans t13).trans t'), fun ρ' G' σ' H' t' rs' hr' q' => ⟨ρ', G', t13.trans t', rs', hr', q'⟩⟩⟩
/-! ### list comprehensions, the target one name -/
def dLcL (chk : Gp → Prop) (i : Nat) (tt : DTT) (te : DTE) (p : Addr) (fin : Gp → Prop) (ρ : Rho) : List D → Gp → Prop
  | [] => fun G => chk G ∧ fin G
  | x :: xs => fun G => chk G ∧ tt (ρ.set i (some x)) G fun b G1 => if b = true then te (ρ.set i (some x)) G1 fun y G2 => ∃ acc, G2 p = some (.lst acc) ∧ acc.length < sizeLine ∧ dLcL chk i tt te p fin ρ xs (gup G2 p (.lst (acc ++ [y])))
      else dLcL chk i tt te p fin ρ xs G1
def dLc (s : DSrc) (i : Nat) (tt : DTT) (te : DTE) : DTE := fun ρ G Q => s ρ G fun items chk G1 => ∀ p, G1 p = none → dLcL chk i tt te p (fun G' => Q (.ref p) G') (ρ.set i none) items (gup G1 p (.lst []))
def dYes : DTT := fun _ G Q => Q true G
abbrev DTs (X : Cx) (ifs : List Expr) (t : DTT) : Prop := PTs X ifs (liftT X.K t)
theorem dts_nil : DTs X [] dYes := ⟨fun pins s σ H Q I ⟨ρ, G, Q', rs, hr, q, k⟩ => pts_nil.run pins s σ H Q I (k true G H (TS.refl H) hr q)⟩
theorem dts_one {c : Expr} {t : DTT} (h : DT X c t) : DTs X [c] t := pts_one h
theorem wipe_one (σ : L2.St) (i : Nat) (x : V) : (wipe σ [i]).set i (some x) = σ.set i (some x) := by
  show (σ.set i none).set i (some x) = σ.set i (some x)
  rw [List.set_set]
theorem wipe_back (σ : L2.St) (i : Nat) (x : V) : wipe (σ.set i (some x)) [i] = wipe σ [i] := by
  show (σ.set i (some x)).set i none = σ.set i none
  rw [List.set_set]
theorem lift_lc {s : DSrc} {i : Nat} {tt : DTT} {te : DTE} {σ : L2.St} {H : Hp} {Q : VK} (h : liftE K (dLc s i tt te) σ H Q) : tLc (iUp K s) (gName i) (liftT K tt) (liftE K te) [i] σ H Q := by
  obtain ⟨ρ, G, Q', rs, hr, q, k⟩ := h
  refine ⟨ρ, G, _, rs, hr, q, fun items chk G1 H1 J t1 hr1 q1 ok P hP => ?_⟩
  have tn := TS.new (o := HO.lst []) hP
  have rs0 : RS K H1 (wipe σ [i]) (ρ.set i none) := (rs.mono t1).unset i
  refine ⟨fun j m H' => m = items.length - j ∧ j ≤ items.length ∧ ∃ G', TS H1 H' ∧ HR K H' G' ∧ dLcL chk i tt te P (fun G' => Q' (.ref P) G') (ρ.set i none) (items.drop j) G',
    ⟨items.length, by simp, Nat.zero_le _, _, tn, hr1.newG (u := .lst []) hP ⟨[], upd_same, .nil⟩, q1 P (hr1.free hP)⟩, ?_⟩
  rintro j m H2 ⟨rfl, hj, G2, t2, hr2, q2⟩
  cases hd : items.drop j with
  | nil =>
    rw [hd] at q2
    have e : j = items.length := by
      have := List.drop_eq_nil_iff.mp hd
      omega
    subst e
    exact .inl ⟨ok.stop H2 G2 t2 hr2 q2.1, k _ G2 _ H2 (t1.trans t2) hr2 (.ref P) q2.2⟩
  | cons x r =>
    rw [hd] at q2
    obtain ⟨hx, hr'⟩ := drop_cons hd
    obtain ⟨go, y⟩ := ok.go j x H2 G2 hx t2 hr2 q2.1
    have hlt := (List.getElem?_eq_some_iff.mp hx).1
    refine .inr ⟨go, fun H' => ∃ G', TS H1 H' ∧ HR K H' G' ∧ dLcL chk i tt te P (fun G' => Q' (.ref P) G') (ρ.set i none) r G', fun H' ⟨G', a, b, c⟩ => ⟨items.length - (j + 1), by omega, rfl, hlt, G', a, b, by rw [hr']; exact c⟩, fun v H3 hy => ?_⟩
    obtain ⟨e3, rv⟩ := y v H3 hy
    subst e3
    refine ⟨by rw [wipe_one, wipe_back], ?_⟩
    have rs1 : RS K H3 ((wipe σ [i]).set i (some v)) ((ρ.set i none).set i (some x)) := (rs0.mono t2).set i rv
    refine liftT.of rs1 hr2 q2.2 fun b G3 H4 t3 hr3 q3 => ?_
    cases b with
    | false =>
      rw [if_neg Bool.false_ne_true] at q3 ⊢
      exact ⟨G3, t2.trans t3, hr3, q3⟩
    | true =>
      rw [if_pos rfl] at q3 ⊢
      refine liftE.of (rs1.mono t3) hr3 q3 fun z G4 u H5 t4 hr4 r4 ⟨acc, g4, hz, q4⟩ => ?_
      obtain ⟨us, h5, r5⟩ := hr4 P _ g4
      have tp := TS.put (o' := HO.lst (us ++ [u])) h5 (fun _ q => nomatch q) (fun _ _ q => nomatch q)
      exact ⟨us, h5, by rw [r5.length]; exact hz, _, ((t2.trans t3).trans t4).trans tp, hr4.put (u := .lst (acc ++ [z])) h5 (fun _ q => nomatch q) (fun _ _ q => nomatch q) ⟨_, upd_same, (r5.mono tp).append (.cons (r4.mono tp) .nil)⟩, q4⟩
variable {elt tg iter : Expr} {ifs : List Expr} {scope : Scope} {s : DSrc} {tt : DTT} {te : DTE}
theorem de_lc {i : Nat} {x : Str} {px : Pos} (hc : X.calm = true) (hN : X.N.Nodup) (hi : DI X (.Name x px) iter s) (ok : BlkOk X.N X.env.scope scope [(x, i)])
    (hg : ∀ (s : Shared) (H : Hp) (C : Addr) (cl : List (Str × Addr)) (fp : List Addr), PG (X.blk s H scope (compEnvC scope cl C X.env) fp) (.Name x px) (gName i)) (ht : ∀ (s : Shared) (H : Hp) (C : Addr) (cl : List (Str × Addr)) (fp : List Addr), DTs (X.blk s H scope (compEnvC scope cl C X.env) fp) ifs tt)
    (he : ∀ (s : Shared) (H : Hp) (C : Addr) (cl : List (Str × Addr)) (fp : List Addr), DE (X.blk s H scope (compEnvC scope cl C X.env) fp) elt te) (hs : ∀ x, foldedSetIterable iter X.env x = pure x := by intro _; rfl) :
    DE X (.ListComp elt [⟨.Name x px, iter, ifs, 0⟩] scope pos) (dLc s i tt te) :=
  pe_weak (pe_lc (own := [(x, i)]) hc hN hi ok hg ht he hs) fun σ H Q h => lift_lc h
theorem ds_setLc {i j : Nat} {x y : Str} {px py : Pos} {spos : Pos} (hc : X.calm = true) (hN : X.N.Nodup) (hy : X.N[j]? = some y) (hyl : X.env.scope.names.lookup y = some .local)
    (hsw : swapsWith (.ListComp elt [⟨.Name x px, iter, ifs, 0⟩] scope pos) (some (.Name y py)) spos.line X.env = pure true) (hi : DI X (.Name x px) iter s) (ok : BlkOk X.N X.env.scope scope [(x, i)])
    (hg : ∀ (s : Shared) (H : Hp) (C : Addr) (cl : List (Str × Addr)) (fp : List Addr), PG (X.blk s H scope (compEnvC scope cl C X.env) fp) (.Name x px) (gName i)) (ht : ∀ (s : Shared) (H : Hp) (C : Addr) (cl : List (Str × Addr)) (fp : List Addr), DTs (X.blk s H scope (compEnvC scope cl C X.env) fp) ifs tt)
    (he : ∀ (s : Shared) (H : Hp) (C : Addr) (cl : List (Str × Addr)) (fp : List Addr), DE (X.blk s H scope (compEnvC scope cl C X.env) fp) elt te) (hs : ∀ x, foldedSetIterable iter X.env x = pure x := by intro _; rfl) :
    DS X (.Assign [.Name y py] (.ListComp elt [⟨.Name x px, iter, ifs, 0⟩] scope pos) spos) (dAsg (dLc s i tt te) (dgName j)) := by
  refine ps_weak (ps_setLc (te := liftE X.K te) (tt := liftT X.K tt) (own := [(x, i)]) hc hN hy hyl hsw hi ok hg ht he hs) fun D σ H ⟨ρ, G, E, rs, hr, q, up⟩ => ?_
  refine lift_lc ⟨ρ, G, _, rs, hr, q, fun d G' v H' t' hr' r' q' => ?_⟩
  exact up.nx _ G' _ H' t' ((rs.mono t').set j r') hr' q'
end
end DL

/-! DL6: defs and their promises by content. -/
namespace DL
open PySem PySem.Spec PyProof.Rows L2
/-- room for deep recursions -/
structure Rm (k : Nat) (A : Around) : Prop where
  hd : A.handled = none
  dp : A.depth + k + 20 < recursionLimit
  un : A.units + 4 * k + 1500 < cLine
theorem Rm.mono {j k : Nat} {A : Around} (r : Rm k A) (h : j ≤ k) : Rm j A := ⟨r.hd, by have := r.dp; omega, by have := r.un; omega⟩
theorem Rm.deeper {k : Nat} {A : Around} (r : Rm (k + 1) A) (env : Env) : Rm k (A.deeper env) :=
  ⟨r.hd, by have := r.dp; show A.depth + 1 + k + 20 < _; omega, by have := r.un; show A.units + 3 + 4 * k + 1500 < _; omega⟩
theorem Rm.make {k : Nat} {A : Around} (r : Rm (k + 1) A) (C : Addr) (us : List Value) (kw : List (Str × Value)) : Rm k (A.under (.builtin "type.__call__" ⟨.ref C :: us, kw⟩)) :=
  ⟨r.hd, by have := r.dp; rw [make_depth]; omega, by have := r.un; rw [make_units]; omega⟩
theorem Rm.depth {k : Nat} {A : Around} (r : Rm k A) : A.depth < recursionLimit := by have := r.dp; omega
theorem Rm.big {k : Nat} {A : Around} (r : Rm k A) : A.units + 1001 < cLine := by have := r.un; omega
theorem Rm.hu {k : Nat} {A : Around} (r : Rm k A) : A.units + 1 < cLine := by have := r.un; omega
theorem Rm.room {k : Nat} {A : Around} (r : Rm k A) : Room 4 A := ⟨r.hd, by have := r.dp; omega, by have := r.un; omega⟩
theorem Rm.of {A : Around} (r : Room 231 A) : Rm 590 A := ⟨r.hd, by have := r.dp; omega, by have := r.un; omega⟩

abbrev DSp := List D → Gp → DK → DX → Prop
def QUp (K : PySem.W.Frag) (H : Hp) (Q : DK) : VK := fun v H' => ∃ d G', TS H H' ∧ HR K H' G' ∧ Rp K H' v d ∧ Q d G'
def XD (K : PySem.W.Frag) (H : Hp) (dx : Option Addr) (fs : List (Str × D)) : Prop := (dx = none ∧ fs = []) ∨ ∃ dd gs, dx = some dd ∧ H dd = some (.xd gs) ∧ PrD K H gs fs
def EUp (K : PySem.W.Frag) (H : Hp) (E : DX) : XK := fun cls dx H' => ∃ C fs G', cls = .ref C ∧ TS H H' ∧ HR K H' G' ∧ XD K H' dx fs ∧ E C fs G'
structure FnD (P : Program) (w : World) (K : PySem.W.Frag) (mg : Str → Option Value) (base : Heap) (k : Nat) (f : Addr) (fd : FuncData) (ps : List Str) (sp : DSp) : Prop where
  len : ∀ ds G Q E, sp ds G Q E → ds.length = ps.length
  run : ∀ (A : Around) (outer : List Env) (s : Shared) (H : Hp) (args : Args) (us : List Value) (vs : List V) (ds : List D) (G : Gp) (Q : DK) (E : DX), Rm k A → Env0 P w K mg base A outer s H → BindsTo s fd args (ps.zip us) → Vals vs us → RpA K H vs ds → HR K H G → sp ds G Q E →
    codeAny (model P w) A (.call (.ref f) args) (CR (L2.CX P w) outer P w H s (QUp K H Q) (EUp K H E)) s
section
variable {P : Program} {w : World} {K : PySem.W.Frag} {mg : Str → Option Value} {base : Heap} {k : Nat} {f : Addr} {fd : FuncData} {ps : List Str} {sp : DSp}
theorem FnD.mono {j : Nat} (F : FnD P w K mg base j f fd ps sp) (h : j ≤ k) : FnD P w K mg base k f fd ps sp :=
  ⟨F.len, fun A outer s H args us vs ds G Q E hr => F.run A outer s H args us vs ds G Q E (hr.mono h)⟩
theorem FnD.imp {sp' : DSp} (F : FnD P w K mg base k f fd ps sp) (h : ∀ ds G Q E, sp' ds G Q E → sp ds G Q E) : FnD P w K mg base k f fd ps sp' :=
  ⟨fun vs H Q E q => F.len vs H Q E (h _ _ _ _ q), fun A outer s H args us vs ds G Q E hr he hb hv hd hg hs => F.run A outer s H args us vs ds G Q E hr he hb hv hd hg (h _ _ _ _ hs)⟩
/-- nothing can be asked -/
theorem FnD.none (h : ∀ ds G Q E, ¬ sp ds G Q E) : FnD P w K mg base k f fd ps sp :=
  ⟨fun ds G Q E q => absurd q (h _ _ _ _), fun A outer s H args us vs ds G Q E hr he hb hv hd hg hs => absurd hs (h _ _ _ _)⟩
/-- the ends of a def's body: what it made besides may be forgotten -/
abbrev fnEnds (Q : DK) : DEnds := { nx := fun _ G' => ∃ G'', Sub G'' G' ∧ Q .non G'', rt := fun d G' => ∃ G'', Sub G'' G' ∧ Q d G'' }
theorem fn_run {CX : CXT} {name qual : Str} {params : Arguments} {body : List Stmt} {scope : Scope} {dV kV doc pm cdv ct oc : Value} {an od : Option Addr}
    {osl : Array (Option Value)} {N : List Str} (lk : K.lookup f = some ⟨oc, od, .func (PySem.W.fnOf name qual params body scope dV kV doc pm an cdv ct), osl⟩) (hcd : PySem.W.codeIn K cdv qual = true) (S : FnScope N ps scope)
    {A : Around} {outer : List Env} {s : Shared} {H : Hp} {args : Args} {us : List Value} {vs : List V} {ds : List D} {G : Gp} {Q : DK} {E : DX} {t : DTS}
    (hr : Rm (k + 1) A) (e0 : Env0 P w K mg base A outer s H) (hb : BindsTo s (PySem.W.fnOf name qual params body scope dV kV doc pm an cdv ct) args (ps.zip us)) (r : Vals vs us) (rd : RpA K H vs ds) (hG : HR K H G) (hl : ds.length = ps.length)
    (ht : Rm k (A.deeper (envOfC qual scope s.heap.objs.size f cdv)) → PSs (cxOf CX P w K mg base N qual scope f cdv A outer s H (EUp K H E)) body (liftS K t)) (hq : t (fnEnds Q) (dstart N ds) G) :
    codeAny (model P w) A (.call (.ref f) args) (CR CX outer P w H s (QUp K H Q) (EUp K H E)) s := by
  have hl : vs.length = ps.length := rd.length.trans hl
  have KX : K.In s.heap := e0.mod.kin.keeps fun b o e => (e0.bs b o e).1
  have lim : s.heap.NoLimit := e0.mod.nolimit.keeps fun b o e => (e0.bs b o e).1
  have hkind : ∀ y ∈ ps.zip us, scope.names.lookup y.1 = some .local ∨ (scope.names.lookup y.1 = some .cell ∧ ((cellsFrom (s.heap.objs.size + 1) scope.names []).lookup y.1).isSome = true) := fun ⟨n, v⟩ hy => by
    rcases S.par n (List.of_mem_zip hy).1 with q | q
    · exact .inl q
    · exact .inr ⟨q, PySem.W.cellsFrom_some _ _ _ (.inl q)⟩
  refine codeAny_call_function hr.depth (KX _ _ lk) rfl S.co S.gen rfl (PySem.W.codeRec_of KX hcd) (hb _ _ _ _ ?_)
  refine wpAny_newFunctionEnv_cells S.kind hkind fun env he s1 x => ?_
  subst he
  refine ⟨lim.keeps x.toInCall.keep, codeAny_func ?_⟩
  have I : Inv (cxOf CX P w K mg base N qual scope f cdv A outer s H (EUp K H E)) [] (L2.start N vs) H s1 := inv_start S hr.hd e0 hl r x
  have hq' : liftS K t { nx := fun _ H' => QUp K H Q .non H', rt := QUp K H Q } (L2.start N vs) H := by
    refine ⟨_, G, _, RS.start N rd, hG, hq, ⟨fun ρ' G' σ' H' t' rs' hr' ⟨G'', sb, q'⟩ => ⟨.non, G'', t', hr'.sub sb, .non, q'⟩, fun d G' v H' t' r' hr' ⟨G'', sb, q'⟩ => ⟨d, G'', t', hr'.sub sb, r', q'⟩, fun _ _ _ _ _ _ _ q' => q'.elim, fun _ _ _ _ _ _ _ q' => q'.elim⟩⟩
  refine wpAny_mono ((ht (hr.deeper _)).run [] s1 (L2.start N vs) H _ I hq') (fun fl s' hs => ?_) fun e s' hs => hs
  have fin : ∀ {σ' : L2.St} {H' : Hp} {v : V} {u : Value}, Inv (cxOf CX P w K mg base N qual scope f cdv A outer s H (EUp K H E)) [] σ' H' s' → RelV v u → QUp K H Q v H' → CE outer P w H s (QUp K H Q) u s' :=
    fun {σ' H' v u} J rv q => ⟨v, H', J.os, J.bare, J.base, J.hok, rv, q⟩
  cases fl with
  | ret u =>
    obtain ⟨v, σ', H', J, rv, q⟩ := hs
    exact fin J rv q
  | next =>
    obtain ⟨σ', H', J, q⟩ := hs
    exact fin (v := V.non) (u := Value.none) J rfl q
  | brk =>
    obtain ⟨_, _, _, q⟩ := hs
    exact False.elim q
  | cont =>
    obtain ⟨_, _, _, q⟩ := hs
    exact False.elim q
/-- THE RULE for a def that raises nothing -/
theorem fnD_ok {x qual : Str} {st : Stmt} {N : List Str} {t : DTS} (F : L2.Fun K x qual st f fd) (S : FnScope N ps (defScope st)) (len : ∀ ds G Q E, sp ds G Q E → ds.length = ps.length)
    (der : ∀ (cdv : Value) (A : Around) (outer : List Env) (s : Shared) (H : Hp) (E : XK), Rm k (A.deeper (envOfC qual (defScope st) s.heap.objs.size f cdv)) →
      DSs (cxOf CX0 P w K mg base N qual (defScope st) f cdv A outer s H E).nox (defBody st) t)
    (pure : ∀ ds G Q E, sp ds G Q E → t (fnEnds Q) (dstart N ds) G) : FnD P w K mg base (k + 1) f fd ps sp := by
  obtain ⟨oc, od, kV, doc, pm, an, cdv, ct, osl, rfl, lk, hcd⟩ := F.ex
  refine ⟨len, fun A outer s H args us vs ds G Q E hr e0 hb r rd hG hsp => ?_⟩
  have h := fn_run (CX := CX0) (t := t) (Q := Q) (E := E) lk hcd S hr e0 hb r rd hG (len _ _ _ _ hsp) (fun hr' => PSs.nox (der cdv A outer s H _ hr')) (pure _ _ _ _ hsp)
  refine codeAny_mono h fun r s' hq => ?_
  cases r with
  | error e => exact False.elim hq
  | ok fl =>
    cases fl with
    | ret u => exact hq
    | next => exact False.elim hq
    | brk => exact False.elim hq
    | cont => exact False.elim hq
/-- THE RULE for a def that may raise -/
theorem fnD_okX {x qual : Str} {st : Stmt} {N : List Str} {t : DX → DTS} (F : L2.Fun K x qual st f fd) (S : FnScope N ps (defScope st)) (len : ∀ ds G Q E, sp ds G Q E → ds.length = ps.length)
    (der : ∀ (cdv : Value) (A : Around) (outer : List Env) (s : Shared) (H : Hp) (E : DX), Rm k (A.deeper (envOfC qual (defScope st) s.heap.objs.size f cdv)) →
      DSs (cxOf (L2.CX P w) P w K mg base N qual (defScope st) f cdv A outer s H (EUp K H E)) (defBody st) (t E))
    (pure : ∀ ds G Q E, sp ds G Q E → t E (fnEnds Q) (dstart N ds) G) : FnD P w K mg base (k + 1) f fd ps sp := by
  obtain ⟨oc, od, kV, doc, pm, an, cdv, ct, osl, rfl, lk, hcd⟩ := F.ex
  refine ⟨len, fun A outer s H args us vs ds G Q E hr e0 hb r rd hG hsp => ?_⟩
  exact fn_run (t := t E) lk hcd S hr e0 hb r rd hG (len _ _ _ _ hsp) (fun hr' => der cdv A outer s H E hr') (pure _ _ _ _ hsp)
end
/-! ### calls -/
section
variable {X : Cx} {k : Nat} {f C : Addr} {fd : FuncData} {ps : List Str} {sp : DSp} {dvs : List D} {dus : List V} {ds : List Value} {x m : Str} {p pos apos : Pos} {e o : Expr} {es : List Expr} {ta : DTE} {t : DTA}
/-- the callee runs -/
theorem run_fnD {pins : List (Addr × Obj)} {σ : L2.St} {H : Hp} {s : Shared} {Q : DK} {E : DX} {us : List Value} {vs : List V} {xs : List D} {G : Gp} (F : FnD X.prog X.w X.K X.mg X.base k f fd ps sp) (hr : Rm k X.A) (hb : Binds X.K fd ps ds) (hd : Vals dus ds) (hdd : RpA X.K H dus dvs)
    (hx : Passes (L2.CX X.prog X.w) X (EUp X.K H E)) (I : Inv X pins σ H s) (r : Vals vs us) (rd : RpA X.K H vs xs) (hG : HR X.K H G) (h : sp (xs ++ dvs) G Q E) : wpAny (model X.prog X.w) X.A (call (.ref f) us) (EP X pins σ (QUp X.K H Q)) X.xe s := by
  have r2 : Vals (vs ++ dus) (us ++ ds) := r.append hd
  have rd2 := rd.append hdd
  have hl : (us ++ ds).length = ps.length := by rw [← r2.length, rd2.length]; exact F.len _ _ _ _ h
  refine wpAny_call (codeAny_mono (F.run X.A X.stack s H ⟨us, []⟩ (us ++ ds) (vs ++ dus) (xs ++ dvs) G Q E hr I.env0 (hb s us I.kIn hl) r2 rd2 hG h) fun r s' hq => ?_)
  cases r with
  | error e => exact hx pins σ H s e s' I hq
  | ok fl =>
    cases fl with
    | ret u => exact I.after hq
    | next => exact False.elim hq
    | brk => exact False.elim hq
    | cont => exact False.elim hq
abbrev DX0 : DX := fun _ _ _ => False
theorem pass_d {X : Cx} {K : PySem.W.Frag} {H : Hp} : Passes (L2.CX X.prog X.w) X (EUp K H DX0) := fun _ _ _ _ _ _ _ h => by
  obtain ⟨_, _, _, _, _, _, _, _, _, _, _, _, z⟩ := h
  obtain ⟨_, _, _, _, _, _, _, z⟩ := z
  exact z.elim
/-- f(..): nothing is raised -/
def dCall (sp : DSp) (dvs : List D) (t : DTA) : DTE := fun ρ G Q => t ρ G fun vs G1 => sp (vs ++ dvs) G1 Q DX0
/-- the written arguments come; then the def -/
theorem lift_call {K : PySem.W.Frag} {σ : L2.St} {H : Hp} {Q : VK} {E : DX} {sp : DSp} {dvs : List D} {t : DTA} (h : liftE K (fun ρ G Q => t ρ G fun vs G1 => sp (vs ++ dvs) G1 Q E) σ H Q) :
    liftA K t σ H fun vs H1 => ∃ xs G1 Q1, RpA K H1 vs xs ∧ HR K H1 G1 ∧ sp (xs ++ dvs) G1 Q1 E ∧ ∀ v H2, QUp K H1 Q1 v H2 → Q v H2 := by
  obtain ⟨ρ, G, Q', rs, hr, q, k⟩ := h
  refine liftA.of rs hr q fun xs G1 vs H1 t1 hr1 r1 q1 => ⟨xs, G1, Q', r1, hr1, q1, fun v H2 ⟨d, G2, t2, hr2, r2, q2⟩ => k d G2 v H2 (t1.trans t2) hr2 r2 q2⟩
theorem de_call (F : FnD X.prog X.w X.K X.mg X.base k f fd ps sp) (hr : Rm k X.A) (hg : Gl X x) (hm : X.mg x = some (.ref f)) (hk : PySem.W.keepIn X.K (.ref f) = true) (hb : Binds X.K fd ps ds) (hd : Vals dus ds) (hdd : ∀ H : Hp, RpA X.K H dus dvs)
    (ha : DA X (e :: es) t) (hdb : (x == ("__debug__" : Str)) = false := by decide) (he : starEach (e :: es) X.env = (false, eval e X.env) :: starEach es X.env := by rfl) (hpl : (backTo pos (starEach es X.env)).any (·.1) = false := by rfl) :
    DE X (.Call (.Name x p) (e :: es) [] pos) (dCall sp dvs t) := by
  refine ⟨fun pins s σ H Q I h => ?_⟩
  refine wpAny_Call_Name_kw (ld_glob I hg hm ?_ hdb)
  refine PySem.W.callWith_K (h₀ := X.base) I.ok.mod.kin hk (thn (ha.run pos pins s σ H _ I (lift_call h)) fun us s1 ⟨vs, H1, I1, r, xs, G1, Q1, rd, hG, q, kk⟩ => ⟨I1.kIn, ?_⟩) he hpl
  exact thn (run_fnD F hr hb hd (hdd H1) pass_d I1 r rd hG q) fun u s2 ⟨v, H2, I2, r2, q2⟩ => ⟨v, H2, I2, r2, kk v H2 q2⟩
theorem de_call0 (F : FnD X.prog X.w X.K X.mg X.base k f fd ps sp) (hr : Rm k X.A) (hg : Gl X x) (hm : X.mg x = some (.ref f)) (hk : PySem.W.keepIn X.K (.ref f) = true) (hb : Binds X.K fd ps ds) (hd : Vals dus ds) (hdd : ∀ H : Hp, RpA X.K H dus dvs)
    (hdb : (x == ("__debug__" : Str)) = false := by decide) : DE X (.Call (.Name x p) [] [] pos) (dCall sp dvs dNil) := by
  refine ⟨fun pins s σ H Q I ⟨ρ, G, Q', rs, hrr, q, kk⟩ => ?_⟩
  refine wpAny_Call_Name_kw (ld_glob I hg hm ?_ hdb)
  exact PySem.W.callWith_K0 I.kIn hk (thn (run_fnD (us := []) F hr hb hd (hdd H) pass_d I .nil .nil hrr q) fun u s2 ⟨v, H2, I2, r2, d, G2, t2, hr2, rd2, q2⟩ => ⟨v, H2, I2, r2, kk d G2 v H2 t2 hr2 rd2 q2⟩)
end
/-! ### the law -/
section
variable {P : Program} {w : World} {K : PySem.W.Frag} {mg : Str → Option Value} {base : Heap} {k : Nat} {f : Addr} {fd : FuncData}
/-- what law(script) promises: True at every list of at most 63 ints -/
def spLaw : DSp := fun ds _ Q _ => ∃ ns : List Int, ds = [.rol (ns.map .int)] ∧ ns.length ≤ 63 ∧ ∀ G', Q (.bl true) G'
def vLaw (K : PySem.W.Frag) : Sp := fun vs H Q _ => ∃ (a : Addr) (ns : List Int), vs = [.ref a] ∧ SqL K H a (ns.map V.int) ∧ (∀ H' : Hp, TS H H' → SqL K H' a (ns.map V.int)) ∧ ns.length ≤ 63 ∧ (∀ H', Q (.bl true) H')
theorem ints_rp {K : PySem.W.Frag} {H : Hp} : ∀ ns : List Int, RpA K H (ns.map V.int) (ns.map D.int)
  | [] => .nil
  | n :: r => .cons (.int n) (ints_rp r)
theorem law_ok (F : FnD P w K mg base 590 f fd ["_law_script"] spLaw) : FnOk P w K mg base (L2.CX P w) 231 f fd ["_law_script"] (vLaw K) := by
  refine ⟨fun vs H Q E ⟨a, ns, e, _⟩ => by rw [e]; rfl, fun A outer s H args us vs Q E hr e0 hb r ⟨a, ns, e, hS, hT, hl, q⟩ => ?_⟩
  subst e
  have h := F.run A outer s H args us [.ref a] [.rol (ns.map .int)] (fun _ => none) (fun d _ => d = .bl true) DX0 (Rm.of hr) e0 hb r (.cons (.rol hT (ints_rp ns)) .nil) (fun _ _ z => nomatch z) ⟨ns, rfl, hl, fun _ => rfl⟩
  refine codeAny_mono h fun r s' hq => ?_
  cases r with
  | error e =>
    obtain ⟨_, _, _, _, _, _, _, _, _, _, _, _, z⟩ := hq
    obtain ⟨_, _, _, _, _, _, _, z⟩ := z
    exact z.elim
  | ok fl =>
    cases fl with
    | ret u =>
      obtain ⟨v, H', os, bare, un, hok, rv, d, G', t', hr', rp, e⟩ := hq
      subst e
      cases rp
      exact ⟨_, H', os, bare, un, hok, rv, q H'⟩
    | next => exact False.elim hq
    | brk => exact False.elim hq
    | cont => exact False.elim hq
theorem only_ts {H H' : Hp} {a : Addr} {xs : List V} (hO : Only H) (hS : SqL K H a xs) (t : TS H H') : SqL K H' a xs := by
  rcases hS with (h | ⟨o, h⟩) | h
  · rcases hO a with q | ⟨o, ys, q⟩ <;> rw [h] at q <;> cases q
  · exact .inl (.inr ⟨o, t.frz _ _ _ h⟩)
  · exact .inr h
theorem law_walk {l : PySem.W.OpenLaw} {q : Program} {loose : List Str} {XP : (Str → Option Value) → Heap → Prop} {YP : World → Heap → Prop} {d : DefRec} {K : Params → PySem.W.Frag} (hn : l.most = some 63) (hdf : d.params.defaults = [])
    (hr : Room 231 callerA)
    (hY : ∀ (w : World) (h : Heap), YP w h → (K w.params).In h)
    (F : ∀ (w : World) (mg : Str → Option Value) (fa : Addr) (h : Heap), (K w.params).In h → h.Ns mainGlobals mg → mg d.name = some (.ref fa) →
      ∃ fd : FuncData, (∀ (s : Shared) (u : Value), BindsTo s fd ⟨[u], []⟩ [("_law_script", u)]) ∧ ∀ base : Heap, (K w.params).In base → base.Ns mainGlobals mg → FnD l.prog w (K w.params) mg base 590 fa fd ["_law_script"] spLaw) :
    PySem.W.WalkO q loose XP YP l.row.toRowW d [] (fun f vs => PySem.call f vs) := by
  refine L2.walk_of (n := 63) (k := 231) (x := "_law_script") (CX := fun w => L2.CX l.prog w) (sp := fun w => vLaw (K w.params)) hn (by decide) hdf hr hY (fun w mg fa h hk hns hm => ?_) (fun w H a ns hl hO hS => ⟨a, ns, rfl, hS, fun H' t => only_ts hO hS t, hl, fun _ => rfl⟩) fun w H s e s' z => ?_
  · obtain ⟨fd, hb, hF⟩ := F w mg fa h hk hns hm
    exact ⟨fd, hb, fun base h1 h2 => law_ok (hF base h1 h2)⟩
  · obtain ⟨_, _, _, _, _, _, _, _, _, _, _, _, q⟩ := z
    exact q.elim
end
end DL

/-! DL7: steps for the readings. -/
namespace DL
open PySem PySem.Spec PyProof.Rows L2
theorem itemsD_gup {G : Gp} {p : Addr} {o : DO} {x : D} {ds : List D} (h : itemsD G x = some ds) (n : G p = none) : itemsD (gup G p o) x = some ds := by
  cases x with
  | ref a =>
    unfold itemsD at h ⊢
    have : a ≠ p := by
      intro e; subst e; simp [n] at h
    simp only [gup_ne this]
    exact h
  | _ => exact h
theorem itemsD_ref {G : Gp} {a : Addr} {ds : List D} (h : G a = some (.lst ds)) : itemsD G (.ref a) = some ds := by
  unfold itemsD; simp only [h]
theorem itemsD_same {G : Gp} {a : Addr} {ds : List D} : itemsD (gup G a (.lst ds)) (.ref a) = some ds := itemsD_ref gup_same
theorem gup_at {G : Gp} {a b : Addr} {o u : DO} (h : G a = some o) (n : G b = none) : gup G b u a = some o := by
  rw [gup_ne (gne h n)]; exact h
/-- == of texts, of ints -/
theorem rEq_str {a b : Str} {G : Gp} {Q : DK} (q : Q (.bl (decide (a = b))) G) : rEq (.str a) (.str b) G Q :=
  ⟨_, .inl ⟨rfl, rfl, rfl, rfl⟩, by
    have e : decide (vOf (.str a) = vOf (.str b)) = decide (a = b) := by
      have : (vOf (.str a) = vOf (.str b)) ↔ a = b := ⟨fun h => V.str.inj h, fun h => by rw [h]⟩
      exact decide_eq_decide.mpr this
    rw [e]; exact q⟩
theorem rEq_int {a b : Int} {G : Gp} {Q : DK} (q : Q (.bl (decide (a = b))) G) : rEq (.int a) (.int b) G Q :=
  ⟨_, .inl ⟨rfl, rfl, rfl, rfl⟩, by
    have e : decide (vOf (.int a) = vOf (.int b)) = decide (a = b) := by
      have : (vOf (.int a) = vOf (.int b)) ↔ a = b := ⟨fun h => V.int.inj h, fun h => by rw [h]⟩
      exact decide_eq_decide.mpr this
    rw [e]; exact q⟩
theorem rNe_str {a b : Str} {G : Gp} {Q : DK} (q : Q (.bl (!decide (a = b))) G) : rNe (.str a) (.str b) G Q :=
  ⟨_, .inl ⟨rfl, rfl, rfl, rfl⟩, by
    have e : decide (vOf (.str a) = vOf (.str b)) = decide (a = b) := by
      have : (vOf (.str a) = vOf (.str b)) ↔ a = b := ⟨fun h => V.str.inj h, fun h => by rw [h]⟩
      exact decide_eq_decide.mpr this
    rw [e]; exact q⟩
theorem rNe_int {a b : Int} {G : Gp} {Q : DK} (q : Q (.bl (!decide (a = b))) G) : rNe (.int a) (.int b) G Q :=
  ⟨_, .inl ⟨rfl, rfl, rfl, rfl⟩, by
    have e : decide (vOf (.int a) = vOf (.int b)) = decide (a = b) := by
      have : (vOf (.int a) = vOf (.int b)) ↔ a = b := ⟨fun h => V.int.inj h, fun h => by rw [h]⟩
      exact decide_eq_decide.mpr this
    rw [e]; exact q⟩
/-! ### tests -/
theorem ifT {c : Bool} {A B : Prop} (h : c = true) (a : A) : if c = true then A else B := by rw [if_pos h]; exact a
theorem ifF {c : Bool} {A B : Prop} (h : c = false) (b : B) : if c = true then A else B := by rw [h, if_neg Bool.false_ne_true]; exact b
theorem if2 {c : Bool} {A B : Prop} (a : c = true → A) (b : c = false → B) : if c = true then A else B := by
  cases c with
  | true => exact ifT rfl (a rfl)
  | false => exact ifF rfl (b rfl)
theorem ifD {p : Prop} [Decidable p] {A B : Prop} (a : p → A) (b : ¬ p → B) : if decide p = true then A else B := by
  by_cases h : p
  · exact ifT (decide_eq_true h) (a h)
  · exact ifF (decide_eq_false h) (b h)
theorem ifDt {p : Prop} [Decidable p] {A B : Prop} (h : p) (a : A) : if decide p = true then A else B := ifT (decide_eq_true h) a
theorem ifDf {p : Prop} [Decidable p] {A B : Prop} (h : ¬ p) (b : B) : if decide p = true then A else B := ifF (decide_eq_false h) b
/-! ### loops of pure turns -/
/-- a comprehension whose element is a function of the item -/
theorem lc_map {i : Nat} {te : DTE} {p : Addr} {fin : Gp → Prop} {ρ : Rho} {G : Gp} (hp : G p = none) (chk : Gp → Prop) (hc : ∀ acc, chk (gup G p (.lst acc))) (f : D → D) : ∀ (items : List D) (acc : List D), acc.length + items.length ≤ sizeLine →
    (∀ x ∈ items, ∀ acc Q, Q (f x) (gup G p (.lst acc)) → te (ρ.set i (some x)) (gup G p (.lst acc)) Q) → fin (gup G p (.lst (acc ++ items.map f))) →
    dLcL chk i dYes te p fin ρ items (gup G p (.lst acc))
  | [], acc, _, _, q => ⟨hc _, by simpa using q⟩
  | x :: r, acc, hl, ht, q => by
    refine ⟨hc _, ?_⟩
    show te (ρ.set i (some x)) (gup G p (.lst acc)) _
    refine ht x List.mem_cons_self acc _ ⟨acc, gup_same, by simp at hl; omega, ?_⟩
    rw [gup_gup]
    refine lc_map hp chk hc f r (acc ++ [f x]) (by simp at hl ⊢; omega) (fun y hy => ht y (List.mem_cons_of_mem _ hy)) ?_
    simpa using q
/-- .. with a test -/
theorem lc_filter {i : Nat} {tt : DTT} {te : DTE} {p : Addr} {fin : Gp → Prop} {ρ : Rho} {G : Gp} (hp : G p = none) (chk : Gp → Prop) (hc : ∀ acc, chk (gup G p (.lst acc))) (c : D → Bool) (f : D → D) : ∀ (items : List D) (acc : List D), acc.length + items.length ≤ sizeLine →
    (∀ x ∈ items, ∀ acc Q, Q (c x) (gup G p (.lst acc)) → tt (ρ.set i (some x)) (gup G p (.lst acc)) Q) →
    (∀ x ∈ items, c x = true → ∀ acc Q, Q (f x) (gup G p (.lst acc)) → te (ρ.set i (some x)) (gup G p (.lst acc)) Q) → fin (gup G p (.lst (acc ++ (items.filter c).map f))) →
    dLcL chk i tt te p fin ρ items (gup G p (.lst acc))
  | [], acc, _, _, _, q => ⟨hc _, by simpa using q⟩
  | x :: r, acc, hl, hc', ht, q => by
    refine ⟨hc _, hc' x List.mem_cons_self acc _ ?_⟩
    cases e : c x with
    | true =>
      refine ifT rfl (ht x List.mem_cons_self e acc _ ⟨acc, gup_same, by simp at hl; omega, ?_⟩)
      rw [gup_gup]
      refine lc_filter hp chk hc c f r (acc ++ [f x]) (by simp at hl ⊢; omega) (fun y hy => hc' y (List.mem_cons_of_mem _ hy)) (fun y hy => ht y (List.mem_cons_of_mem _ hy)) ?_
      simpa [List.filter_cons, e] using q
    | false =>
      refine ifF rfl ?_
      refine lc_filter hp chk hc c f r acc (by simp at hl ⊢; omega) (fun y hy => hc' y (List.mem_cons_of_mem _ hy)) (fun y hy => ht y (List.mem_cons_of_mem _ hy)) ?_
      simpa [List.filter_cons, e] using q
/-- a comprehension whose turns change things -/
theorem lc_go {i : Nat} {te : DTE} {p : Addr} {fin : Gp → Prop} {ρ : Rho} {chk : Gp → Prop} (I : List D → List D → Gp → Prop) (hc : ∀ xs acc G, I xs acc G → chk G)
    (turn : ∀ x xs acc G, I (x :: xs) acc G → acc.length < sizeLine ∧ ∀ S : DK, (∀ y G2, G2 p = some (.lst acc) → I xs (acc ++ [y]) (gup G2 p (.lst (acc ++ [y]))) → S y G2) → te (ρ.set i (some x)) G S)
    (done : ∀ acc G, I [] acc G → fin G) : ∀ xs acc G, I xs acc G → dLcL chk i dYes te p fin ρ xs G
  | [], acc, G, h => ⟨hc _ _ _ h, done acc G h⟩
  | x :: xs, acc, G, h => by
    refine ⟨hc _ _ _ h, ?_⟩
    obtain ⟨hl, t⟩ := turn x xs acc G h
    show te (ρ.set i (some x)) G _
    exact t _ fun y G2 g h2 => ⟨acc, g, hl, lc_go I hc turn done xs (acc ++ [y]) _ h2⟩
/-- a for whose turns go on: an invariant by what is left -/
theorem for_inv {chk : Gp → Prop} {g : DTG} {tb : DTS} {F : DEnds} (I : List D → Rho → Gp → Prop) (hc : ∀ xs ρ G, I xs ρ G → chk G)
    (turn : ∀ x xs ρ G, I (x :: xs) ρ G → ∀ N : Rho → Gp → Prop, (∀ ρ' G', I xs ρ' G' → N ρ' G') → g x ρ G fun ρ' G' => tb { F with nx := N, ct := N, bk := F.nx } ρ' G')
    (done : ∀ ρ G, I [] ρ G → F.nx ρ G) : ∀ xs ρ G, I xs ρ G → dForL chk g tb F xs ρ G
  | [], ρ, G, h => ⟨hc _ _ _ h, done _ _ h⟩
  | x :: xs, ρ, G, h => ⟨hc _ _ _ h, turn x xs ρ G h _ fun ρ' G' h' => for_inv I hc turn done xs ρ' G' h'⟩
/-- a while: an invariant with a measure -/
theorem while_inv {c : DTT} {tb : DTS} {F : DEnds} (I : Nat → Rho → Gp → Prop)
    (turn : ∀ n ρ G, I n ρ G → ∀ N : Rho → Gp → Prop, (∀ m ρ' G', m < n → I m ρ' G' → N ρ' G') → c ρ G fun b G1 => if b = true then tb { F with nx := N, ct := N, bk := F.nx } ρ G1 else F.nx ρ G1)
    (more : ∀ n ρ G (Q : Bool → Gp → Prop) (Q' : Bool → Gp → Prop), I n ρ G → (∀ b G1, Q b G1 → Q' b G1) → c ρ G Q → c ρ G Q')
    (n : Nat) (ρ : Rho) (G : Gp) (h : I n ρ G) : dWhile c tb F ρ G := by
  refine ⟨I, ⟨n, h⟩, fun m ρ G h => ?_⟩
  refine more m ρ G _ _ h (fun b G1 q => ?_) (turn m ρ G h (fun ρ' G' => ∃ m', m' < m ∧ I m' ρ' G') fun m' ρ' G' hm h' => ⟨m', hm, h'⟩)
  cases b with
  | true => exact ⟨_, fun ρ' G' q' => q', q⟩
  | false => exact q
/-! ### small facts -/
theorem atI_of {α : Type} {xs : List α} {j : Nat} {v : α} (h : xs[j]? = some v) : L2.atI xs (j : Int) = some v := atI_nat h
theorem at0 {α : Type} {x : α} {xs : List α} : L2.atI (x :: xs) 0 = some x := atI_nat (j := 0) rfl
theorem at1 {α : Type} {x y : α} {xs : List α} : L2.atI (x :: y :: xs) 1 = some y := atI_nat (j := 1) rfl
theorem at2 {α : Type} {x y z : α} {xs : List α} : L2.atI (x :: y :: z :: xs) 2 = some z := atI_nat (j := 2) rfl
theorem ix0 {n : Nat} (h : 0 < n) : ixN n 0 = some 0 := by unfold ixN; simp [h]
theorem st_ix_tup {ds : List D} {i : Int} {d : D} {G : Gp} {Q : DK} (h : L2.atI ds i = some d) (q : Q d G) : rIxD (.tup ds) (.int i) G Q := ⟨i, rfl, ds, d, rfl, h, q⟩
theorem st_ix_lst {a : Addr} {ds : List D} {i : Int} {d : D} {G : Gp} {Q : DK} (g : G a = some (.lst ds)) (h : L2.atI ds i = some d) (q : Q d G) : rIxD (.ref a) (.int i) G Q := ⟨i, rfl, ds, d, itemsD_ref g, h, q⟩
theorem st_in_tup {x : D} {ds : List D} {G : Gp} {Q : DK} (f : flatD x = true) (h : ds.all flatD = true) (q : Q (.bl (inFlat x ds)) G) : rInSeq false x (.tup ds) G Q := ⟨ds, rfl, f, h, q⟩
theorem st_fin {S : Gp → Prop} {G : Gp} (q : S G) : ∃ G'', Sub G'' G ∧ S G'' := ⟨G, Sub.refl G, q⟩
theorem bools_map (bs : List Bool) : boolsD (bs.map .bl) = some bs := by
  induction bs with
  | nil => rfl
  | cons b r ih => simp [boolsD, ih]
theorem ints_map (bs : List Int) : intsD (bs.map .int) = some bs := by
  induction bs with
  | nil => rfl
  | cons b r ih => simp [intsD, ih]
theorem Sub.free' {G G' : Gp} {p : Addr} (s : Sub G G') (h : G' p = none) : G p = none := by
  cases e : G p with
  | none => rfl
  | some o => rw [s p o e] at h; cases h
theorem sub_gup {G G' : Gp} {p : Addr} {o : DO} (s : Sub G G') (h : G' p = none) : Sub G (gup G' p o) := s.trans (Sub.new h)
end DL

/-! DL8: one lemma a step of a reading. -/
namespace DL
open PySem PySem.Spec PyProof.Rows L2
section
variable {a b c : Rho → Gp → Prop} {r : DK} {t u : DTS} {F : DEnds} {ρ : Rho} {G : Gp} {te ta tb : DTE} {tt tu : DTT} {tl : DTA} {g : DTG} {Q : DK} {d x y : D} {i : Nat} {P : Bool → Gp → Prop} {R : List D → Gp → Prop}
theorem st_seq (h : t ⟨u ⟨a, r, b, c⟩, r, b, c⟩ ρ G) : dSeq t u ⟨a, r, b, c⟩ ρ G := h
theorem st_next (h : a ρ G) : dNext ⟨a, r, b, c⟩ ρ G := h
theorem st_brk (h : b ρ G) : dBreak ⟨a, r, b, c⟩ ρ G := h
theorem st_cnt (h : c ρ G) : dCont ⟨a, r, b, c⟩ ρ G := h
theorem st_asg (h : te ρ G fun x G1 => g x ρ G1 a) : dAsg te g ⟨a, r, b, c⟩ ρ G := h
theorem st_name {N : Rho → Gp → Prop} (h : N (ρ.set i (some x)) G) : dgName i x ρ G N := h
theorem st_drop (h : te ρ G fun _ G1 => a ρ G1) : dDrop te ⟨a, r, b, c⟩ ρ G := h
theorem st_rt (h : te ρ G r) : dRet te ⟨a, r, b, c⟩ ρ G := h
theorem st_rtN (h : r .non G) : dRetN ⟨a, r, b, c⟩ ρ G := h
theorem st_if (h : tt ρ G fun b G1 => if b = true then t F ρ G1 else u F ρ G1) : dIfS tt t u F ρ G := h
theorem st_var (e : ρ[i]? = some (some d)) (h : Q d G) : dVar i ρ G Q := ⟨d, e, h⟩
theorem st_v (h : ∃ d, ρ[i]? = some (some d) ∧ Q d G) : dVar i ρ G Q := h
theorem st_c (h : Q d G) : dC d ρ G Q := h
theorem st_op {r : DR2} (h : ta ρ G fun x G1 => tb ρ G1 fun y G2 => r x y G2 Q) : dOp r ta tb ρ G Q := h
theorem st_test (h : te ρ G fun x G' => ∃ k, x = .bl k ∧ P k G') : dTest te ρ G P := h
theorem st_tk {b : Bool} {S : Bool → Prop} (h : S b) : ∃ k, D.bl b = .bl k ∧ S k := ⟨b, rfl, h⟩
theorem st_truth (h : te ρ G fun x G' => ∃ k, truthD G' x = some k ∧ P k G') : dTruth te ρ G P := h
theorem st_tr_bl {S : Bool → Prop} {b : Bool} (h : S b) : ∃ k, truthD G (.bl b) = some k ∧ S k := ⟨b, rfl, h⟩
theorem st_tr_tup {S : Bool → Prop} {ds : List D} (h : S (!ds.isEmpty)) : ∃ k, truthD G (.tup ds) = some k ∧ S k := ⟨_, rfl, h⟩
theorem st_tr_non {S : Bool → Prop} (h : S false) : ∃ k, truthD G .non = some k ∧ S k := ⟨_, rfl, h⟩
theorem st_tr_lst {S : Bool → Prop} {a : Addr} {ds : List D} (e : G a = some (.lst ds)) (h : S (!ds.isEmpty)) : ∃ k, truthD G (.ref a) = some k ∧ S k := ⟨_, by simp only [truthD, e], h⟩
theorem st_and (h : tt ρ G fun c G1 => if c = true then tu ρ G1 P else P false G1) : dAnd tt tu ρ G P := h
theorem st_or (h : tt ρ G fun c G1 => if c = true then P true G1 else tu ρ G1 P) : dOr tt tu ρ G P := h
theorem st_not (h : tt ρ G fun c G1 => P (!c) G1) : dNot tt ρ G P := h
theorem st_andV (h : ta ρ G fun x G1 => ∃ c, x = .bl c ∧ if c = true then tb ρ G1 Q else Q (.bl false) G1) : dAndV ta tb ρ G Q := h
theorem st_orV (h : ta ρ G fun x G1 => ∃ c, x = .bl c ∧ if c = true then Q (.bl true) G1 else tb ρ G1 Q) : dOrV ta tb ρ G Q := h
theorem st_notV (h : ta ρ G fun x G1 => ∃ c, x = .bl c ∧ Q (.bl (!c)) G1) : dNotV ta ρ G Q := h
theorem st_bk {b : Bool} {S : Bool → Prop} (h : S b) : ∃ c, D.bl b = .bl c ∧ S c := ⟨b, rfl, h⟩
theorem st_ife (h : tt ρ G fun c G1 => if c = true then ta ρ G1 Q else tb ρ G1 Q) : dIf tt ta tb ρ G Q := h
theorem st_nil (h : R [] G) : dNil ρ G R := h
theorem st_cons (h : te ρ G fun x G1 => tl ρ G1 fun xs G2 => R (x :: xs) G2) : dCons te tl ρ G R := h
theorem st_tup (h : tl ρ G fun xs G1 => xs.length ≤ sizeLine ∧ Q (.tup xs) G1) : dTup tl ρ G Q := h
theorem st_lst (h : tl ρ G fun xs G1 => xs.length ≤ sizeLine ∧ ∀ p, G1 p = none → Q (.ref p) (gup G1 p (.lst xs))) : dLst tl ρ G Q := h
theorem sm0 : ([] : List D).length ≤ sizeLine := by show 0 ≤ sizeLine; decide
theorem sm1 {a : D} : ([a] : List D).length ≤ sizeLine := by show 1 ≤ sizeLine; decide
theorem sm2 {a b : D} : ([a, b] : List D).length ≤ sizeLine := by show 2 ≤ sizeLine; decide
theorem sm3 {a b c : D} : ([a, b, c] : List D).length ≤ sizeLine := by show 3 ≤ sizeLine; decide
theorem sm4 {a b c d : D} : ([a, b, c, d] : List D).length ≤ sizeLine := by show 4 ≤ sizeLine; decide
theorem sm5 {a b c d e : D} : ([a, b, c, d, e] : List D).length ≤ sizeLine := by show 5 ≤ sizeLine; decide
theorem st_sz {xs : List D} {B : Prop} (s : xs.length ≤ sizeLine) (h : B) : xs.length ≤ sizeLine ∧ B := ⟨s, h⟩
theorem st_cb {r : DCall} (h : tl ρ G fun vs G1 => r vs G1 Q) : dCB r tl ρ G Q := h
theorem st_call {sp : DSp} (h : tl ρ G fun vs G1 => sp (vs ++ []) G1 Q DX0) : dCall sp [] tl ρ G Q := h
theorem st_app {sp : DSp} {vs : List D} (h : sp vs G Q DX0) : sp (vs ++ []) G Q DX0 := by rw [List.append_nil]; exact h
theorem st_ml {r : DM} (h : te ρ G fun x G1 => isListD G1 x ∧ tl ρ G1 fun vs G2 => r x vs G2 Q) : dBML r te tl ρ G Q := h
theorem st_isl {a : Addr} {ds : List D} {B : Prop} (e : G a = some (.lst ds)) (h : B) : isListD G (.ref a) ∧ B := ⟨⟨a, ds, rfl, e⟩, h⟩
theorem st_append {a : Addr} {xs : List D} {y : D} (e : G a = some (.lst xs)) (z : xs.length < sizeLine) (h : Q .non (gup G a (.lst (xs ++ [y])))) : mAppend (.ref a) [y] G Q := ⟨a, xs, y, rfl, rfl, e, z, h⟩
theorem st_extend {a b : Addr} {xs ys : List D} (e : G a = some (.lst xs)) (e2 : G b = some (.lst ys)) (z : xs.length + ys.length ≤ sizeLine) (h : Q .non (gup G a (.lst (xs ++ ys)))) : mExtend (.ref a) [.ref b] G Q := ⟨a, b, xs, ys, rfl, rfl, e, e2, z, h⟩
theorem st_eq_str {a b : Str} (h : Q (.bl (decide (a = b))) G) : rEq (.str a) (.str b) G Q := rEq_str h
theorem st_eq_int {a b : Int} (h : Q (.bl (decide (a = b))) G) : rEq (.int a) (.int b) G Q := rEq_int h
theorem st_ne_str {a b : Str} (h : Q (.bl (!decide (a = b))) G) : rNe (.str a) (.str b) G Q := rNe_str h
theorem st_ne_int {a b : Int} (h : Q (.bl (!decide (a = b))) G) : rNe (.int a) (.int b) G Q := rNe_int h
theorem st_ne_bl {a b : Bool} (h : Q (.bl (!decide (a = b))) G) : rNe (.bl a) (.bl b) G Q :=
  ⟨_, .inl ⟨rfl, rfl, rfl, rfl⟩, by
    have e : decide (vOf (.bl a) = vOf (.bl b)) = decide (a = b) := by
      have : (vOf (.bl a) = vOf (.bl b)) ↔ a = b := ⟨fun h => V.bl.inj h, fun h => by rw [h]⟩
      exact decide_eq_decide.mpr this
    rw [e]; exact h⟩
theorem st_eq_bl {a b : Bool} (h : Q (.bl (decide (a = b))) G) : rEq (.bl a) (.bl b) G Q :=
  ⟨_, .inl ⟨rfl, rfl, rfl, rfl⟩, by
    have e : decide (vOf (.bl a) = vOf (.bl b)) = decide (a = b) := by
      have : (vOf (.bl a) = vOf (.bl b)) ↔ a = b := ⟨fun h => V.bl.inj h, fun h => by rw [h]⟩
      exact decide_eq_decide.mpr this
    rw [e]; exact h⟩
theorem st_lt {a b : Int} (h : Q (.bl (decide (a < b))) G) : rLt (.int a) (.int b) G Q := h
theorem st_le {a b : Int} (h : Q (.bl (decide (a ≤ b))) G) : rLe (.int a) (.int b) G Q := ⟨a, b, rfl, rfl, h⟩
theorem st_gt {a b : Int} (h : Q (.bl (decide (b < a))) G) : rGt (.int a) (.int b) G Q := ⟨a, b, rfl, rfl, h⟩
theorem st_ge {a b : Int} (h : Q (.bl (decide (b ≤ a))) G) : rGe (.int a) (.int b) G Q := ⟨a, b, rfl, rfl, h⟩
theorem st_add {a b : Int} (h : Q (.int (a + b)) G) : rAdd (.int a) (.int b) G Q := h
theorem st_addT {a b : List D} (z : a.length + b.length ≤ sizeLine) (h : Q (.tup (a ++ b)) G) : rAdd (.tup a) (.tup b) G Q := ⟨z, h⟩
theorem st_addS {a b : Str} (z : a.length + b.length ≤ sizeLine) (h : Q (.str (a ++ b)) G) : rAdd (.str a) (.str b) G Q := ⟨z, h⟩
theorem st_sub {a b : Int} (h : Q (.int (a - b)) G) : rSub (.int a) (.int b) G Q := ⟨a, b, rfl, rfl, h⟩
theorem st_mul {a b : Int} (c : CMul a b) (h : Q (.int (a * b)) G) : rMul (.int a) (.int b) G Q := ⟨a, b, rfl, rfl, c, h⟩
theorem st_mod {a b : Int} (c : 0 < b) (h : Q (.int (a % b)) G) : rMod (.int a) (.int b) G Q := ⟨a, b, rfl, rfl, c, h⟩
theorem st_fdiv {a b : Int} (c : CDiv a b) (h : Q (.int (a / b)) G) : rFdiv (.int a) (.int b) G Q := ⟨a, b, rfl, rfl, c, h⟩
theorem st_isN_non (h : Q (.bl true) G) : rIsN false .non .non G Q := ⟨rfl, h⟩
theorem st_isN_tup {ds : List D} (h : Q (.bl false) G) : rIsN false (.tup ds) .non G Q := ⟨rfl, h⟩
theorem st_notN_non (h : Q (.bl false) G) : rIsN true .non .non G Q := ⟨rfl, h⟩
theorem st_notN_tup {ds : List D} (h : Q (.bl true) G) : rIsN true (.tup ds) .non G Q := ⟨rfl, h⟩
theorem st_len_lst {a : Addr} {ds : List D} (e : G a = some (.lst ds)) (h : Q (.int ds.length) G) : cLen [.ref a] G Q := ⟨_, rfl, ds, itemsD_ref e, h⟩
theorem st_len_tup {ds : List D} (h : Q (.int ds.length) G) : cLen [.tup ds] G Q := ⟨_, rfl, ds, rfl, h⟩
theorem st_len_str {s : Str} (z : s.length ≤ sizeLine) (h : Q (.int s.length) G) : cLen [.str s] G Q := ⟨_, rfl, z, h⟩
theorem st_int {a : Int} (h : Q (.int a) G) : cInt [.int a] G Q := ⟨_, rfl, h⟩
theorem st_int_bl {b : Bool} (h : Q (.int (if b then 1 else 0)) G) : cInt [.bl b] G Q := ⟨_, rfl, h⟩
theorem st_abs {a : Int} (h : Q (.int (if a < 0 then -a else a)) G) : cAbs [.int a] G Q := ⟨_, rfl, h⟩
theorem st_tuple_lst {a : Addr} {ds : List D} (e : G a = some (.lst ds)) (h : Q (.tup ds) G) : cTuple [.ref a] G Q := ⟨_, ds, rfl, itemsD_ref e, h⟩
theorem st_tuple_tup {ds : List D} (h : Q (.tup ds) G) : cTuple [.tup ds] G Q := ⟨_, ds, rfl, rfl, h⟩
theorem st_list_tup {ds : List D} (h : ∀ p, G p = none → Q (.ref p) (gup G p (.lst ds))) : cList [.tup ds] G Q := ⟨_, ds, rfl, rfl, h⟩
theorem st_list_lst {a : Addr} {ds : List D} (e : G a = some (.lst ds)) (h : ∀ p, G p = none → Q (.ref p) (gup G p (.lst ds))) : cList [.ref a] G Q := ⟨_, ds, rfl, itemsD_ref e, h⟩
theorem st_all {a : Addr} {bs : List Bool} (e : G a = some (.lst (bs.map .bl))) (h : Q (.bl (bs.all id)) G) : cAll [.ref a] G Q := ⟨_, _, bs, rfl, itemsD_ref e, (fun _ z => nomatch z), bools_map bs, h⟩
theorem st_any {a : Addr} {bs : List Bool} (e : G a = some (.lst (bs.map .bl))) (h : Q (.bl (bs.any id)) G) : cAny [.ref a] G Q := ⟨_, _, bs, rfl, itemsD_ref e, (fun _ z => nomatch z), bools_map bs, h⟩
theorem st_sum {a : Addr} {bs : List Int} (e : G a = some (.lst (bs.map .int))) (h : Q (.int bs.sum) G) : cSum [.ref a] G Q := ⟨_, _, bs, rfl, itemsD_ref e, (fun _ z => nomatch z), ints_map bs, h⟩
theorem st_isi_lst {a : Addr} {ds : List D} {n : String} {b : Bool} (e : G a = some (.lst ds)) (k : kitB "list" n = some b) (h : Q (.bl b) G) : cIsi [.ref a, .ty n] G Q := ⟨_, n, "list", b, rfl, by simp only [tyNameD, e], k, h⟩
theorem st_isi_tup {ds : List D} {n : String} {b : Bool} (k : kitB "tuple" n = some b) (h : Q (.bl b) G) : cIsi [.tup ds, .ty n] G Q := ⟨_, n, "tuple", b, rfl, rfl, k, h⟩
theorem st_isi_str {s : Str} {n : String} {b : Bool} (k : kitB "str" n = some b) (h : Q (.bl b) G) : cIsi [.str s, .ty n] G Q := ⟨_, n, "str", b, rfl, rfl, k, h⟩
theorem st_isi_int {s : Int} {n : String} {b : Bool} (k : kitB "int" n = some b) (h : Q (.bl b) G) : cIsi [.int s, .ty n] G Q := ⟨_, n, "int", b, rfl, rfl, k, h⟩
theorem st_isi_bl {s : Bool} {n : String} {b : Bool} (k : kitB "bool" n = some b) (h : Q (.bl b) G) : cIsi [.bl s, .ty n] G Q := ⟨_, n, "bool", b, rfl, rfl, k, h⟩
theorem st_isi_non {n : String} {b : Bool} (k : kitB "NoneType" n = some b) (h : Q (.bl b) G) : cIsi [.non, .ty n] G Q := ⟨_, n, "NoneType", b, rfl, rfl, k, h⟩
theorem st_isi_blb {s : Bool} (h : Q (.bl true) G) : cIsi [.bl s, .ty "bool"] G Q := st_isi_bl (b := true) (by decide +kernel) h
theorem st_isi_lstl {a : Addr} {ds : List D} (e : G a = some (.lst ds)) (h : Q (.bl true) G) : cIsi [.ref a, .ty "list"] G Q := st_isi_lst (b := true) e (by decide +kernel) h
theorem st_gsub {o j : DTE} {s : DSet} {N : Rho → Gp → Prop} (h : o ρ G fun x G1 => j ρ G1 fun y G2 => s x y d G2 fun G3 => N ρ G3) : dgSub o j s d ρ G N := h
theorem st_setL {a : Addr} {xs : List D} {k : Int} {j : Nat} {v : D} {N : Gp → Prop} (e : G a = some (.lst xs)) (hj : ixN xs.length k = some j) (h : N (gup G a (.lst (xs.set j v)))) : sSetL (.ref a) (.int k) v G N := ⟨a, xs, k, j, rfl, rfl, e, hj, h⟩
theorem st_for {s : DSrc} (h : s ρ G fun items chk G1 => dForL chk g t F items ρ G1) : dFor s g t F ρ G := h
theorem st_lc {s : DSrc} (h : s ρ G fun items chk G1 => ∀ p, G1 p = none → dLcL chk i tt te p (fun G' => Q (.ref p) G') (ρ.set i none) items (gup G1 p (.lst []))) : dLc s i tt te ρ G Q := h
theorem st_rng1 {W : List D → (Gp → Prop) → Gp → Prop} (h : tl ρ G fun vs G1 => ∃ j : Int, vs = [.int j] ∧ (-(2 ^ 62) ≤ j ∧ j < 2 ^ 62) ∧ W (rangeD 0 j.toNat) (fun _ => True) G1) : sRng1 tl ρ G W := h
theorem st_rng2 {W : List D → (Gp → Prop) → Gp → Prop} (h : tl ρ G fun vs G1 => ∃ i j : Int, vs = [.int i, .int j] ∧ (-(2 ^ 62) ≤ i ∧ i < 2 ^ 62 ∧ -(2 ^ 62) ≤ j ∧ j < 2 ^ 62) ∧ W (rangeD i (j - i).toNat) (fun _ => True) G1) : sRng2 tl ρ G W := h
def sItems (G : Gp) (W : List D → (Gp → Prop) → Gp → Prop) : D → Prop
  | .tup ds => W ds (fun _ => True) G
  | .rol ds => W ds (fun _ => True) G
  | .str z => W (signsD z) (fun _ => True) G
  | .ref a => ∃ ds, G a = some (.lst ds) ∧ W ds (fun G => G a = some (.lst ds)) G
  | _ => False
theorem st_sseq {W : List D → (Gp → Prop) → Gp → Prop} (h : te ρ G fun x G1 => sItems G1 W x) : sSeq te ρ G W := h
theorem st_it_tup {ds : List D} {W : List D → (Gp → Prop) → Gp → Prop} (h : W ds (fun _ => True) G) : sItems G W (.tup ds) := h
theorem st_it_rol {ds : List D} {W : List D → (Gp → Prop) → Gp → Prop} (h : W ds (fun _ => True) G) : sItems G W (.rol ds) := h
theorem st_it_str {s : Str} {W : List D → (Gp → Prop) → Gp → Prop} (h : W (signsD s) (fun _ => True) G) : sItems G W (.str s) := h
theorem st_it_lst {a : Addr} {ds : List D} {W : List D → (Gp → Prop) → Gp → Prop} (e : G a = some (.lst ds)) (h : W ds (fun G => G a = some (.lst ds)) G) : sItems G W (.ref a) := ⟨ds, e, h⟩
theorem st_slice {o hi : DTO} (h : te ρ G fun x G1 => o ρ G1 fun l G2 => hi ρ G2 fun u G3 => match x with
  | .str z => z.length ≤ sizeLine ∧ Q (.str (cutS z l u)) G3
  | .tup ds => Q (.tup (cutD ds l u)) G3
  | x => ∃ ds, itemsD G3 x = some ds ∧ ∀ p, G3 p = none → Q (.ref p) (gup G3 p (.lst (cutD ds l u)))) : dSl te o hi ρ G Q := h
theorem st_nopart {S : Option Int → Gp → Prop} (h : S none G) : dNoPart ρ G S := h
theorem st_part {S : Option Int → Gp → Prop} (h : te ρ G fun x G1 => ∃ i, x = .int i ∧ S (some i) G1) : dPart te ρ G S := h
theorem st_pk {j : Int} {S : Int → Prop} (h : S j) : ∃ i, D.int j = .int i ∧ S i := ⟨j, rfl, h⟩
theorem st_gtup {n : Nat} {gs : DTGs} {ds : List D} {N : Rho → Gp → Prop} (hl : ds.length = n) (h : gs ds ρ G N) : dgTup n gs (.tup ds) ρ G N := ⟨ds, rfl, hl, h⟩
theorem st_gcons {gs : DTGs} {v : D} {r : List D} {N : Rho → Gp → Prop} (h : g v ρ G fun ρ' G' => gs r ρ' G' N) : dgCons g gs (v :: r) ρ G N := ⟨v, r, rfl, h⟩
theorem st_gnil {N : Rho → Gp → Prop} (h : N ρ G) : dgNil [] ρ G N := ⟨rfl, h⟩
theorem st_lcnil {chk : Gp → Prop} {p : Addr} {fin : Gp → Prop} (c : chk G) (h : fin G) : dLcL chk i tt te p fin ρ [] G := ⟨c, h⟩
theorem st_while (h : ∃ W : Nat → Rho → Gp → Prop, (∃ m, W m ρ G) ∧ ∀ m ρ G, W m ρ G →
  tt ρ G fun k G1 => if k = true then ∃ N : Rho → Gp → Prop, (∀ ρ' G', N ρ' G' → ∃ m', m' < m ∧ W m' ρ' G') ∧ t ⟨N, r, a, N⟩ ρ G1 else a ρ G1) : dWhile tt t ⟨a, r, b, c⟩ ρ G := h
theorem for_go {chk : Gp → Prop} (I : List D → Rho → Gp → Prop) {xs : List D} (h0 : I xs ρ G) (hc : ∀ xs ρ G, I xs ρ G → chk G)
    (turn : ∀ x xs ρ G, I (x :: xs) ρ G → ∀ N : Rho → Gp → Prop, (∀ ρ' G', I xs ρ' G' → N ρ' G') → g x ρ G fun ρ' G' => t ⟨N, r, a, N⟩ ρ' G')
    (done : ∀ ρ G, I [] ρ G → a ρ G) : dForL chk g t ⟨a, r, b, c⟩ xs ρ G := for_inv (F := ⟨a, r, b, c⟩) I hc turn done xs ρ G h0
theorem st_yes (h : P true G) : dYes ρ G P := h
end
end DL

/-! DL9: dicts, joins, chains by content. -/
namespace DL
open PySem PySem.Spec PyProof.Rows L2
/-! ### tables -/
section
variable {κ : Type} [DecidableEq κ]
def valD (kvs : List (κ × D)) (k : κ) : Option D := (kvs.find? fun kv => decide (kv.1 = k)).map (·.2)
def putD (kvs : List (κ × D)) (k : κ) (v : D) : List (κ × D) :=
  if (kvs.any fun kv => decide (kv.1 = k)) = true then kvs.map (fun kv => if kv.1 = k then (kv.1, v) else kv) else kvs ++ [(k, v)]
theorem PrD.val {K : PySem.W.Frag} {H : Hp} {ks : List (κ × V)} {ds : List (κ × D)} (r : PrD K H ks ds) {k : κ} {d : D} (e : valD ds k = some d) : ∃ v, valV ks k = some v ∧ Rp K H v d := by
  unfold PrD at r
  induction r with
  | nil => cases e
  | @cons p q ps qs h t ih =>
    obtain ⟨h1, h2⟩ := h
    by_cases c : p.1 = k
    · have c' : q.1 = k := h1.symm.trans c
      have b : valD (q :: qs) k = some q.2 := by simp [valD, List.find?_cons, c']
      rw [b] at e; cases e
      exact ⟨p.2, valV_pos c, h2⟩
    · have c' : ¬ q.1 = k := fun z => c (h1.trans z)
      have b : valD (q :: qs) k = valD qs k := by simp [valD, List.find?_cons, c']
      rw [b] at e
      obtain ⟨v, e1, e2⟩ := ih e
      exact ⟨v, by rw [valV_neg c]; exact e1, e2⟩
theorem PrD.has {K : PySem.W.Frag} {H : Hp} {ks : List (κ × V)} {ds : List (κ × D)} (r : PrD K H ks ds) (k : κ) : (valV ks k).isSome = (valD ds k).isSome := by
  unfold PrD at r
  induction r with
  | nil => rfl
  | @cons p q ps qs h t ih =>
    obtain ⟨h1, h2⟩ := h
    by_cases c : p.1 = k
    · have c' : q.1 = k := h1.symm.trans c
      have b : valD (q :: qs) k = some q.2 := by simp [valD, List.find?_cons, c']
      rw [b, valV_pos c]; rfl
    · have c' : ¬ q.1 = k := fun z => c (h1.trans z)
      have b : valD (q :: qs) k = valD qs k := by simp [valD, List.find?_cons, c']
      rw [b, valV_neg c]; exact ih
theorem PrD.length {K : PySem.W.Frag} {H : Hp} {ks : List (κ × V)} {ds : List (κ × D)} (r : PrD K H ks ds) : ks.length = ds.length := Paired.length r
theorem PrD.put {K : PySem.W.Frag} {H : Hp} {ks : List (κ × V)} {ds : List (κ × D)} (r : PrD K H ks ds) (k : κ) {v : V} {d : D} (rv : Rp K H v d) : PrD K H (putK ks k v) (putD ds k d) := by
  have a : (ks.any fun kv => decide (kv.1 = k)) = ds.any fun kv => decide (kv.1 = k) := by
    unfold PrD at r
    induction r with
    | nil => rfl
    | cons h t ih => rw [List.any_cons, List.any_cons, ih, h.1]
  unfold putK putD
  rw [a]
  by_cases c : (ds.any fun kv => decide (kv.1 = k)) = true
  · rw [if_pos c, if_pos c]
    clear a c
    unfold PrD at r ⊢
    induction r with
    | nil => exact .nil
    | @cons p q ps qs h t ih =>
      rw [List.map_cons, List.map_cons]
      refine .cons ?_ ih
      obtain ⟨h1, h2⟩ := h
      by_cases e : p.1 = k
      · rw [if_pos e, if_pos (h1.symm.trans e)]; exact ⟨h1, rv⟩
      · rw [if_neg e, if_neg (fun z => e (h1.trans z))]; exact ⟨h1, h2⟩
  · rw [if_neg c, if_neg c]; exact Paired.snoc r ⟨rfl, rv⟩
end
def keyD : D → Option Key
  | .int i => some (.inl i)
  | .str s => some (.inr s)
  | _ => none
theorem key_v {K : PySem.W.Frag} {H : Hp} {v : V} {x : D} {k : Key} (r : Rp K H v x) (e : keyD x = some k) : v = kV k := by
  cases r <;> cases e <;> rfl
section
variable {X : Cx} {K : PySem.W.Frag} {a b o i e : Expr} {ta tb to ti te : DTE} {pos : Pos}
def rDget : DR2 := fun x y G Q => ∃ a kvs k d, x = .ref a ∧ keyD y = some k ∧ G a = some (.dK kvs) ∧ valD kvs k = some d ∧ Q d G
theorem up_dget : R2Up K (fun x y H Q => ∃ a v, x = .ref a ∧ DGet H a y (some v) ∧ Q v H) rDget := by
  rintro x y H Q d e G Q' hr rx ry ⟨a, kvs, k, d', rfl, ek, g, ev, q⟩ kk
  cases rx
  obtain ⟨ks, h, pr⟩ := hr a _ g
  obtain ⟨v, e1, r1⟩ := pr.val ev
  have e2 := key_v ry ek
  subst e2
  exact ⟨a, v, rfl, by rw [← e1]; exact DGet.k h, kk d' G v H (TS.refl H) hr r1 q⟩
theorem de_dget (hu : X.A.units + 1 < cLine) (ho : DE X o to) (hi : DE X i ti) (hs : NoSl i) : DE X (.Subscript o i pos) (dOp rDget to ti) :=
  pe_weak (pe_dget hu ho hi hs) fun _ _ _ h => lift_bin up_dget h
def rInD (neg : Bool) : DR2 := fun y x G Q => ∃ a kvs k, x = .ref a ∧ keyD y = some k ∧ G a = some (.dK kvs) ∧ Q (.bl (if neg then !(valD kvs k).isSome else (valD kvs k).isSome)) G
theorem up_inD : R2Up K (fun y x H Q => ∃ a o, x = .ref a ∧ DGet H a y o ∧ Q (.bl o.isSome) H) (rInD false) := by
  rintro y x H Q e d G Q' hr ry rx ⟨a, kvs, k, rfl, ek, g, q⟩ kk
  cases rx
  obtain ⟨ks, h, pr⟩ := hr a _ g
  have e2 := key_v ry ek
  subst e2
  exact ⟨a, _, rfl, DGet.k h, kk _ G _ H (TS.refl H) hr (.bl _) (by rw [pr.has k]; exact q)⟩
theorem up_notInD : R2Up K (fun y x H Q => ∃ a o, x = .ref a ∧ DGet H a y o ∧ Q (.bl (!o.isSome)) H) (rInD true) := by
  rintro y x H Q e d G Q' hr ry rx ⟨a, kvs, k, rfl, ek, g, q⟩ kk
  cases rx
  obtain ⟨ks, h, pr⟩ := hr a _ g
  have e2 := key_v ry ek
  subst e2
  exact ⟨a, _, rfl, DGet.k h, kk _ G _ H (TS.refl H) hr (.bl _) (by rw [pr.has k]; exact q)⟩
theorem de_inD (hu : X.A.units + 1 < cLine) (hi : DE X i ti) (ho : DE X o to) (hm : behindInMarks .In o = false := by rfl) : DE X (.Compare i [.In] [o] pos) (dOp (rInD false) ti to) :=
  pe_weak (pe_cmp (pc_din hu hi ho) hm) fun _ _ _ h => lift_bin up_inD h
theorem de_inDN (hu : X.A.units + 1 < cLine) (hi : DE X i ti) (ho : DE X o to) (hm : behindInMarks .NotIn o = false := by rfl) : DE X (.Compare i [.NotIn] [o] pos) (dOp (rInD true) ti to) :=
  pe_weak (pe_cmp (pc_dnotin hu hi ho) hm) fun _ _ _ h => lift_bin up_notInD h
theorem dt_inD (hu : X.A.units + 1 < cLine) (hi : DE X i ti) (ho : DE X o to) (hm : behindInMarks .In o = false := by rfl) : DT X (.Compare i [.In] [o] pos) (dTest (dOp (rInD false) ti to)) := by
  refine pt_weak (pt_cmp (pc_din hu hi ho) hm) fun σ H Q h => ?_
  obtain ⟨ρ, G, Q', rs, hr, q, k⟩ := lift_test h
  exact lift_bin up_inD ⟨ρ, G, Q', rs, hr, q, k⟩
theorem dt_inDN (hu : X.A.units + 1 < cLine) (hi : DE X i ti) (ho : DE X o to) (hm : behindInMarks .NotIn o = false := by rfl) : DT X (.Compare i [.NotIn] [o] pos) (dTest (dOp (rInD true) ti to)) := by
  refine pt_weak (pt_cmp (pc_dnotin hu hi ho) hm) fun σ H Q h => ?_
  obtain ⟨ρ, G, Q', rs, hr, q, k⟩ := lift_test h
  exact lift_bin up_notInD ⟨ρ, G, Q', rs, hr, q, k⟩
/-- d[k] = v -/
def sPutD : DSet := fun o i v G Q => ∃ a kvs k, o = .ref a ∧ keyD i = some k ∧ G a = some (.dK kvs) ∧ kvs.length < sizeLine ∧ Q (gup G a (.dK (putD kvs k v)))
theorem up_putD : SetUp K rSetD sPutD := by
  rintro o i v H Q od id vd G Q' hr r1 r2 r3 ⟨a, kvs, k, rfl, ek, g, hz, q⟩ kk
  cases r1
  have e2 := key_v r2 ek
  subst e2
  obtain ⟨ks, h, pr⟩ := hr a _ g
  refine ⟨a, _, rfl, DPut.k h (by rw [pr.length]; exact hz), ?_⟩
  have tp := TS.put (o' := HO.dK (putK ks k v)) h (fun _ q => nomatch q) (fun _ _ q => nomatch q)
  exact kk _ _ tp (hr.put (u := .dK (putD kvs k vd)) h (fun _ q => nomatch q) (fun _ _ q => nomatch q) ⟨_, upd_same, (pr.mono tp).put k (r3.mono tp)⟩) q
theorem dg_subD (hu : X.A.units + 1 < cLine) (ho : DE X o to) (hi : DE X i ti)
    (ha : ∀ v, assign (.Subscript o i pos) X.env v = (do
      let ov ← holding [v] (eval o X.env)
      let iv ← holding [v, ov] (eval i X.env)
      standAt pos
      holding [v, ov, iv] (setItem ov iv v)
      release [v, ov, iv] []) := by intro _; rfl) : DG X (.Subscript o i pos) (dgSub to ti sPutD) := dg_sub ho hi (set_dict hu) up_putD ha
/-- {} -/
def dNewK : DTE := fun _ G Q => ∀ p, G p = none → Q (.ref p) (gup G p (.dK []))
theorem de_newK : DE X (.Dict [] [] pos) dNewK := by
  refine pe_weak pe_dnewK fun σ H Q ⟨ρ, G, Q', rs, hr, q, k⟩ p hp => ?_
  have tn := TS.new (o := HO.dK []) hp
  exact k _ _ _ _ tn (hr.newG (u := .dK []) hp ⟨[], upd_same, .nil⟩) (.ref p) (q p (hr.free hp))
/-- sep.join(list) -/
def strsD : List D → Option (List Str)
  | [] => some []
  | .str b :: r => (strsD r).map (b :: ·)
  | _ => none
theorem strs_of {H : Hp} : ∀ {vs : List V} {ds : List D} {bs : List Str}, RpA K H vs ds → strsD ds = some bs → vs = bs.map V.str
  | _, [], _, .nil, e => by cases e; rfl
  | _, .str b :: r, _, .cons a t, e => by
    simp only [strsD, Option.map_eq_some_iff] at e
    obtain ⟨bs, e1, e2⟩ := e
    subst e2
    cases a
    rw [strs_of t e1]; rfl
def dJoin (to te : DTE) : DTE := fun ρ G Q => to ρ G fun x G1 => ∃ z, x = .str z ∧ te ρ G1 fun y G2 => ∃ xs ys, itemsD G2 y = some xs ∧ strsD xs = some ys ∧ (ys.map (·.length)).sum + ys.length * z.length ≤ 16777216 ∧ Q (.str (Txt.join z ys)) G2
theorem de_join {apos : Pos} (ho : DE X o to) (he : DE X e te) (hs : starEach [e] X.env = [(false, eval e X.env)] := by rfl) (hbase : attributeBase o "join" X.env (eval o X.env) = eval o X.env := by rfl) (hline : (apos.endLine == pos.line) = true := by rfl) :
    DE X (.Call (.Attribute o "join" apos) [e] [] pos) (dJoin to te) := by
  refine pe_weak (pe_join ho he hs hbase hline) fun σ H Q ⟨ρ, G, Q', rs, hr, q, k⟩ => ?_
  refine liftE.of rs hr q fun x G1 v H1 t1 hr1 r1 ⟨z, ez, q1⟩ => ?_
  subst ez
  cases r1
  refine ⟨⟨z, rfl⟩, liftE.of (rs.mono t1) hr1 q1 fun y G2 u H2 t2 hr2 r2 ⟨xs, ys, e1, e2, hz, q2⟩ => ?_⟩
  obtain ⟨p, us, rfl, hs', ra⟩ := items_seq hr2 r2 e1
  have e3 := strs_of ra e2
  subst e3
  exact ⟨z, p, ys, rfl, rfl, hs', hz, k _ G2 _ H2 (t1.trans t2) hr2 (.str _) q2⟩
/-- -x -/
def dNeg (ta : DTE) : DTE := fun ρ G Q => ta ρ G fun x G1 => ∃ i, x = .int i ∧ Q (.int (-i)) G1
theorem de_neg (ha : DE X a ta) : DE X (.UnaryOp .USub a pos) (dNeg ta) := by
  refine pe_weak (pe_un un_neg ha) fun σ H Q ⟨ρ, G, Q', rs, hr, q, k⟩ => ?_
  refine liftE.of rs hr q fun x G1 v H1 t1 hr1 r1 ⟨i, ei, q1⟩ => ?_
  subst ei
  cases r1
  exact ⟨i, rfl, k _ G1 _ H1 t1 hr1 (.int _) q1⟩
/-- a op b op c -/
def dChain (r r' : DR2) (ta tb tc : DTE) : DTE := fun ρ G Q => ta ρ G fun x G1 => tb ρ G1 fun y G2 => r x y G2 fun z G3 => ∃ k, z = .bl k ∧ (if k = true then tc ρ G3 fun w G4 => r' y w G4 Q else Q (.bl false) G3)
theorem lift_chain {r1 r2 : R2} {r1' r2' : DR2} (up : R2Up K r1 r1') (up' : R2Up K r2 r2') {ta tb tc : DTE} {σ : L2.St} {H : Hp} {Q : VK} (h : liftE K (dChain r1' r2' ta tb tc) σ H Q) : tChain r1 r2 (liftE K ta) (liftE K tb) (liftE K tc) σ H Q := by
  obtain ⟨ρ, G, Q', rs, hr, q, k⟩ := h
  refine liftE.of rs hr q fun x G1 v H1 t1 hr1 r1 q1 => ?_
  refine liftE.of (rs.mono t1) hr1 q1 fun y G2 u H2 t2 hr2 r2 q2 => ?_
  refine up v u H2 _ x y G2 _ hr2 (r1.mono t2) r2 q2 fun z G3 v3 H3 t3 hr3 r3 ⟨b, eb, q3⟩ => ?_
  subst eb
  cases r3
  refine ⟨b, rfl, ?_⟩
  have t13 := (t1.trans t2).trans t3
  cases b with
  | false =>
    rw [if_neg Bool.false_ne_true] at q3 ⊢
    exact k _ G3 _ H3 t13 hr3 (.bl _) q3
  | true =>
    rw [if_pos rfl] at q3 ⊢
    refine liftE.of (rs.mono t13) hr3 q3 fun w' G4 u4 H4 t4 hr4 r4 q4 => ?_
    exact up' u u4 H4 Q y w' G4 Q' hr4 ((r2.mono t3).mono t4) r4 q4 fun z G' v' H' t' hr' r' q' => k z G' v' H' ((t13.trans t4).trans t') hr' r' q'
theorem de_chain {c : Expr} {tc : DTE} {op op' : CmpOp} {r r' : R2} {s s' : DR2} (ho : OpR X (compareOp op) r) (up : R2Up X.K r s) (ho' : OpR X (compareOp op') r') (up' : R2Up X.K r' s') (ha : DE X a ta) (hb : DE X b tb) (hc : DE X c tc)
    (hm : lastMarks [op, op'] [b, c] = false := by with_unfolding_all rfl) : DE X (.Compare a [op, op'] [b, c] pos) (dChain s s' ta tb tc) :=
  pe_weak (pe_chain ho ho' ha hb hc hm) fun _ _ _ h => lift_chain up up' h
theorem dt_chain {c : Expr} {tc : DTE} {op op' : CmpOp} {r r' : R2} {s s' : DR2} (ho : OpR X (compareOp op) r) (up : R2Up X.K r s) (ho' : OpR X (compareOp op') r') (up' : R2Up X.K r' s') (ha : DE X a ta) (hb : DE X b tb) (hc : DE X c tc)
    (hm : lastMarks [op, op'] [b, c] = false := by with_unfolding_all rfl) : DT X (.Compare a [op, op'] [b, c] pos) (dTest (dChain s s' ta tb tc)) := by
  refine pt_weak (pt_chain ho ho' ha hb hc hm) fun σ H Q h => ?_
  obtain ⟨ρ, G, Q', rs, hr, q, k⟩ := lift_test h
  exact lift_chain up up' ⟨ρ, G, Q', rs, hr, q, k⟩
/-- dicts of texts compared -/
def txtD : D → Bool
  | .str _ => true
  | _ => false
def eqD : D → D → Bool
  | .str a, .str b => a == b
  | _, _ => false
def dictEq (ks ls : List (Key × D)) : Bool := ks.length == ls.length && ks.all fun p => match valD ls p.1 with
  | some d => eqD p.2 d
  | none => false
theorem txt_is : ∀ {d : D}, txtD d = true → ∃ x, d = .str x
  | .str x, _ => ⟨x, rfl⟩
theorem rp_str {H : Hp} {v : V} {x : Str} (r : Rp K H v (.str x)) : v = .str x := by cases r; rfl
theorem hits_txt {H : Hp} {A : Around} {s : Shared} {ls : List (Key × V)} {lds : List (Key × D)} {vb : List (Key × Value)} (rb : KV ls vb) (rbd : PrD K H ls lds) (tb : ∀ p ∈ lds, txtD p.2 = true) :
    ∀ {kds : List (Key × D)} {ks : List (Key × V)} {va : List (Key × Value)}, KV ks va → PrD K H ks kds → (∀ p ∈ kds, txtD p.2 = true) → PySem.W.KeqHits A s vb va (kds.all fun p => match valD lds p.1 with
      | some d => eqD p.2 d
      | none => false)
  | [], _, _, ra, rad, _ => by
    unfold PrD at rad; unfold KV at ra
    cases rad; cases ra; exact .nil
  | kd :: kds, _, _, ra, rad, ta => by
    unfold PrD at rad; unfold KV at ra
    cases rad with
    | @cons p _ ps _ h t =>
      cases ra with
      | @cons _ q _ qs h' t' =>
        obtain ⟨k, v⟩ := q
        obtain ⟨h1, h2⟩ := h
        obtain ⟨g1, g2⟩ := h'
        have g1 : p.1 = k := g1
        have hk : kd.1 = k := h1.symm.trans g1
        rw [List.all_cons]
        have ih := hits_txt (A := A) (s := s) rb rbd tb t' t (fun p hp => ta p (List.mem_cons_of_mem _ hp))
        have tk := ta kd List.mem_cons_self
        rw [hk]
        have hv := rb.val k
        cases e : valD lds k with
        | none =>
          have := rbd.has k
          rw [e] at this
          cases e2 : valV ls k with
          | some _ => rw [e2] at this; cases this
          | none =>
            rw [e2] at hv
            cases e3 : valueAt vb k with
            | some _ => rw [e3] at hv; exact hv.elim
            | none =>
              have := PySem.W.KeqHits.miss (A := A) (s := s) (v := v) (r := qs) e3
              exact this
        | some d =>
          obtain ⟨w, e2, rw'⟩ := rbd.val e
          rw [e2] at hv
          obtain ⟨y, hy, ry⟩ := hv.some_of
          have td : txtD d = true := by
            unfold valD at e
            rw [Option.map_eq_some_iff] at e
            obtain ⟨pp, e4, e5⟩ := e
            rw [← e5]; exact tb pp (List.mem_of_find?_eq_some e4)
          obtain ⟨kk, kdd⟩ := kd
          obtain ⟨x1, rfl⟩ := txt_is tk
          obtain ⟨x2, rfl⟩ := txt_is td
          have h2 : Rp K H p.2 (.str x1) := h2
          rw [rp_str h2] at g2
          obtain ⟨t1, ev⟩ := (show ∃ t, v = Value.str x1 t from g2)
          rw [rp_str rw'] at ry
          obtain ⟨t2, ey⟩ := (show ∃ t, y = Value.str x2 t from ry)
          subst ev ey
          exact .hit hy (SeqAt.EqAt.str_str (A := A) (s := s) x1 t1 x2 t2) ih
def rDictC (X : Cx) (neg : Bool) : R2 := fun x y H Q => ∃ a b ks ls kds lds, x = .ref a ∧ y = .ref b ∧ H a = some (.dK ks) ∧ H b = some (.dK ls) ∧ PrD X.K H ks kds ∧ PrD X.K H ls lds ∧ (∀ p ∈ kds, txtD p.2 = true) ∧ (∀ p ∈ lds, txtD p.2 = true) ∧ Q (.bl (if neg then !dictEq kds lds else dictEq kds lds)) H
theorem op_ne_dictC (hu : X.A.units < cLine) : OpR X (compareOp .NotEq) (rDictC X true) := by
  intro pins s σ H x y v u Q I rx ry h
  obtain ⟨a, b, ks, ls, kds, lds, rfl, rfl, ea, eb, pa, pb, ta, tb, q⟩ := h
  obtain rfl : v = Value.ref a := rx
  obtain rfl : u = Value.ref b := ry
  obtain ⟨_, ya, va, ra, da⟩ := (show ObjOk X.prog X.w H s.heap a (.dK ks) from I.hok a _ ea)
  obtain ⟨_, yb, vb, rb, db⟩ := (show ObjOk X.prog X.w H s.heap b (.dK ls) from I.hok b _ eb)
  refine PySem.W.keq_ne (knd := mixKind X.prog X.w) ya yb da db hu (fun _ => hits_txt rb pb tb ra pa ta) ?_
  rw [← ra.length, ← rb.length, pa.length, pb.length]
  exact fin_bl I q rfl
theorem op_eq_dictC (hu : X.A.units < cLine) : OpR X (compareOp .Eq) (rDictC X false) := by
  intro pins s σ H x y v u Q I rx ry h
  obtain ⟨a, b, ks, ls, kds, lds, rfl, rfl, ea, eb, pa, pb, ta, tb, q⟩ := h
  obtain rfl : v = Value.ref a := rx
  obtain rfl : u = Value.ref b := ry
  obtain ⟨_, ya, va, ra, da⟩ := (show ObjOk X.prog X.w H s.heap a (.dK ks) from I.hok a _ ea)
  obtain ⟨_, yb, vb, rb, db⟩ := (show ObjOk X.prog X.w H s.heap b (.dK ls) from I.hok b _ eb)
  refine PySem.W.keq_eq (knd := mixKind X.prog X.w) ya yb da db hu (fun _ => hits_txt rb pb tb ra pa ta) ?_
  rw [← ra.length, ← rb.length, pa.length, pb.length]
  exact fin_bl I q rfl
def rDictE (neg : Bool) : DR2 := fun x y G Q => ∃ a b kds lds, x = .ref a ∧ y = .ref b ∧ G a = some (.dK kds) ∧ G b = some (.dK lds) ∧ (∀ p ∈ kds, txtD p.2 = true) ∧ (∀ p ∈ lds, txtD p.2 = true) ∧ Q (.bl (if neg then !dictEq kds lds else dictEq kds lds)) G
theorem up_dictE (neg : Bool) : R2Up X.K (rDictC X neg) (rDictE neg) := by
  rintro x y H Q d e G Q' hr rx ry ⟨a, b, kds, lds, rfl, rfl, ga, gb, ta, tb, q⟩ k
  cases rx; cases ry
  obtain ⟨ks, h1, p1⟩ := hr a _ ga
  obtain ⟨ls, h2, p2⟩ := hr b _ gb
  exact ⟨a, b, ks, ls, kds, lds, rfl, rfl, h1, h2, p1, p2, ta, tb, k _ G _ H (TS.refl H) hr (.bl _) q⟩
theorem vals_get' : ∀ {xs : List V} {us : List Value}, xs.length = us.length → (∀ (j : Nat) (v : Value), us[j]? = some v → ∃ x : V, xs[j]? = some x ∧ RelV x v) → Vals xs us
  | [], [], _, _ => .nil
  | [], _ :: _, l, _ => by simp at l
  | _ :: _, [], l, _ => by simp at l
  | x :: xs, u :: us, l, h => by
    obtain ⟨y, e, r⟩ := h 0 u rfl
    have e' : x = y := by simpa using e
    subst e'
    exact .cons r (vals_get' (by simpa using l) fun j v hv => by simpa using h (j + 1) v (by simpa using hv))
/-- list(text) -/
theorem call_list_strV (hc : X.calm = true) : CallR X (.type "list") (fun xs H Q => ∃ z : Str, xs = [.str z] ∧ z.length ≤ sizeLine ∧ ∀ l, H l = none → Q (.ref l) (upd H l (.lst (z.cps.toList.map fun c => .str ⟨#[c]⟩)))) := by
  intro pins s σ H xs us Q I r h
  obtain ⟨z, rfl, hz, q⟩ := h
  obtain ⟨u, rfl, t, rfl⟩ := vals1 r
  have hsz : z.cps.size ≤ sizeLine := hz
  refine call_list_str (hn := hsz) (I.ok.hd hc) z t fun h' tk acc c' kp e it => ?_
  have hv : Vals (z.cps.toList.map fun c => V.str ⟨#[c]⟩) acc.toList := by
    refine vals_get' (by simp [it.1]) fun j v hv => ?_
    obtain ⟨c, u, hcu, rfl⟩ := it.2 j v (by simpa using hv)
    exact ⟨.str ⟨#[c]⟩, by simp [hcu], u, rfl⟩
  exact ⟨.ref s.heap.objs.size, _, I.laid (t' := tk) kp (Nat.le_refl _) (show ObjOk X.prog X.w _ h' _ (.lst _) from ⟨by simpa using hsz, acc.toList, c', hv, by simpa using e⟩), rfl, q _ (I.hok.fresh (Nat.le_refl _))⟩
end
end DL

/-! DL10: dict comprehensions; list(x) of a text. -/
namespace DL
open PySem PySem.Spec PyProof.Rows L2
section
variable {X : Cx} {K : PySem.W.Frag}
def dDcL (chk : Gp → Prop) (i : Nat) (tt : DTT) (tk tv : DTE) (p : Addr) (fin : Gp → Prop) (ρ : Rho) : List D → Gp → Prop
  | [] => fun G => chk G ∧ fin G
  | x :: xs => fun G => chk G ∧ tt (ρ.set i (some x)) G fun b G1 => if b = true then tk (ρ.set i (some x)) G1 fun y G2 => tv (ρ.set i (some x)) G2 fun z G3 => ∃ k acc, keyD y = some k ∧ G3 p = some (.dK acc) ∧ acc.length < sizeLine ∧ dDcL chk i tt tk tv p fin ρ xs (gup G3 p (.dK (putD acc k z)))
      else dDcL chk i tt tk tv p fin ρ xs G1
def dDc (s : DSrc) (i : Nat) (tt : DTT) (tk tv : DTE) : DTE := fun ρ G Q => s ρ G fun items chk G1 => ∀ p, G1 p = none → dDcL chk i tt tk tv p (fun G' => Q (.ref p) G') (ρ.set i none) items (gup G1 p (.dK []))
theorem lift_dc {s : DSrc} {i : Nat} {tt : DTT} {tk tv : DTE} {σ : L2.St} {H : Hp} {Q : VK} (h : liftE K (dDc s i tt tk tv) σ H Q) : tDc (iUp K s) (gName i) (liftT K tt) (liftE K tk) (liftE K tv) [i] σ H Q := by
  obtain ⟨ρ, G, Q', rs, hr, q, k⟩ := h
  refine ⟨ρ, G, _, rs, hr, q, fun items chk G1 H1 J t1 hr1 q1 ok P hP => ?_⟩
  have tn := TS.new (o := HO.dK []) hP
  have rs0 : RS K H1 (wipe σ [i]) (ρ.set i none) := (rs.mono t1).unset i
  refine ⟨fun j m H' => m = items.length - j ∧ j ≤ items.length ∧ ∃ G', TS H1 H' ∧ HR K H' G' ∧ dDcL chk i tt tk tv P (fun G' => Q' (.ref P) G') (ρ.set i none) (items.drop j) G',
    ⟨items.length, by simp, Nat.zero_le _, _, tn, hr1.newG (u := .dK []) hP ⟨[], upd_same, .nil⟩, q1 P (hr1.free hP)⟩, ?_⟩
  rintro j m H2 ⟨rfl, hj, G2, t2, hr2, q2⟩
  cases hd : items.drop j with
  | nil =>
    rw [hd] at q2
    have e : j = items.length := by
      have := List.drop_eq_nil_iff.mp hd
      omega
    subst e
    exact .inl ⟨ok.stop H2 G2 t2 hr2 q2.1, k _ G2 _ H2 (t1.trans t2) hr2 (.ref P) q2.2⟩
  | cons x r =>
    rw [hd] at q2
    obtain ⟨hx, hr'⟩ := drop_cons hd
    obtain ⟨go, y⟩ := ok.go j x H2 G2 hx t2 hr2 q2.1
    have hlt := (List.getElem?_eq_some_iff.mp hx).1
    refine .inr ⟨go, fun H' => ∃ G', TS H1 H' ∧ HR K H' G' ∧ dDcL chk i tt tk tv P (fun G' => Q' (.ref P) G') (ρ.set i none) r G', fun H' ⟨G', a, b, c⟩ => ⟨items.length - (j + 1), by omega, rfl, hlt, G', a, b, by rw [hr']; exact c⟩, fun v H3 hy => ?_⟩
    obtain ⟨e3, rv⟩ := y v H3 hy
    subst e3
    refine ⟨by rw [wipe_one, wipe_back], ?_⟩
    have rs1 : RS K H3 ((wipe σ [i]).set i (some v)) ((ρ.set i none).set i (some x)) := (rs0.mono t2).set i rv
    refine liftT.of rs1 hr2 q2.2 fun b G3 H4 t3 hr3 q3 => ?_
    cases b with
    | false =>
      rw [if_neg Bool.false_ne_true] at q3 ⊢
      exact ⟨G3, t2.trans t3, hr3, q3⟩
    | true =>
      rw [if_pos rfl] at q3 ⊢
      refine liftE.of (rs1.mono t3) hr3 q3 fun y G4 u H5 t4 hr4 r4 q4 => ?_
      refine liftE.of ((rs1.mono t3).mono t4) hr4 q4 fun z G5 u2 H6 t5 hr5 r5 ⟨kk, acc, ek, g5, hz, q5⟩ => ?_
      obtain ⟨us, h5, pr⟩ := hr5 P _ g5
      have tp := TS.put (o' := HO.dK (putK us kk u2)) h5 (fun _ q => nomatch q) (fun _ _ q => nomatch q)
      exact ⟨us, kk, key_v r4 ek, h5, by rw [pr.length]; exact hz, _, (((t2.trans t3).trans t4).trans t5).trans tp, hr5.put (u := .dK (putD acc kk z)) h5 (fun _ q => nomatch q) (fun _ _ q => nomatch q) ⟨_, upd_same, (pr.mono tp).put kk (r5.mono tp)⟩, q5⟩
variable {kx vx tg iter : Expr} {ifs : List Expr} {scope : Scope} {s : DSrc} {tt : DTT} {tk tv : DTE} {pos : Pos}
theorem de_dc {i : Nat} {x : Str} {px : Pos} (hc : X.calm = true) (hN : X.N.Nodup) (hi : DI X (.Name x px) iter s) (ok : BlkOk X.N X.env.scope scope [(x, i)])
    (hg : ∀ (s : Shared) (H : Hp) (C : Addr) (cl : List (Str × Addr)) (fp : List Addr), PG (X.blk s H scope (compEnvC scope cl C X.env) fp) (.Name x px) (gName i)) (ht : ∀ (s : Shared) (H : Hp) (C : Addr) (cl : List (Str × Addr)) (fp : List Addr), DTs (X.blk s H scope (compEnvC scope cl C X.env) fp) ifs tt)
    (hk : ∀ (s : Shared) (H : Hp) (C : Addr) (cl : List (Str × Addr)) (fp : List Addr), DE (X.blk s H scope (compEnvC scope cl C X.env) fp) kx tk)
    (he : ∀ (s : Shared) (H : Hp) (C : Addr) (cl : List (Str × Addr)) (fp : List Addr), DE (X.blk s H scope (compEnvC scope cl C X.env) fp) vx tv) (hs : ∀ x, foldedSetIterable iter X.env x = pure x := by intro _; rfl) :
    DE X (.DictComp kx vx [⟨.Name x px, iter, ifs, 0⟩] scope pos) (dDc s i tt tk tv) :=
  pe_weak (pe_dc (own := [(x, i)]) hc hN hi ok hg ht hk he hs) fun σ H Q h => lift_dc h
theorem swd_true {kx vx : Expr} {gs : List Comprehension} {scope : Scope} {pos py : Pos} {y : Str} {l : Nat} {env : Env} (hk : env.scope.kind = .function) (hy : env.scope.names.lookup y = some .local) (hl : (py.line == pos.line) = true)
    (ha : (scope.names.any fun (n, k) => n == y && (k == .local || k == .cell)) = false) : swapsWith (.DictComp kx vx gs scope pos) (some (.Name y py)) l env = pure true := by
  have ky : env.kindOf y = some .local := hy
  have hb : env.blockKind = .function := by unfold Env.blockKind; rw [hk]; rfl
  unfold swapsWith
  simp only [hb, ky, ha, Expr.pos, hl]
  rfl
/-- name = {..: .. for ..}, the name a local -/
theorem ds_setDc {i j : Nat} {x y : Str} {px py : Pos} {spos : Pos} (hc : X.calm = true) (hN : X.N.Nodup) (hy : X.N[j]? = some y) (hyl : X.env.scope.names.lookup y = some .local)
    (hsw : swapsWith (.DictComp kx vx [⟨.Name x px, iter, ifs, 0⟩] scope pos) (some (.Name y py)) spos.line X.env = pure true) (hi : DI X (.Name x px) iter s) (ok : BlkOk X.N X.env.scope scope [(x, i)])
    (hg : ∀ (s : Shared) (H : Hp) (C : Addr) (cl : List (Str × Addr)) (fp : List Addr), PG (X.blk s H scope (compEnvC scope cl C X.env) fp) (.Name x px) (gName i)) (ht : ∀ (s : Shared) (H : Hp) (C : Addr) (cl : List (Str × Addr)) (fp : List Addr), DTs (X.blk s H scope (compEnvC scope cl C X.env) fp) ifs tt)
    (hk : ∀ (s : Shared) (H : Hp) (C : Addr) (cl : List (Str × Addr)) (fp : List Addr), DE (X.blk s H scope (compEnvC scope cl C X.env) fp) kx tk)
    (he : ∀ (s : Shared) (H : Hp) (C : Addr) (cl : List (Str × Addr)) (fp : List Addr), DE (X.blk s H scope (compEnvC scope cl C X.env) fp) vx tv) (hs : ∀ x, foldedSetIterable iter X.env x = pure x := by intro _; rfl) :
    DS X (.Assign [.Name y py] (.DictComp kx vx [⟨.Name x px, iter, ifs, 0⟩] scope pos) spos) (dAsg (dDc s i tt tk tv) (dgName j)) := by
  refine ⟨fun pins s0 σ H D I ⟨ρ, G, E, rs, hr, q, up⟩ => ?_⟩
  have h : tDc (iUp X.K s) (gName i) (liftT X.K tt) (liftE X.K tk) (liftE X.K tv) [i] σ H (fun x H1 => gName j x σ H1 D.nx) :=
    lift_dc ⟨ρ, G, _, rs, hr, q, fun d G' v H' t' hr' r' q' => up.nx _ G' _ H' t' ((rs.mono t').set j r') hr' q'⟩
  rw [exec_Assign_Name_used _ _ _ _ hsw]
  refine wpAny_bind (wpAny_standAt (wpAny_bind ?_))
  show wpAny _ X.A (do let _ ← comprehension (.DictComp kx vx [⟨.Name x px, iter, ifs, 0⟩] scope pos) scope X.env (firstIterPos [⟨.Name x px, iter, ifs, 0⟩] pos) newDict false (eval iter X.env) (some (assign (.Name y py) X.env))) _ _ s0
  refine wpAny_bind (thn (dc_core (own := [(x, i)]) (Qf := fun _ s' => SP X pins D .next s') hc hN I hi ok hg ht hk he hs h fun L C s' m H' I' q hn f => ?_) fun _ s' hq => wpAny_pure (wpAny_pure hq))
  show wpAny _ _ (assign (.Name y py) X.env (.ref L)) _ _ _
  refine wpAny_assign_Name (store_ok2 (v := V.ref L) I' hN hy (.inl hyl) rfl (fun s2 I2 ⟨a, sb, ha⟩ => ?_) (.inr hyl))
  obtain ⟨f0, f1, f2, f3, f4, f5⟩ := f
  have haC : C ≠ a := by
    rcases ha with z | z
    · rw [z]; exact f1
    · exact fun e => f4 y a z e.symm
  refine ⟨m, hn.sameBut sb haC, fun h3 sb3 => ?_⟩
  exact ⟨_, H', I2.turned (t' := s2.toks) (fun b o hb e => (sb3.2 b hb).trans e) f0 f1 f3 f4 f5, q⟩
/-- list(x) -/
def cListA : DCall := fun ds G Q => ∃ x, ds = [x] ∧ match x with
  | .str z => z.length ≤ sizeLine ∧ ∀ p, G p = none → Q (.ref p) (gup G p (.lst (signsD z)))
  | x => ∃ xs, itemsD G x = some xs ∧ ∀ p, G p = none → Q (.ref p) (gup G p (.lst xs))
def vListA (K : PySem.W.Frag) : List V → Hp → VK → Prop := fun xs H Q => (∃ p ys, xs = [.ref p] ∧ (SqL K H p ys ∨ SqT K H p ys) ∧ ∀ l, H l = none → Q (.ref l) (upd H l (.lst ys))) ∨
  ∃ z : Str, xs = [.str z] ∧ z.length ≤ sizeLine ∧ ∀ l, H l = none → Q (.ref l) (upd H l (.lst (z.cps.toList.map fun c => .str ⟨#[c]⟩)))
theorem call_listA (hc : X.calm = true) : CallR X (.type "list") (vListA X.K) := call_list_of.or (call_list_strV hc)
theorem rp_signs {H : Hp} : ∀ l : List Nat, RpA K H (l.map fun c => V.str ⟨#[c]⟩) (l.map fun c => D.str ⟨#[c]⟩)
  | [] => .nil
  | c :: r => .cons (.str _) (rp_signs r)
theorem up_listA : CallUp K (vListA K) cListA := by
  rintro vs H Q ds G Q' hr ra ⟨x, rfl, q⟩ k
  have gen : (∃ xs, itemsD G x = some xs ∧ ∀ p, G p = none → Q' (.ref p) (gup G p (.lst xs))) → vListA K vs H Q := fun ⟨xs, e, q⟩ => .inl (up_list vs H Q [x] G Q' hr ra ⟨x, xs, rfl, e, q⟩ k)
  cases x with
  | str z =>
    cases ra with
    | cons r1 r2 =>
      cases r2; cases r1
      refine .inr ⟨z, rfl, q.1, fun l hl => ?_⟩
      have tn := TS.new (o := HO.lst (z.cps.toList.map fun c => .str ⟨#[c]⟩)) hl
      exact k _ _ _ _ tn (hr.newG (u := .lst (signsD z)) hl ⟨_, upd_same, rp_signs _⟩) (.ref l) (q.2 l (hr.free hl))
  | _ => exact gen q
end
end DL

/-! DL11: module constants; more steps. -/
namespace DL
open PySem PySem.Spec PyProof.Rows L2
theorem Rm.hu0 {k : Nat} {A : Around} (r : Rm k A) : A.units < cLine := by have := r.un; omega
structure CStr (mg : Str → Option Value) (x z : Str) : Prop where
  ex : ∃ t, mg x = some (.str z t)
structure CTup (K : PySem.W.Frag) (mg : Str → Option Value) (x : Str) (ds : List D) : Prop where
  ex : ∃ (a : Addr) (o : Obj) (its : Array Value) (n : Nat) (vs : List V), mg x = some (.ref a) ∧ K.lookup a = some o ∧ o.cls = .type "tuple" ∧ o.data = .seq its n ∧ its.size ≤ sizeLine ∧ Vals vs its.toList ∧ ∀ H : Hp, RpA K H vs ds
section
variable {X : Cx} {pos : Pos} {x z : Str} {ds : List D}
theorem CStr.e (c : CStr X.mg x z) (hg : Gl X x) (hd : (x == ("__debug__" : Str)) = false := by decide) : DE X (.Name x pos) (dC (.str z)) := by
  obtain ⟨t, e⟩ := c.ex
  exact de_glob (v := .str z) hg e ⟨t, rfl⟩ (fun _ => .str _) hd
theorem CTup.e (c : CTup X.K X.mg x ds) (hg : Gl X x) (hd : (x == ("__debug__" : Str)) = false := by decide) : DE X (.Name x pos) (dC (.tup ds)) := by
  obtain ⟨a, o, its, n, vs, e, h1, h2, h3, h4, h5, h6⟩ := c.ex
  exact de_glob (v := .ref a) hg e rfl (fun H => .tup (.inr ⟨o, its, n, h1, h2, h3, h4, h5⟩) (h6 H)) hd
end
theorem dstart_len {N N' : List Str} {ds : List D} (h : N.length = N'.length) : dstart N ds = dstart N' ds := by unfold dstart; rw [h]
section
variable {a b c : Rho → Gp → Prop} {r : DK} {t u : DTS} {F : DEnds} {ρ : Rho} {G : Gp} {te ta tb tk tv : DTE} {tt tu : DTT} {tl : DTA} {g : DTG} {Q : DK} {d x y : D} {i : Nat} {P : Bool → Gp → Prop} {R : List D → Gp → Prop}
theorem st_dget {a : Addr} {kvs : List (Key × D)} {y : D} {k : Key} {d : D} (ek : keyD y = some k) (g : G a = some (.dK kvs)) (v : valD kvs k = some d) (h : Q d G) : rDget (.ref a) y G Q := ⟨a, kvs, k, d, rfl, ek, g, v, h⟩
theorem st_inD {a : Addr} {kvs : List (Key × D)} {y : D} {k : Key} (ek : keyD y = some k) (g : G a = some (.dK kvs)) (h : Q (.bl (valD kvs k).isSome) G) : rInD false y (.ref a) G Q := ⟨a, kvs, k, rfl, ek, g, h⟩
theorem st_notInD {a : Addr} {kvs : List (Key × D)} {y : D} {k : Key} (ek : keyD y = some k) (g : G a = some (.dK kvs)) (h : Q (.bl (!(valD kvs k).isSome)) G) : rInD true y (.ref a) G Q := ⟨a, kvs, k, rfl, ek, g, h⟩
theorem st_putD {a : Addr} {kvs : List (Key × D)} {y v : D} {k : Key} {N : Gp → Prop} (ek : keyD y = some k) (g : G a = some (.dK kvs)) (z : kvs.length < sizeLine) (h : N (gup G a (.dK (putD kvs k v)))) : sPutD (.ref a) y v G N := ⟨a, kvs, k, rfl, ek, g, z, h⟩
theorem st_newK (h : ∀ p, G p = none → Q (.ref p) (gup G p (.dK []))) : dNewK ρ G Q := h
theorem st_join (h : ta ρ G fun x G1 => ∃ z, x = .str z ∧ tb ρ G1 fun y G2 => ∃ xs ys, itemsD G2 y = some xs ∧ strsD xs = some ys ∧ (ys.map (·.length)).sum + ys.length * z.length ≤ 16777216 ∧ Q (.str (Txt.join z ys)) G2) : dJoin ta tb ρ G Q := h
theorem st_sk {s : Str} {S : Str → Prop} (h : S s) : ∃ z, D.str s = .str z ∧ S z := ⟨s, rfl, h⟩
theorem st_neg (h : ta ρ G fun x G1 => ∃ i, x = .int i ∧ Q (.int (-i)) G1) : dNeg ta ρ G Q := h
theorem st_dc {s : DSrc} (h : s ρ G fun items chk G1 => ∀ p, G1 p = none → dDcL chk i tt tk tv p (fun G' => Q (.ref p) G') (ρ.set i none) items (gup G1 p (.dK []))) : dDc s i tt tk tv ρ G Q := h
theorem st_chain {r1 r2 : DR2} {tc : DTE} (h : ta ρ G fun x G1 => tb ρ G1 fun y G2 => r1 x y G2 fun z G3 => ∃ k, z = .bl k ∧ (if k = true then tc ρ G3 fun w G4 => r2 y w G4 Q else Q (.bl false) G3)) : dChain r1 r2 ta tb tc ρ G Q := h
theorem st_listA_tup {ds : List D} (h : ∀ p, G p = none → Q (.ref p) (gup G p (.lst ds))) : cListA [.tup ds] G Q := ⟨_, rfl, ds, rfl, h⟩
theorem st_listA_lst {a : Addr} {ds : List D} (e : G a = some (.lst ds)) (h : ∀ p, G p = none → Q (.ref p) (gup G p (.lst ds))) : cListA [.ref a] G Q := ⟨_, rfl, ds, itemsD_ref e, h⟩
theorem st_listA_str {s : Str} (z : s.length ≤ sizeLine) (h : ∀ p, G p = none → Q (.ref p) (gup G p (.lst (signsD s)))) : cListA [.str s] G Q := ⟨_, rfl, z, h⟩
theorem st_and2 {p q : Prop} [Decidable p] [Decidable q] (h1 : ∀ R : Bool → Gp → Prop, R (decide p) G → tt ρ G R) (h2 : ∀ R : Bool → Gp → Prop, R (decide q) G → tu ρ G R) (h : P (decide (p ∧ q)) G) : dAnd tt tu ρ G P := by
  refine h1 _ ?_
  by_cases c1 : p
  · refine ifT (decide_eq_true c1) (h2 _ ?_)
    have e : decide (p ∧ q) = decide q := decide_eq_decide.mpr ⟨fun z => z.2, fun z => ⟨c1, z⟩⟩
    rw [← e]; exact h
  · refine ifF (decide_eq_false c1) ?_
    have e : decide (p ∧ q) = false := decide_eq_false fun z => c1 z.1
    rw [← e]; exact h
theorem st_or2 {p q : Prop} [Decidable p] [Decidable q] (h1 : ∀ R : Bool → Gp → Prop, R (decide p) G → tt ρ G R) (h2 : ∀ R : Bool → Gp → Prop, R (decide q) G → tu ρ G R) (h : P (decide (p ∨ q)) G) : dOr tt tu ρ G P := by
  refine h1 _ ?_
  by_cases c1 : p
  · refine ifT (decide_eq_true c1) ?_
    have e : decide (p ∨ q) = true := decide_eq_true (.inl c1)
    rw [← e]; exact h
  · refine ifF (decide_eq_false c1) (h2 _ ?_)
    have e : decide (p ∨ q) = decide q := decide_eq_decide.mpr ⟨fun z => z.resolve_left c1, .inr⟩
    rw [← e]; exact h
/-- a sign in a text -/
theorem st_inS {c : Nat} {z : Str} (h : Q (.bl (decide (c ∈ z.cps.toList))) G) : rInStr false (.str ⟨#[c]⟩) (.str z) G Q := ⟨c, z, rfl, rfl, h⟩
theorem st_notInS {c : Nat} {z : Str} (h : Q (.bl (!decide (c ∈ z.cps.toList))) G) : rInStr true (.str ⟨#[c]⟩) (.str z) G Q := ⟨c, z, rfl, rfl, h⟩
theorem st_addL {a b : Addr} {xs ys : List D} (e : G a = some (.lst xs)) (e2 : G b = some (.lst ys)) (z : xs.length + ys.length ≤ sizeLine) (h : ∀ p, G p = none → Q (.ref p) (gup G p (.lst (xs ++ ys)))) : rAdd (.ref a) (.ref b) G Q := ⟨xs, ys, e, e2, z, h⟩
theorem st_in_lst {a : Addr} {x : D} {ds : List D} (e : G a = some (.lst ds)) (f : flatD x = true) (h : ds.all flatD = true) (q : Q (.bl (inFlat x ds)) G) : rInSeq false x (.ref a) G Q := ⟨ds, itemsD_ref e, f, h, q⟩
theorem st_notin_lst {a : Addr} {x : D} {ds : List D} (e : G a = some (.lst ds)) (f : flatD x = true) (h : ds.all flatD = true) (q : Q (.bl (!inFlat x ds)) G) : rInSeq true x (.ref a) G Q := ⟨ds, itemsD_ref e, f, h, q⟩
theorem st_neD {a b : Addr} {ks ls : List (Key × D)} (e : G a = some (.dK ks)) (e2 : G b = some (.dK ls)) (h1 : ∀ p ∈ ks, txtD p.2 = true) (h2 : ∀ p ∈ ls, txtD p.2 = true) (q : Q (.bl (!dictEq ks ls)) G) : rDictE true (.ref a) (.ref b) G Q := ⟨a, b, ks, ls, rfl, rfl, e, e2, h1, h2, q⟩
theorem strs_mapD (ns : List Str) : strsD (ns.map .str) = some ns := by
  induction ns with
  | nil => rfl
  | cons b r ih => simp [strsD, ih]
theorem st_joinL {a : Addr} {z : Str} {ns : List Str} {B : List Str → Prop} (e : G a = some (.lst (ns.map .str))) (hz : (ns.map (·.length)).sum + ns.length * z.length ≤ 16777216) (h : B ns) :
    ∃ xs ys, itemsD G (.ref a) = some xs ∧ strsD xs = some ys ∧ (ys.map (·.length)).sum + ys.length * z.length ≤ 16777216 ∧ B ys := ⟨_, ns, itemsD_ref e, strs_mapD ns, hz, h⟩
/-- "".join of signs -/
theorem joinL_signs : ∀ cs : List Nat, TL.joinL [] (cs.map fun c => [c]) = cs
  | [] => rfl
  | [c] => rfl
  | c :: d :: r => by
    show [c] ++ ([] ++ TL.joinL [] ((d :: r).map fun c => [c])) = _
    rw [joinL_signs (d :: r)]; rfl
theorem join_signs (cs : List Nat) : Txt.join "" (cs.map fun c => (⟨#[c]⟩ : Str)) = ⟨cs.toArray⟩ := by
  have h : TL.tl (Txt.join "" (cs.map fun c => (⟨#[c]⟩ : Str))) = cs := by
    rw [TL.join_eq, TL.tl_join, List.map_map]
    exact joinL_signs cs
  have h2 : (Txt.join "" (cs.map fun c => (⟨#[c]⟩ : Str))).cps.toList = cs := h
  generalize Txt.join "" (cs.map fun c => (⟨#[c]⟩ : Str)) = w at h2
  obtain ⟨c⟩ := w
  subst h2
  simp
theorem sum_ones (cs : List Nat) : ((cs.map fun c => (⟨#[c]⟩ : Str)).map (·.length)).sum = cs.length := by
  induction cs with
  | nil => rfl
  | cons c r ih =>
    rw [List.map_cons, List.map_cons, List.sum_cons, ih, List.length_cons]
    show 1 + _ = _
    omega
end
end DL

/-! G1: parsing expressions as data. -/
namespace GX
open PySem L2 DL
inductive Ex where
  | eps | fail | any
  | set (s : Str) | text (s : Str) | call (s : Str)
  | seq (es : List Ex) | alt (es : List Ex)
  | star (e : Ex) | opt (e : Ex) | nt (e : Ex) | an (e : Ex)
  | mark (l : Str) (e : Ex)
mutual
def dE : Ex → D
  | .eps => .tup [.str "eps"]
  | .fail => .tup [.str "fail"]
  | .any => .tup [.str "any"]
  | .set s => .tup [.str "set", .str s]
  | .text s => .tup [.str "text", .str s]
  | .call s => .tup [.str "call", .str s]
  | .seq es => .tup [.str "seq", .tup (dEs es)]
  | .alt es => .tup [.str "alt", .tup (dEs es)]
  | .star e => .tup [.str "star", dE e]
  | .opt e => .tup [.str "opt", dE e]
  | .nt e => .tup [.str "not", dE e]
  | .an e => .tup [.str "and", dE e]
  | .mark l e => .tup [.str "mark", .str l, dE e]
def dEs : List Ex → List D
  | [] => []
  | e :: es => dE e :: dEs es
end
theorem dEs_map : ∀ es : List Ex, dEs es = es.map dE
  | [] => rfl
  | e :: es => by rw [dEs, List.map_cons, dEs_map es]
mutual
def dep : Ex → Nat
  | .seq es => deps es + 1
  | .alt es => deps es + 1
  | .star e => dep e + 1
  | .opt e => dep e + 1
  | .nt e => dep e + 1
  | .an e => dep e + 1
  | .mark _ e => dep e + 1
  | _ => 1
def deps : List Ex → Nat
  | [] => 0
  | e :: es => max (dep e) (deps es)
end
theorem dep_mem {e : Ex} : ∀ {es : List Ex}, e ∈ es → dep e ≤ deps es
  | x :: xs, h => by
    rw [deps]
    rcases List.mem_cons.mp h with rfl | h
    · exact Nat.le_max_left _ _
    · exact Nat.le_trans (dep_mem h) (Nat.le_max_right _ _)
theorem dep_pos (e : Ex) : 1 ≤ dep e := by
  cases e <;> simp [dep]
mutual
/-- at most 16 parts -/
def wide : Ex → Prop
  | .seq es => es.length ≤ 16 ∧ wides es
  | .alt es => es.length ≤ 16 ∧ wides es
  | .star e => wide e
  | .opt e => wide e
  | .nt e => wide e
  | .an e => wide e
  | .mark _ e => wide e
  | _ => True
def wides : List Ex → Prop
  | [] => True
  | e :: es => wide e ∧ wides es
end
/-- a grammar: rules -/
abbrev Gr := List (Str × Ex)
def dR (r : Str × Ex) : D := .tup [.str r.1, dE r.2]
def dG (g : Gr) : D := .tup (g.map dR)
/-! ### may be empty -/
mutual
def mayE (names : List Str) : Ex → Bool
  | .eps => true
  | .star _ => true
  | .opt _ => true
  | .nt _ => true
  | .an _ => true
  | .call n => decide (n ∈ names)
  | .seq es => mayAll names es
  | .alt es => mayAny names es
  | .mark _ e => mayE names e
  | _ => false
def mayAll (names : List Str) : List Ex → Bool
  | [] => true
  | e :: es => mayE names e && mayAll names es
def mayAny (names : List Str) : List Ex → Bool
  | [] => false
  | e :: es => mayE names e || mayAny names es
end
theorem mayAll_eq (names : List Str) : ∀ es, mayAll names es = es.all (mayE names)
  | [] => rfl
  | e :: es => by rw [mayAll, List.all_cons, mayAll_eq names es]
theorem mayAny_eq (names : List Str) : ∀ es, mayAny names es = es.any (mayE names)
  | [] => rfl
  | e :: es => by rw [mayAny, List.any_cons, mayAny_eq names es]
/-- one round -/
def round (g : Gr) (names : List Str) : List Str := (g.filter fun r => mayE names r.2).map (·.1)
theorem inFlat_str (n : Str) (names : List Str) : inFlat (.str n) (names.map .str) = decide (n ∈ names) := by
  unfold inFlat
  rw [List.any_map]
  induction names with
  | nil => simp
  | cons a r ih =>
    rw [List.any_cons, ih]
    have e : (eqFlat (D.str a) (D.str n)) = decide (a = n) := by
      show (a == n) = _
      by_cases h : a = n <;> simp [h]
    simp only [Function.comp, e]
    by_cases h : a = n
    · subst h; simp
    · have h' : ¬ n = a := fun q => h q.symm
      by_cases h2 : n ∈ r <;> simp [h, h', h2]
theorem flat_strs (names : List Str) : (names.map D.str).all flatD = true := by
  induction names with
  | nil => rfl
  | cons a r ih => rw [List.map_cons, List.all_cons, ih]; rfl
end GX

/-! G2: the empty rules. -/
namespace GX
open PySem L2 DL
mutual
theorem mayE_mono {ns ms : List Str} (h : ∀ x ∈ ns, x ∈ ms) : ∀ e : Ex, mayE ns e = true → mayE ms e = true
  | .eps, _ => rfl
  | .star _, _ => rfl
  | .opt _, _ => rfl
  | .nt _, _ => rfl
  | .an _, _ => rfl
  | .call n, q => by
    simp only [mayE, decide_eq_true_eq] at q ⊢
    exact h n q
  | .seq es, q => by simp only [mayE] at q ⊢; exact mayAll_mono h es q
  | .alt es, q => by simp only [mayE] at q ⊢; exact mayAny_mono h es q
  | .mark _ e, q => by simp only [mayE] at q ⊢; exact mayE_mono h e q
  | .fail, q => by simp [mayE] at q
  | .any, q => by simp [mayE] at q
  | .set _, q => by simp [mayE] at q
  | .text _, q => by simp [mayE] at q
theorem mayAll_mono {ns ms : List Str} (h : ∀ x ∈ ns, x ∈ ms) : ∀ es : List Ex, mayAll ns es = true → mayAll ms es = true
  | [], _ => rfl
  | e :: es, q => by
    simp only [mayAll, Bool.and_eq_true] at q ⊢
    exact ⟨mayE_mono h e q.1, mayAll_mono h es q.2⟩
theorem mayAny_mono {ns ms : List Str} (h : ∀ x ∈ ns, x ∈ ms) : ∀ es : List Ex, mayAny ns es = true → mayAny ms es = true
  | [], q => by simp [mayAny] at q
  | e :: es, q => by
    simp only [mayAny, Bool.or_eq_true] at q ⊢
    rcases q with q | q
    · exact .inl (mayE_mono h e q)
    · exact .inr (mayAny_mono h es q)
end
def itr (g : Gr) : Nat → List Str
  | 0 => []
  | k + 1 => round g (itr g k)
theorem filter_sub {α : Type} {p q : α → Bool} : ∀ l : List α, (∀ x ∈ l, p x = true → q x = true) → (l.filter p).Sublist (l.filter q)
  | [], _ => List.Sublist.refl _
  | x :: l, h => by
    have ih := filter_sub l fun y hy => h y (List.mem_cons_of_mem _ hy)
    cases hp : p x with
    | true => simp [List.filter_cons, hp, h x List.mem_cons_self hp, ih]
    | false =>
      cases hq : q x with
      | true => simpa [List.filter_cons, hp, hq] using ih.cons x
      | false => simpa [List.filter_cons, hp, hq] using ih
theorem round_sub {g : Gr} {ns ms : List Str} (h : ∀ x ∈ ns, x ∈ ms) : (round g ns).Sublist (round g ms) := by
  unfold round
  exact (filter_sub g fun r _ q => mayE_mono h r.2 q).map _
theorem itr_sub (g : Gr) : ∀ k, (itr g k).Sublist (itr g (k + 1))
  | 0 => List.nil_sublist _
  | k + 1 => round_sub fun x hx => (itr_sub g k).subset hx
theorem itr_len (g : Gr) : ∀ k, (itr g k).length ≤ g.length
  | 0 => Nat.zero_le _
  | k + 1 => by
    show (round g _).length ≤ _
    unfold round
    rw [List.length_map]
    exact List.length_filter_le _ _
theorem itr_grow {g : Gr} {k : Nat} (h : itr g (k + 1) ≠ itr g k) : (itr g k).length < (itr g (k + 1)).length := by
  rcases Nat.lt_or_ge (itr g k).length (itr g (k + 1)).length with c | c
  · exact c
  · exact absurd ((itr_sub g k).eq_of_length_le c).symm h
theorem itr_fix {g : Gr} {k : Nat} (h : itr g (k + 1) = itr g k) : ∀ j, itr g (k + j) = itr g k
  | 0 => rfl
  | j + 1 => by
    show round g (itr g (k + j)) = _
    rw [itr_fix h j]
    exact h
def emp (g : Gr) : List Str := itr g (g.length + 1)
theorem itr_ex (g : Gr) : ∃ k, k ≤ g.length ∧ itr g (k + 1) = itr g k := by
  rcases Classical.em (∃ k, k ≤ g.length ∧ itr g (k + 1) = itr g k) with h | h
  · exact h
  · have key : ∀ k, k ≤ g.length + 1 → k ≤ (itr g k).length := by
      intro k
      induction k with
      | zero => intro _; exact Nat.zero_le _
      | succ k ih =>
        intro hk
        have h1 := ih (by omega)
        have h2 : itr g (k + 1) ≠ itr g k := fun e => h ⟨k, by omega, e⟩
        have h3 := itr_grow h2
        omega
    have h1 := key (g.length + 1) (Nat.le_refl _)
    have h2 := itr_len g (g.length + 1)
    omega
theorem emp_fix {g : Gr} {k : Nat} (h : itr g (k + 1) = itr g k) : emp g = itr g k := by
  obtain ⟨k0, hk0, e0⟩ := itr_ex g
  have e1 : emp g = itr g k0 := by
    have q := itr_fix e0 (g.length + 1 - k0)
    rw [show k0 + (g.length + 1 - k0) = g.length + 1 by omega] at q
    exact q
  rcases Nat.le_total k k0 with c | c
  · have q := itr_fix h (k0 - k)
    rw [show k + (k0 - k) = k0 by omega] at q
    rw [e1, q]
  · have q := itr_fix e0 (k - k0)
    rw [show k0 + (k - k0) = k by omega] at q
    rw [e1, q]
theorem round_emp (g : Gr) : round g (emp g) = emp g := by
  obtain ⟨k, _, e⟩ := itr_ex g
  rw [emp_fix e]
  exact e
theorem itr_mem {g : Gr} {k : Nat} {x : Str} (h : x ∈ itr g k) : x ∈ g.map (·.1) := by
  cases k with
  | zero => cases h
  | succ k =>
    have h' : x ∈ round g (itr g k) := h
    unfold round at h'
    rw [List.mem_map] at h' ⊢
    obtain ⟨r, hr, e⟩ := h'
    exact ⟨r, (List.mem_filter.mp hr).1, e⟩
/-- a text that can be compared -/
def okS (s : Str) : Prop := PyData.strOk s = true
/-- a grammar whose rules are at most n deep -/
structure GrOk (n : Nat) (g : Gr) : Prop where
  len : g.length ≤ 16
  dep : ∀ r ∈ g, dep r.2 ≤ n
  wide : ∀ r ∈ g, wide r.2
  names : ∀ r ∈ g, okS r.1
theorem toPs_strs (f : Addr → Option (List PyData)) : ∀ ns : List Str, toPs f (ns.map .str) = some (ns.map .str)
  | [] => rfl
  | n :: r => by
    rw [List.map_cons, toPs, toPs_strs f r]
    rfl
theorem canLay_strs : ∀ {ns : List Str}, (∀ x ∈ ns, okS x) → PyData.canLayAll0 (ns.map .str) = true
  | [], _ => rfl
  | n :: r, h => by
    rw [List.map_cons, PyData.canLayAll0, canLay_strs fun x hx => h x (List.mem_cons_of_mem _ hx), Bool.and_true]
    simpa [PyData.canLay0] using (show PyData.strOk n = true from h n List.mem_cons_self)
theorem depth_strs : ∀ ns : List Str, PyData.depthAll (ns.map .str) = 0
  | [] => by simp [PyData.depthAll]
  | n :: r => by
    rw [List.map_cons, PyData.depthAll, depth_strs r]
    simp [PyData.depth]
theorem eqv_strs : ∀ ns ms : List Str, PyData.eqvAll (ns.map .str) (ms.map .str) = decide (ns = ms)
  | [], [] => by simp [PyData.eqvAll]
  | [], _ :: _ => by simp [PyData.eqvAll]
  | _ :: _, [] => by simp [PyData.eqvAll]
  | n :: r, m :: q => by
    rw [List.map_cons, List.map_cons, PyData.eqvAll, eqv_strs r q, PyData.eqv]
    by_cases h : n = m <;> by_cases h2 : r = q <;> simp [h, h2]
/-- two lists of texts compared -/
theorem eqOk_strs {G : Gp} {a b : Addr} {ns ms : List Str} (ga : G a = some (.lst (ns.map .str))) (gb : G b = some (.lst (ms.map .str))) (ha : ∀ x ∈ ns, okS x) (hb : ∀ x ∈ ms, okS x) : EqOk G (.ref a) (.ref b) (decide (ns = ms)) := by
  refine ⟨.list (ns.map .str), .list (ms.map .str), ?_, ?_, ?_, ?_, ?_, ?_⟩
  · simp only [toP, gl, ga, toPs_strs]; rfl
  · simp only [toP, gl, gb, toPs_strs]; rfl
  · simp only [PyData.canLay0]; exact canLay_strs ha
  · simp only [PyData.canLay0]; exact canLay_strs hb
  · simp only [PyData.depth, depth_strs]; decide
  · rw [PyData.eqv, eqv_strs]
end GX

/-! G3: well-formed expressions; drawing. -/
namespace GX
open PySem L2 DL
def letterOk (c : Nat) : Bool := decide (97 ≤ c) && decide (c ≤ 122)
def charOk (c : Nat) : Bool := decide (32 ≤ c) && decide (c ≤ 126) && decide (c ≠ 37)
def isNameB (s : Str) : Bool := decide (1 ≤ s.length) && decide (s.length ≤ 12) && s.cps.toList.all letterOk
def isTextB (s : Str) : Bool := decide (1 ≤ s.length) && decide (s.length ≤ 20) && s.cps.toList.all charOk
def ascB : List Nat → Bool
  | a :: b :: r => decide (a < b) && ascB (b :: r)
  | _ => true
def isSetB (s : Str) : Bool := decide (1 ≤ s.length) && s.cps.toList.all charOk && ascB s.cps.toList
mutual
def wf : Ex → Bool
  | .eps => true
  | .fail => true
  | .any => true
  | .set s => isSetB s
  | .text s => isTextB s
  | .call s => isNameB s
  | .seq es => decide (es.length ≤ 16) && wfs es
  | .alt es => decide (es.length ≤ 16) && wfs es
  | .star e => wf e
  | .opt e => wf e
  | .nt e => wf e
  | .an e => wf e
  | .mark l e => isNameB l && wf e
def wfs : List Ex → Bool
  | [] => true
  | e :: es => wf e && wfs es
end
mutual
theorem wide_of : ∀ e : Ex, wf e = true → wide e
  | .eps, _ => trivial
  | .fail, _ => trivial
  | .any, _ => trivial
  | .set _, _ => trivial
  | .text _, _ => trivial
  | .call _, _ => trivial
  | .seq es, h => by simp only [wf, Bool.and_eq_true, decide_eq_true_eq] at h; exact ⟨h.1, wides_of es h.2⟩
  | .alt es, h => by simp only [wf, Bool.and_eq_true, decide_eq_true_eq] at h; exact ⟨h.1, wides_of es h.2⟩
  | .star e, h => by simp only [wf] at h; exact wide_of e h
  | .opt e, h => by simp only [wf] at h; exact wide_of e h
  | .nt e, h => by simp only [wf] at h; exact wide_of e h
  | .an e, h => by simp only [wf] at h; exact wide_of e h
  | .mark _ e, h => by simp only [wf, Bool.and_eq_true] at h; exact wide_of e h.2
theorem wides_of : ∀ es : List Ex, wfs es = true → wides es
  | [], _ => trivial
  | e :: es, h => by simp only [wfs, Bool.and_eq_true] at h; exact ⟨wide_of e h.1, wides_of es h.2⟩
end
mutual
/-- the called names, with repetitions -/
def callsE : Ex → List Str
  | .call n => [n]
  | .seq es => callsEs es
  | .alt es => callsEs es
  | .star e => callsE e
  | .opt e => callsE e
  | .nt e => callsE e
  | .an e => callsE e
  | .mark _ e => callsE e
  | _ => []
def callsEs : List Ex → List Str
  | [] => []
  | e :: es => callsE e ++ callsEs es
end
theorem okS_of {s : Str} (h : s.cps.toList.all charOk = true) : okS s := by
  show PyData.strOk s = true
  unfold PyData.strOk
  rw [← Array.all_toList]
  rw [List.all_eq_true] at h ⊢
  intro c hc
  have := h c hc
  simp only [charOk, Bool.and_eq_true, decide_eq_true_eq] at this
  exact decide_eq_true (by omega)
theorem letter_char {c : Nat} (h : letterOk c = true) : charOk c = true := by
  simp only [letterOk, charOk, Bool.and_eq_true, decide_eq_true_eq] at h ⊢
  omega
theorem okS_name {s : Str} (h : isNameB s = true) : okS s := by
  simp only [isNameB, Bool.and_eq_true] at h
  refine okS_of ?_
  rw [List.all_eq_true] at *
  intro c hc
  exact letter_char (h.2 c hc)
theorem okS_text {s : Str} (h : isTextB s = true) : okS s := by
  simp only [isTextB, Bool.and_eq_true] at h
  exact okS_of h.2
theorem okS_set {s : Str} (h : isSetB s = true) : okS s := by
  simp only [isSetB, Bool.and_eq_true] at h
  exact okS_of h.1.2
/-! ### drawing -/
def RowAt (G : Gp) (a : Addr) : Prop := ∃ (p : Int) (xs : List Int), G a = some (.lst (.int p :: xs.map .int)) ∧ 1 ≤ p
/-- the row has been drawn from; all else that stood stands -/
structure RowUp (G G' : Gp) (a : Addr) : Prop where
  row : RowAt G' a
  keep : ∀ b o, b ≠ a → G b = some o → G' b = some o
theorem RowAt.some {G : Gp} {a : Addr} (h : RowAt G a) : ∃ o, G a = some o := let ⟨_, _, g, _⟩ := h; ⟨_, g⟩
theorem RowAt.ne {G : Gp} {a p : Addr} (h : RowAt G a) (n : G p = none) : p ≠ a := by
  obtain ⟨o, g⟩ := h.some
  rintro rfl
  rw [n] at g; cases g
theorem RowAt.gup {G : Gp} {a p : Addr} {o : DO} (h : RowAt G a) (n : G p = none) : RowAt (gup G p o) a := by
  obtain ⟨q, xs, g, l⟩ := h
  exact ⟨q, xs, by rw [gup_ne (gne g n)]; exact g, l⟩
theorem RowAt.sub {G G' : Gp} {a : Addr} (h : RowAt G a) (s : DL.Sub G G') : RowAt G' a := let ⟨q, xs, g, l⟩ := h; ⟨q, xs, s _ _ g, l⟩
theorem RowUp.refl {G : Gp} {a : Addr} (h : RowAt G a) : RowUp G G a := ⟨h, fun _ _ _ e => e⟩
theorem RowUp.trans {G G1 G2 : Gp} {a : Addr} (h : RowUp G G1 a) (k : RowUp G1 G2 a) : RowUp G G2 a := ⟨k.row, fun b o hb e => k.keep b o hb (h.keep b o hb e)⟩
theorem RowUp.at {G G' : Gp} {a b : Addr} {o : DO} (h : RowUp G G' a) (g : G b = some o) (n : b ≠ a) : G' b = some o := h.keep b o n g
theorem RowUp.free {G G' : Gp} {a b : Addr} (h : RowUp G G' a) (g : G' b = none) : G b = none := by
  by_cases c : b = a
  · subst c
    obtain ⟨o, e⟩ := h.row.some
    rw [e] at g; cases g
  · cases e : G b with
    | none => rfl
    | some o => rw [h.keep b o c e] at g; cases g
theorem RowUp.new {G G' : Gp} {a p : Addr} {o : DO} (h : RowUp G G' a) (n : G' p = none) : RowUp G (gup G' p o) a :=
  ⟨h.row.gup n, fun b u hb e => by rw [gup_ne (gne (h.keep b u hb e) n)]; exact h.keep b u hb e⟩
theorem RowUp.gup {G G1 : Gp} {a p : Addr} {o : DO} (n : G p = none) (h : RowUp (gup G p o) G1 a) : RowUp G G1 a :=
  ⟨h.row, fun b u hb e => h.keep b u hb (by rw [gup_ne (gne e n)]; exact e)⟩
def spTake : DSp := fun ds G Q _ => ∃ (a : Addr) (m : Int), ds = [.ref a, .int m] ∧ RowAt G a ∧ 0 < m ∧ ∀ r G', 0 ≤ r → r < m → RowUp G G' a → Q (.int r) G'
def spStream : DSp := fun ds G Q _ => ∃ ns : List Int, ds = [.rol (ns.map .int)] ∧ ns.length ≤ 63 ∧ ∀ a G', G a = none → RowAt G' a → DL.Sub G G' → Q (.ref a) G'
end GX

namespace LW
open PySem L2 DL GX
def t_law_stream : DTS :=
 dSeq (dAsg (dLst (dCons (dC (.int 1)) (dNil))) (dgName 1))
 (dSeq (dFor (sSeq (dSl (dVar 0) (dNoPart) (dPart (dC (.int 63))))) (dgName 2)
 (dSeq (dAsg (dCB cAbs (dCons (dCB cInt (dCons (dVar 2) (dNil))) (dNil))) (dgName 3))
 (dFor (sRng1 (dCons (dC (.int 60)) (dNil))) (dgName 4)
 (dSeq (dDrop (dBML mAppend (dVar 1) (dCons (dOp rMod (dVar 3) (dC (.int 59))) (dNil))))
 (dSeq (dAsg (dOp rFdiv (dVar 3) (dC (.int 59))) (dgName 3))
 (dIfS (dTest (dOp rEq (dVar 3) (dC (.int 0))))
 (dBreak)
 (dNext)))))))
 (dSeq (dAsg (dC (.int 7)) (dgName 5))
 (dSeq (dFor (sSeq (dSl (dVar 0) (dNoPart) (dPart (dC (.int 63))))) (dgName 2)
 (dAsg (dOp rMod (dCB cInt (dCons (dOp rAdd (dOp rAdd (dOp rMul (dVar 5) (dC (.int 131))) (dVar 2)) (dC (.int 17))) (dNil))) (dC (.int 1000003))) (dgName 5)))
 (dSeq (dFor (sRng1 (dCons (dC (.int 150)) (dNil))) (dgName 4)
 (dSeq (dAsg (dOp rMod (dCB cInt (dCons (dOp rAdd (dOp rAdd (dOp rMul (dVar 5) (dC (.int 48271))) (dOp rMul (dVar 4) (dC (.int 69621)))) (dC (.int 11))) (dNil))) (dC (.int 2147483647))) (dgName 5))
 (dDrop (dBML mAppend (dVar 1) (dCons (dOp rMod (dOp rFdiv (dVar 5) (dC (.int 1009))) (dC (.int 59))) (dNil))))))
 (dRet (dVar 1))))))

abbrev N_law_stream : List Str := ["_law_script", "_law_row", "_law_cell", "_law_left", "_law_k", "_law_seed"]
def t_law_take : DTS :=
 dSeq (dIfS (dTest (dOp rLt (dOp rIxD (dVar 0) (dC (.int 0))) (dCB cLen (dCons (dVar 0) (dNil)))))
 (dSeq (dAsg (dOp rAdd (dOp rIxD (dVar 0) (dC (.int 0))) (dC (.int 1))) (dgSub (dVar 0) (dC (.int 0)) sSetL))
 (dRet (dOp rMod (dCB cInt (dCons (dOp rIxD (dVar 0) (dOp rSub (dOp rIxD (dVar 0) (dC (.int 0))) (dC (.int 1)))) (dNil))) (dVar 1))))
 (dNext))
 (dRet (dC (.int 0)))

abbrev N_law_take : List Str := ["_law_row", "_law_many"]
def t_law_wild (sp_law_take : DSp) (sp_law_wild : DSp) : DTS :=
 dSeq (dAsg (dCall sp_law_take [] (dCons (dVar 0) (dCons (dC (.int 13)) (dNil)))) (dgName 3))
 (dSeq (dIfS (dOr (dTest (dOp rEq (dVar 1) (dC (.int 0)))) (dTest (dOp rLt (dVar 3) (dC (.int 3)))))
 (dRet (dOp rIxD (dLst (dCons (dTup (dCons (dC (.str "text")) (dCons (dC (.str "a")) (dNil)))) (dCons (dTup (dCons (dC (.str "any")) (dNil))) (dCons (dTup (dCons (dC (.str "set")) (dCons (dC (.str "bc")) (dNil)))) (dCons (dTup (dCons (dC (.str "eps")) (dNil))) (dCons (dTup (dCons (dC (.str "fail")) (dNil))) (dCons (dTup (dCons (dC (.str "call")) (dCons (dOp rIxD (dC (.str "abcde")) (dCall sp_law_take [] (dCons (dVar 0) (dCons (dVar 2) (dNil))))) (dNil)))) (dNil)))))))) (dCall sp_law_take [] (dCons (dVar 0) (dCons (dC (.int 6)) (dNil))))))
 (dNext))
 (dSeq (dIfS (dTest (dOp rLt (dVar 3) (dC (.int 5))))
 (dRet (dTup (dCons (dC (.str "call")) (dCons (dOp rIxD (dC (.str "abcde")) (dCall sp_law_take [] (dCons (dVar 0) (dCons (dVar 2) (dNil))))) (dNil)))))
 (dNext))
 (dSeq (dAsg (dCall sp_law_wild [] (dCons (dVar 0) (dCons (dOp rSub (dVar 1) (dC (.int 1))) (dCons (dVar 2) (dNil))))) (dgName 4))
 (dSeq (dIfS (dTest (dOp rLt (dVar 3) (dC (.int 9))))
 (dRet (dTup (dCons (dOp rIxD (dLst (dCons (dC (.str "star")) (dCons (dC (.str "opt")) (dCons (dC (.str "not")) (dCons (dC (.str "and")) (dNil)))))) (dOp rSub (dVar 3) (dC (.int 5)))) (dCons (dVar 4) (dNil)))))
 (dNext))
 (dSeq (dIfS (dTest (dOp rEq (dVar 3) (dC (.int 9))))
 (dRet (dTup (dCons (dC (.str "mark")) (dCons (dC (.str "x")) (dCons (dVar 4) (dNil))))))
 (dNext))
 (dSeq (dAsg (dCall sp_law_wild [] (dCons (dVar 0) (dCons (dOp rSub (dVar 1) (dC (.int 1))) (dCons (dVar 2) (dNil))))) (dgName 5))
 (dRet (dTup (dCons (dOp rIxD (dLst (dCons (dC (.str "seq")) (dCons (dC (.str "seq")) (dCons (dC (.str "alt")) (dNil))))) (dOp rSub (dVar 3) (dC (.int 10)))) (dCons (dSl (dTup (dCons (dVar 4) (dCons (dVar 5) (dNil)))) (dNoPart) (dPart (dOp rSub (dC (.int 2)) (dCB cInt (dCons (dOp rEq (dCall sp_law_take [] (dCons (dVar 0) (dCons (dC (.int 8)) (dNil)))) (dC (.int 0))) (dNil)))))) (dNil)))))))))))

abbrev N_law_wild : List Str := ["_law_row", "_law_depth", "_law_many", "_law_kind", "_law_one", "_law_two"]
local macro_rules | `(tactic| walk_at "go1") => `(tactic| first
  | with_reducible refine st_seq ?_ | with_reducible refine st_asg ?_ | with_reducible refine st_name ?_
  | (with_reducible refine st_v ?_; refine ⟨_, rfl, ?_⟩) | with_reducible refine st_c ?_ | with_reducible refine st_op ?_ | with_reducible refine st_test ?_ | with_reducible refine st_tk ?_
  | with_reducible refine st_if ?_ | with_reducible refine st_rt ?_ | with_reducible refine st_nil ?_ | with_reducible refine st_cons ?_ | with_reducible refine st_tup ?_
  | with_reducible refine st_sz sm1 ?_ | with_reducible refine st_sz sm2 ?_ | with_reducible refine st_sz sm3 ?_ | with_reducible refine st_sz sm0 ?_ | with_reducible refine st_sz sm4 ?_ | with_reducible refine st_sz sm5 ?_
  | with_reducible refine st_eq_str ?_ | with_reducible refine st_eq_int ?_
  | with_reducible refine st_ix_tup at0 ?_ | with_reducible refine st_ix_tup at1 ?_ | with_reducible refine st_ix_tup at2 ?_
  | with_reducible refine ifDt (by decide +kernel) ?_ | with_reducible refine ifDf (by decide +kernel) ?_ | with_reducible refine ifT (by decide +kernel) ?_ | with_reducible refine ifF (by decide +kernel) ?_
  | with_reducible refine st_in_tup rfl rfl ?_ | with_reducible refine st_next ?_
  | with_reducible refine st_truth ?_ | with_reducible refine st_tr_bl ?_ | with_reducible refine st_tr_tup ?_ | with_reducible refine st_and ?_ | with_reducible refine st_or ?_ | with_reducible refine st_not ?_
  | with_reducible refine st_cb ?_ | with_reducible refine st_call ?_ | with_reducible refine st_app ?_ | with_reducible refine st_drop ?_ | with_reducible refine st_ml ?_
  | with_reducible refine st_lt ?_ | with_reducible refine st_le ?_ | with_reducible refine st_gt ?_ | with_reducible refine st_ge ?_ | with_reducible refine st_add ?_ | with_reducible refine st_sub ?_
  | with_reducible refine st_ne_bl ?_ | with_reducible refine st_eq_bl ?_ | with_reducible refine st_isi_blb ?_ | with_reducible refine st_ne_str ?_ | with_reducible refine st_ne_int ?_ | with_reducible refine st_lst ?_ | with_reducible refine st_len_tup ?_ | with_reducible refine st_int ?_ | with_reducible refine st_int_bl ?_ | with_reducible refine st_abs ?_
  | with_reducible refine st_for ?_ | with_reducible refine st_lc ?_ | with_reducible refine st_sseq ?_ | with_reducible refine st_it_tup ?_ | with_reducible refine st_it_str ?_ | with_reducible refine st_it_rol ?_
  | with_reducible refine st_rng1 ?_ | with_reducible refine st_rng2 ?_ | with_reducible refine st_slice ?_ | with_reducible refine st_nopart ?_ | with_reducible refine st_part ?_ | with_reducible refine st_pk ?_
  | with_reducible refine st_gtup rfl ?_ | with_reducible refine st_gcons ?_ | with_reducible refine st_gnil ?_ | with_reducible refine st_gsub ?_ | with_reducible refine st_ife ?_ | with_reducible refine st_andV ?_ | with_reducible refine st_orV ?_ | with_reducible refine st_notV ?_ | with_reducible refine st_bk ?_
  | with_reducible refine st_isN_non ?_ | with_reducible refine st_isN_tup ?_ | with_reducible refine st_notN_non ?_ | with_reducible refine st_notN_tup ?_ | with_reducible refine st_rtN ?_ | with_reducible refine st_brk ?_ | with_reducible refine st_cnt ?_ | with_reducible refine st_yes ?_)
local macro_rules | `(tactic| walk_at "go") => `(tactic| repeat walk_at "go1")


theorem pure_take (ds : List D) (G : Gp) (Q : DK) (E : DX) (h : spTake ds G Q E) : t_law_take (fnEnds Q) (dstart N_law_take ds) G := by
  obtain ⟨a, m, rfl, ⟨p, xs, g, hp⟩, hm, q⟩ := h
  unfold t_law_take
  walk_at "go"
  refine st_ix_lst g at0 ?_
  walk_at "go"
  refine st_len_lst g ?_
  walk_at "go"
  refine ifD (fun c => ?_) (fun c => ?_)
  · have hl : (((D.int p :: xs.map D.int).length : Nat) : Int) = (xs.length : Int) + 1 := by simp
    rw [hl] at c
    walk_at "go"
    refine st_ix_lst g at0 ?_
    walk_at "go"
    refine st_setL g (ix0 (by simp)) ?_
    walk_at "go"
    refine st_ix_lst gup_same at0 ?_
    walk_at "go"
    have hx : ∃ x, xs[(p - 1).toNat]? = some x := ⟨_, List.getElem?_eq_getElem (by omega)⟩
    obtain ⟨x, hx⟩ := hx
    have hat : L2.atI (D.int (p + 1) :: xs.map D.int) (p + 1 - 1) = some (.int x) := by
      have e : p + 1 - 1 = (((p - 1).toNat + 1 : Nat) : Int) := by omega
      rw [e]
      exact atI_nat (by rw [List.getElem?_cons_succ, List.getElem?_map, hx]; rfl)
    refine st_ix_lst gup_same hat ?_
    walk_at "go"
    refine st_mod hm (st_fin ?_)
    exact q _ _ (Int.emod_nonneg _ (by omega)) (Int.emod_lt_of_pos _ hm) ⟨⟨p + 1, xs, gup_same, by omega⟩, fun b o hb e => by rw [gup_ne hb]; exact e⟩
  · walk_at "go"
    exact st_fin (q 0 G (Int.le_refl 0) hm ⟨⟨p, xs, g, hp⟩, fun _ _ _ e => e⟩)
theorem pure_stream (ds : List D) (G : Gp) (Q : DK) (E : DX) (h : spStream ds G Q E) : t_law_stream (fnEnds Q) (dstart N_law_stream ds) G := by
  obtain ⟨ns, rfl, hn, q⟩ := h
  unfold t_law_stream
  walk_at "go"
  intro a ha
  walk_at "go"
  refine ⟨_, rfl, fun p hp => ?_⟩
  have hpa : a ≠ p := gne gup_same hp
  walk_at "go"
  refine st_it_lst gup_same ?_
  generalize hcut : cutD (ns.map D.int) none (some 63) = cs
  have hcl : cs.length ≤ 63 := by
    rw [← hcut]; unfold cutD
    rw [List.length_take, List.length_drop, List.length_map]; omega
  have hci : ∀ c ∈ cs, ∃ i : Int, c = .int i := by
    intro c hc
    rw [← hcut] at hc
    unfold cutD at hc
    obtain ⟨i, _, e⟩ := List.mem_map.mp (List.mem_of_mem_drop (List.mem_of_mem_take hc))
    exact ⟨i, e.symm⟩
  refine for_go (fun r ρ G' => ∃ (xs : List Int) (c1 c2 c3 : Option D), ρ = [some (.rol (ns.map .int)), some (.ref a), c1, c2, c3, none] ∧ G' a = some (.lst (.int 1 :: xs.map .int)) ∧ G' p = some (.lst cs) ∧ (∀ b, b ≠ a → b ≠ p → G' b = G b) ∧
      xs.length + r.length * 60 ≤ 63 * 60 ∧ ∀ c ∈ r, ∃ i : Int, c = .int i)
    ⟨[], none, none, none, rfl, by rw [gup_ne hpa]; exact gup_same, gup_same, fun b h1 h2 => by rw [gup_ne h2, gup_ne h1], by simp; omega, hci⟩ (fun _ _ _ ⟨_, _, _, _, _, _, h, _⟩ => h) ?_ ?_
  · rintro x r ρ G1 ⟨xs, c1, c2, c3, rfl, g1, g2, hk, hl, hi⟩ N hN
    obtain ⟨i, rfl⟩ := hi x List.mem_cons_self
    walk_at "go"
    generalize (if i < 0 then -i else i) = left0
    refine ⟨_, rfl, ⟨by decide, by decide⟩, ?_⟩
    refine for_go (fun r2 ρ G' => ∃ (xs2 : List Int) (left : Int) (c3 : Option D), ρ = [some (.rol (ns.map .int)), some (.ref a), some (.int i), some (.int left), c3, none] ∧ G' a = some (.lst (.int 1 :: xs2.map .int)) ∧ G' p = some (.lst cs) ∧ (∀ b, b ≠ a → b ≠ p → G' b = G b) ∧
      xs2.length + r2.length + r.length * 60 ≤ 63 * 60)
      ⟨xs, left0, c3, rfl, g1, g2, hk, by unfold rangeD; simp at hl ⊢; omega⟩ (fun _ _ _ _ => trivial) ?_ ?_
    · rintro x2 r2 ρ G2 ⟨xs2, left, c3, rfl, g1, g2, hk, hl2⟩ N2 hN2
      walk_at "go"
      refine st_isl g1 ?_
      walk_at "go"
      refine st_mod (by decide) ?_
      walk_at "go"
      refine st_append g1 (by simp at hl2 ⊢; rw [sizeLine_eq]; omega) ?_
      walk_at "go"
      refine st_fdiv ⟨by decide, by decide⟩ ?_
      walk_at "go"
      have gg : gup G2 a (.lst ((D.int 1 :: xs2.map D.int) ++ [.int (left % 59)])) a = some (.lst (.int 1 :: (xs2 ++ [left % 59]).map D.int)) := by rw [gup_same]; simp
      have gp : gup G2 a (.lst ((D.int 1 :: xs2.map D.int) ++ [.int (left % 59)])) p = some (.lst cs) := by rw [gup_ne (Ne.symm hpa)]; exact g2
      have gk : ∀ b, b ≠ a → b ≠ p → gup G2 a (.lst ((D.int 1 :: xs2.map D.int) ++ [.int (left % 59)])) b = G b := fun b h1 h2 => by rw [gup_ne h1]; exact hk b h1 h2
      refine ifD (fun c => ?_) (fun c => ?_)
      · walk_at "go"
        exact hN _ _ ⟨_, _, _, _, rfl, gg, gp, gk, by simp at hl2 ⊢; omega, fun c hc => hi c (List.mem_cons_of_mem _ hc)⟩
      · walk_at "go"
        exact hN2 _ _ ⟨_, _, _, rfl, gg, gp, gk, by simp at hl2 ⊢; omega⟩
    · rintro ρ G2 ⟨xs2, left, c3, rfl, g1, g2, hk, hl2⟩
      exact hN _ _ ⟨xs2, _, _, _, rfl, g1, g2, hk, by simp at hl2 ⊢; omega, fun c hc => hi c (List.mem_cons_of_mem _ hc)⟩
  · rintro ρ G1 ⟨xs, c1, c2, c3, rfl, g1, g2, hk, hl, _⟩
    have hk1 := hk
    walk_at "go"
    refine ⟨_, rfl, fun p2 hp2 => ?_⟩
    have hpa2 : a ≠ p2 := gne g1 hp2
    walk_at "go"
    refine st_it_lst gup_same ?_
    refine for_go (fun r ρ G' => ∃ (seed : Int) (c1 : Option D), ρ = [some (.rol (ns.map .int)), some (.ref a), c1, c2, c3, some (.int seed)] ∧ G' = gup G1 p2 (.lst cs) ∧ 0 ≤ seed ∧ seed < 2147483647 ∧ ∀ c ∈ r, ∃ i : Int, c = .int i)
      ⟨7, c1, rfl, by rw [hcut], by decide, by decide, by rw [hcut]; exact hci⟩ (fun _ _ _ ⟨_, _, _, h, _⟩ => by rw [h, hcut]; exact gup_same) ?_ ?_
    · rintro x r ρ G2 ⟨seed, c1, rfl, rfl, s0, s1, hi⟩ N hN
      obtain ⟨i, rfl⟩ := hi x List.mem_cons_self
      walk_at "go"
      refine st_mul (.inl ⟨by omega, by omega⟩) ?_
      walk_at "go"
      refine st_mod (by decide) ?_
      walk_at "go"
      refine hN _ _ ⟨_, _, rfl, rfl, Int.emod_nonneg _ (by decide), ?_, fun c hc => hi c (List.mem_cons_of_mem _ hc)⟩
      have := Int.emod_lt_of_pos (seed * 131 + i + 17) (show (0 : Int) < 1000003 by decide)
      omega
    · rintro ρ G2 ⟨seed, c1, rfl, rfl, s0, s1, _⟩
      walk_at "go"
      refine ⟨_, rfl, ⟨by decide, by decide⟩, ?_⟩
      refine for_go (fun r ρ G' => ∃ (ys : List Int) (seed : Int) (k : Nat) (c3 : Option D), ρ = [some (.rol (ns.map .int)), some (.ref a), c1, c2, c3, some (.int seed)] ∧ G' a = some (.lst (.int 1 :: ys.map .int)) ∧ (∀ b, b ≠ a → b ≠ p → b ≠ p2 → G' b = G b) ∧ 0 ≤ seed ∧ seed < 2147483647 ∧
          k + r.length = 150 ∧ r = (rangeD 0 150).drop k ∧ ys.length = xs.length + k)
        ⟨xs, seed, 0, c3, rfl, by rw [gup_ne hpa2]; exact g1, fun b h1 h2 h3 => by rw [gup_ne h3]; exact hk b h1 h2, s0, s1, by simp [rangeD], rfl, by simp⟩ (fun _ _ _ _ => trivial) ?_ ?_
      · rintro x r ρ G2 ⟨ys, seed, k, c3, rfl, g1, hk, s0, s1, hkr, hr, hyl⟩ N hN
        obtain ⟨hx, hr'⟩ := drop_cons hr.symm
        have hx' : x = .int (0 + (k : Int)) := by
          unfold rangeD at hx
          rw [List.getElem?_map, Option.map_eq_some_iff] at hx
          obtain ⟨c, hc, rfl⟩ := hx
          have hk150 : k < 150 := by simp at hkr; omega
          rw [List.getElem?_range hk150] at hc
          cases hc; rfl
        subst hx'
        have hk150 : k < 150 := by simp at hkr; omega
        walk_at "go"
        refine st_mul (.inl ⟨by omega, by omega⟩) ?_
        walk_at "go"
        refine st_mul (.inl ⟨by omega, by omega⟩) ?_
        walk_at "go"
        refine st_mod (by decide) ?_
        walk_at "go"
        generalize hs : (seed * 48271 + (0 + (k : Int)) * 69621 + 11) % 2147483647 = s2
        have h0 : 0 ≤ s2 := by rw [← hs]; exact Int.emod_nonneg _ (by decide)
        have h1 : s2 < 2147483647 := by rw [← hs]; exact Int.emod_lt_of_pos _ (by decide)
        refine st_isl g1 ?_
        walk_at "go"
        refine st_fdiv ⟨by decide, by decide⟩ ?_
        walk_at "go"
        refine st_mod (by decide) ?_
        walk_at "go"
        refine st_append g1 (by simp at hl ⊢; rw [sizeLine_eq]; omega) ?_
        refine hN _ _ ⟨ys ++ [s2 / 1009 % 59], s2, k + 1, _, rfl, by rw [gup_same]; simp, fun b e1 e2 e3 => by rw [gup_ne e1]; exact hk b e1 e2 e3, h0, h1, by simp at hkr; omega, hr'.symm, by simp; omega⟩
      · rintro ρ G2 ⟨ys, seed, k, c3, rfl, g1, hk, s0, s1, hkr, hr, hyl⟩
        walk_at "go"
        refine st_fin (q a _ ha ⟨1, ys, g1, by decide⟩ fun b o e => ?_)
        have hpG : G p = none := by
          have := hp
          rw [gup_ne (Ne.symm hpa)] at this
          exact this
        have hba : b ≠ a := gne e ha
        have hbp : b ≠ p := gne e hpG
        have hbp2 : b ≠ p2 := by
          rintro rfl
          have : G1 b = none := hp2
          rw [hk1 b hba hbp, e] at this; cases this
        rw [hk b hba hbp hbp2]; exact e
end LW
namespace LW
open PySem L2 DL GX
def t_may_be_empty (sp_may_be_empty : DSp) : DTS :=
 dSeq (dAsg (dOp rIxD (dVar 0) (dC (.int 0))) (dgName 2))
 (dSeq (dIfS (dTest (dOp (rInSeq false) (dVar 2) (dTup (dCons (dC (.str "eps")) (dCons (dC (.str "star")) (dCons (dC (.str "opt")) (dCons (dC (.str "not")) (dCons (dC (.str "and")) (dNil)))))))))
 (dRet (dC (.bl true)))
 (dNext))
 (dSeq (dIfS (dTest (dOp rEq (dVar 2) (dC (.str "call"))))
 (dRet (dOp (rInSeq false) (dOp rIxD (dVar 0) (dC (.int 1))) (dVar 1)))
 (dNext))
 (dSeq (dIfS (dTest (dOp rEq (dVar 2) (dC (.str "seq"))))
 (dRet (dCB cAll (dCons (dLc (sSeq (dOp rIxD (dVar 0) (dC (.int 1)))) 3 (dYes) (dCall sp_may_be_empty [] (dCons (dVar 3) (dCons (dVar 1) (dNil))))) (dNil))))
 (dNext))
 (dSeq (dIfS (dTest (dOp rEq (dVar 2) (dC (.str "alt"))))
 (dRet (dCB cAny (dCons (dLc (sSeq (dOp rIxD (dVar 0) (dC (.int 1)))) 3 (dYes) (dCall sp_may_be_empty [] (dCons (dVar 3) (dCons (dVar 1) (dNil))))) (dNil))))
 (dNext))
 (dSeq (dIfS (dTest (dOp rEq (dVar 2) (dC (.str "mark"))))
 (dRet (dCall sp_may_be_empty [] (dCons (dOp rIxD (dVar 0) (dC (.int 2))) (dCons (dVar 1) (dNil)))))
 (dNext))
 (dRet (dC (.bl false))))))))

abbrev N_may_be_empty : List Str := ["expression", "names", "head", "part"]
def t_empty_rules (sp_may_be_empty : DSp) : DTS :=
 dSeq (dAsg (dLst (dNil)) (dgName 1))
 (dSeq (dAsg (dC (.bl true)) (dgName 2))
 (dSeq (dWhile (dTruth (dVar 2))
 (dSeq (dAsg (dLc (sSeq (dVar 0)) 4 (dTruth (dCall sp_may_be_empty [] (dCons (dOp rIxD (dVar 4) (dC (.int 1))) (dCons (dVar 1) (dNil))))) (dOp rIxD (dVar 4) (dC (.int 0)))) (dgName 3))
 (dSeq (dAsg (dOp rNe (dVar 3) (dVar 1)) (dgName 2))
 (dAsg (dVar 3) (dgName 1)))))
 (dRet (dVar 1))))

abbrev N_empty_rules : List Str := ["grammar", "names", "more", "found", "rule"]
def t_law_empty (sp_law_empty : DSp) : DTS :=
 dSeq (dAsg (dOp rIxD (dVar 0) (dC (.int 0))) (dgName 2))
 (dSeq (dIfS (dTest (dOp (rInSeq false) (dVar 2) (dTup (dCons (dC (.str "eps")) (dCons (dC (.str "star")) (dCons (dC (.str "opt")) (dCons (dC (.str "not")) (dCons (dC (.str "and")) (dNil)))))))))
 (dRet (dC (.bl true)))
 (dNext))
 (dSeq (dIfS (dTest (dOp rEq (dVar 2) (dC (.str "call"))))
 (dRet (dOp (rInSeq false) (dOp rIxD (dVar 0) (dC (.int 1))) (dVar 1)))
 (dNext))
 (dSeq (dIfS (dTest (dOp rEq (dVar 2) (dC (.str "seq"))))
 (dRet (dOp rEq (dCB cLen (dCons (dLc (sSeq (dOp rIxD (dVar 0) (dC (.int 1)))) 3 (dNot (dTruth (dCall sp_law_empty [] (dCons (dVar 3) (dCons (dVar 1) (dNil)))))) (dVar 3)) (dNil))) (dC (.int 0))))
 (dNext))
 (dSeq (dIfS (dTest (dOp rEq (dVar 2) (dC (.str "alt"))))
 (dRet (dOp rGt (dCB cLen (dCons (dLc (sSeq (dOp rIxD (dVar 0) (dC (.int 1)))) 3 (dTruth (dCall sp_law_empty [] (dCons (dVar 3) (dCons (dVar 1) (dNil))))) (dVar 3)) (dNil))) (dC (.int 0))))
 (dNext))
 (dSeq (dIfS (dTest (dOp rEq (dVar 2) (dC (.str "mark"))))
 (dRet (dCall sp_law_empty [] (dCons (dOp rIxD (dVar 0) (dC (.int 2))) (dCons (dVar 1) (dNil)))))
 (dNext))
 (dRet (dC (.bl false))))))))

abbrev N_law_empty : List Str := ["_law_expression", "_law_names", "_law_head", "_law_part"]
def t_law_empties (sp_law_empty : DSp) : DTS :=
 dSeq (dAsg (dLst (dNil)) (dgName 1))
 (dSeq (dFor (sRng1 (dCons (dOp rAdd (dCB cLen (dCons (dVar 0) (dNil))) (dC (.int 1))) (dNil))) (dgName 2)
 (dAsg (dLc (sSeq (dVar 0)) 3 (dTruth (dCall sp_law_empty [] (dCons (dOp rIxD (dVar 3) (dC (.int 1))) (dCons (dVar 1) (dNil))))) (dOp rIxD (dVar 3) (dC (.int 0)))) (dgName 1)))
 (dRet (dVar 1)))

abbrev N_law_empties : List Str := ["_law_grammar", "_law_names", "_law_turn", "_law_rule"]

local macro_rules | `(tactic| walk_at "go1") => `(tactic| first
  | with_reducible refine st_seq ?_ | with_reducible refine st_asg ?_ | with_reducible refine st_name ?_
  | (with_reducible refine st_v ?_; refine ⟨_, rfl, ?_⟩) | with_reducible refine st_c ?_ | with_reducible refine st_op ?_ | with_reducible refine st_test ?_ | with_reducible refine st_tk ?_
  | with_reducible refine st_if ?_ | with_reducible refine st_rt ?_ | with_reducible refine st_nil ?_ | with_reducible refine st_cons ?_ | with_reducible refine st_tup ?_
  | with_reducible refine st_sz sm1 ?_ | with_reducible refine st_sz sm2 ?_ | with_reducible refine st_sz sm3 ?_ | with_reducible refine st_sz sm0 ?_ | with_reducible refine st_sz sm4 ?_ | with_reducible refine st_sz sm5 ?_
  | with_reducible refine st_eq_str ?_ | with_reducible refine st_eq_int ?_
  | with_reducible refine st_ix_tup at0 ?_ | with_reducible refine st_ix_tup at1 ?_ | with_reducible refine st_ix_tup at2 ?_
  | with_reducible refine ifDt (by decide +kernel) ?_ | with_reducible refine ifDf (by decide +kernel) ?_ | with_reducible refine ifT (by decide +kernel) ?_ | with_reducible refine ifF (by decide +kernel) ?_
  | with_reducible refine st_in_tup rfl rfl ?_ | with_reducible refine st_next ?_
  | with_reducible refine st_truth ?_ | with_reducible refine st_tr_bl ?_ | with_reducible refine st_tr_tup ?_ | with_reducible refine st_and ?_ | with_reducible refine st_or ?_ | with_reducible refine st_not ?_
  | with_reducible refine st_cb ?_ | with_reducible refine st_call ?_ | with_reducible refine st_app ?_ | with_reducible refine st_drop ?_ | with_reducible refine st_ml ?_
  | with_reducible refine st_lt ?_ | with_reducible refine st_le ?_ | with_reducible refine st_gt ?_ | with_reducible refine st_ge ?_ | with_reducible refine st_add ?_ | with_reducible refine st_sub ?_
  | with_reducible refine st_ne_bl ?_ | with_reducible refine st_eq_bl ?_ | with_reducible refine st_isi_blb ?_ | with_reducible refine st_ne_str ?_ | with_reducible refine st_ne_int ?_ | with_reducible refine st_lst ?_ | with_reducible refine st_len_tup ?_ | with_reducible refine st_int ?_ | with_reducible refine st_int_bl ?_ | with_reducible refine st_abs ?_
  | with_reducible refine st_for ?_ | with_reducible refine st_lc ?_ | with_reducible refine st_sseq ?_ | with_reducible refine st_it_tup ?_ | with_reducible refine st_it_str ?_ | with_reducible refine st_it_rol ?_
  | with_reducible refine st_rng1 ?_ | with_reducible refine st_rng2 ?_ | with_reducible refine st_slice ?_ | with_reducible refine st_nopart ?_ | with_reducible refine st_part ?_ | with_reducible refine st_pk ?_
  | with_reducible refine st_gtup rfl ?_ | with_reducible refine st_gcons ?_ | with_reducible refine st_gnil ?_ | with_reducible refine st_gsub ?_ | with_reducible refine st_ife ?_ | with_reducible refine st_andV ?_ | with_reducible refine st_orV ?_ | with_reducible refine st_notV ?_ | with_reducible refine st_bk ?_
  | with_reducible refine st_isN_non ?_ | with_reducible refine st_isN_tup ?_ | with_reducible refine st_notN_non ?_ | with_reducible refine st_notN_tup ?_ | with_reducible refine st_rtN ?_ | with_reducible refine st_brk ?_ | with_reducible refine st_cnt ?_ | with_reducible refine st_yes ?_)
local macro_rules | `(tactic| walk_at "go") => `(tactic| repeat walk_at "go1")
def spMay (n : Nat) : DSp := fun ds G Q _ => ∃ (e : Ex) (x : D) (names : List Str), ds = [dE e, x] ∧ itemsD G x = some (names.map .str) ∧ dep e ≤ n ∧ wide e ∧ Q (.bl (mayE names e)) G
theorem lc_may {n : Nat} {te : DTE} {i : Nat} {p : Addr} {ρ : Rho} {G : Gp} {x : D} {names : List Str} {es : List Ex} {fin : Gp → Prop} {f : Ex → Bool} (hp : G p = none) (hx : itemsD G x = some (names.map .str)) (hd : deps es ≤ n) (hw : es.length ≤ 16 ∧ wides es)
    (ht : ∀ e, dep e ≤ n → wide e → ∀ acc Q, Q (.bl (f e)) (gup G p (.lst acc)) → te (ρ.set i (some (dE e))) (gup G p (.lst acc)) Q) (h : fin (gup G p (.lst ((es.map f).map .bl)))) :
    dLcL (fun _ => True) i dYes te p fin ρ (dEs es) (gup G p (.lst [])) := by
  have hs : ∀ es : List Ex, deps es ≤ n → wides es → ∀ acc : List D, acc.length + es.length ≤ sizeLine → fin (gup G p (.lst (acc ++ (es.map f).map .bl))) → dLcL (fun _ => True) i dYes te p fin ρ (dEs es) (gup G p (.lst acc)) := by
    intro es
    induction es with
    | nil => intro _ _ acc _ h; exact ⟨trivial, by simpa using h⟩
    | cons e r ih =>
      intro hd hw acc hz h
      simp only [deps] at hd
      refine ⟨trivial, ?_⟩
      show te (ρ.set i (some (dE e))) (gup G p (.lst acc)) _
      refine ht e (by omega) hw.1 acc _ ⟨acc, gup_same, by simp at hz; omega, ?_⟩
      rw [gup_gup]
      exact ih (by omega) hw.2 (acc ++ [.bl (f e)]) (by simp at hz ⊢; omega) (by simpa using h)
  exact hs es hd hw.2 [] (by simp; have := hw.1; show _ ≤ sizeLine; rw [sizeLine_eq]; omega) (by simpa using h)
theorem pure_may (n : Nat) (ds : List D) (G : Gp) (Q : DK) (E : DX) (h : spMay (n + 1) ds G Q E) : t_may_be_empty (spMay n) (fnEnds Q) (dstart N_may_be_empty ds) G := by
  obtain ⟨e, x, names, rfl, hx, hd, hw, q⟩ := h
  cases e with
  | call s =>
    rw [dE]; unfold t_may_be_empty
    walk_at "go"
    refine ⟨_, hx, rfl, flat_strs _, st_fin ?_⟩
    rw [if_neg (by decide), inFlat_str]
    exact q
  | seq es =>
    rw [dE]; unfold t_may_be_empty
    walk_at "go"
    intro p hp
    refine lc_may (n := n) (x := x) (names := names) (f := mayE names) hp hx (by simp only [dep] at hd; omega) hw ?_ ?_
    · intro e hd hw acc Q q
      walk_at "go"
      exact ⟨e, x, names, rfl, itemsD_gup hx hp, hd, hw, q⟩
    · walk_at "go"
      refine st_all gup_same ⟨G, Sub.new hp, ?_⟩
      rw [mayE, mayAll_eq] at q
      rw [List.all_map]
      exact q
  | alt es =>
    rw [dE]; unfold t_may_be_empty
    walk_at "go"
    intro p hp
    refine lc_may (n := n) (x := x) (names := names) (f := mayE names) hp hx (by simp only [dep] at hd; omega) hw ?_ ?_
    · intro e hd hw acc Q q
      walk_at "go"
      exact ⟨e, x, names, rfl, itemsD_gup hx hp, hd, hw, q⟩
    · walk_at "go"
      refine st_any gup_same ⟨G, Sub.new hp, ?_⟩
      rw [mayE, mayAny_eq] at q
      rw [List.any_map]
      exact q
  | mark l e =>
    rw [dE]; unfold t_may_be_empty
    walk_at "go"
    exact ⟨e, x, names, rfl, hx, by simp only [dep] at hd; omega, hw, st_fin q⟩
  | _ =>
    rw [dE]; unfold t_may_be_empty
    walk_at "go"
    exact st_fin q

theorem lc_round {n : Nat} {tt : DTT} {te : DTE} {i : Nat} {p : Addr} {ρ : Rho} {G : Gp} {g : Gr} {names : List Str} {fin : Gp → Prop} (hp : G p = none) (hg : GrOk n g)
    (hc : ∀ r ∈ g, ∀ acc Q, Q (mayE names r.2) (gup G p (.lst acc)) → tt (ρ.set i (some (dR r))) (gup G p (.lst acc)) Q)
    (ht : ∀ r ∈ g, ∀ acc Q, Q (.str r.1) (gup G p (.lst acc)) → te (ρ.set i (some (dR r))) (gup G p (.lst acc)) Q) (h : fin (gup G p (.lst ((round g names).map .str)))) :
    dLcL (fun _ => True) i tt te p fin ρ (g.map dR) (gup G p (.lst [])) := by
  have hs : ∀ l : Gr, (∀ r ∈ l, r ∈ g) → ∀ acc : List D, acc.length + l.length ≤ sizeLine → fin (gup G p (.lst (acc ++ (round l names).map .str))) → dLcL (fun _ => True) i tt te p fin ρ (l.map dR) (gup G p (.lst acc)) := by
    intro l
    induction l with
    | nil => intro _ acc _ h; exact ⟨trivial, by simpa [round] using h⟩
    | cons r l ih =>
      intro hm acc hz h
      refine ⟨trivial, hc r (hm r List.mem_cons_self) acc _ ?_⟩
      cases e : mayE names r.2 with
      | true =>
        refine ifT rfl (ht r (hm r List.mem_cons_self) acc _ ⟨acc, gup_same, by simp at hz; omega, ?_⟩)
        rw [gup_gup]
        refine ih (fun r' h' => hm r' (List.mem_cons_of_mem _ h')) _ (by simp at hz ⊢; omega) ?_
        simpa [round, List.filter_cons, e] using h
      | false =>
        refine ifF rfl ?_
        refine ih (fun r' h' => hm r' (List.mem_cons_of_mem _ h')) _ (by simp at hz ⊢; omega) ?_
        simpa [round, List.filter_cons, e] using h
  exact hs g (fun _ h => h) [] (by simp; have := hg.len; rw [sizeLine_eq]; omega) (by simpa using h)
theorem itr_ok {n : Nat} {g : Gr} (hg : GrOk n g) (k : Nat) : ∀ x ∈ itr g k, okS x := fun x hx => by
  obtain ⟨r, hr, rfl⟩ := List.mem_map.mp (itr_mem hx)
  exact hg.names r hr
/-- the empty rules, in a new list -/
def spEmp (n : Nat) : DSp := fun ds G Q _ => ∃ g : Gr, ds = [dG g] ∧ GrOk n g ∧ ∀ a, G a = none → Q (.ref a) (gup G a (.lst ((emp g).map .str)))
theorem pure_emp (n : Nat) (ds : List D) (G : Gp) (Q : DK) (E : DX) (h : spEmp n ds G Q E) : t_empty_rules (spMay n) (fnEnds Q) (dstart N_empty_rules ds) G := by
  obtain ⟨g, rfl, hg, q⟩ := h
  unfold t_empty_rules
  walk_at "go"
  intro a ha
  walk_at "go"
  refine st_while ⟨fun m ρ G' => ∃ (k : Nat) (b : Bool) (l : Addr) (fo : Option D), ρ = [some (dG g), some (.ref l), some (.bl b), fo, none] ∧ Sub G G' ∧ G l = none ∧ G' l = some (.lst ((itr g k).map .str)) ∧
    (b = true → k ≤ (itr g k).length ∧ m = g.length + 1 - k) ∧ (b = false → itr g (k + 1) = itr g k), ⟨g.length + 1, 0, true, a, none, rfl, Sub.new ha, ha, gup_same, fun _ => ⟨Nat.zero_le _, rfl⟩, (fun z => nomatch z)⟩, ?_⟩
  rintro m ρ G' ⟨k, b, l, fo, rfl, hs, hl, gl', h1, h2⟩
  walk_at "go"
  cases b with
  | false =>
    refine ifF rfl ?_
    walk_at "go"
    refine ⟨gup G l (.lst ((emp g).map .str)), fun c o e => ?_, q l hl⟩
    by_cases hc : c = l
    · subst hc; rw [gup_same] at e; cases e
      rw [emp_fix (h2 rfl)]; exact gl'
    · rw [gup_ne hc] at e; exact hs c o e
  | true =>
    obtain ⟨hk, hm⟩ := h1 rfl
    refine ifT rfl ⟨fun ρ' G'' => ∃ m', m' < m ∧ ∃ (k : Nat) (b : Bool) (l : Addr) (fo : Option D), ρ' = [some (dG g), some (.ref l), some (.bl b), fo, none] ∧ Sub G G'' ∧ G l = none ∧ G'' l = some (.lst ((itr g k).map .str)) ∧
      (b = true → k ≤ (itr g k).length ∧ m' = g.length + 1 - k) ∧ (b = false → itr g (k + 1) = itr g k), fun ρ' G'' z => z, ?_⟩
    walk_at "go"
    intro p hp
    have hpl : l ≠ p := gne gl' hp
    refine lc_round (n := n) (names := itr g k) hp hg (fun r hr acc Q q => ?_) (fun r hr acc Q q => ?_) ?_
    · show dTruth _ _ _ _
      unfold dR
      walk_at "go"
      exact ⟨r.2, .ref l, itr g k, rfl, itemsD_gup (itemsD_ref gl') hp, hg.dep r hr, hg.wide r hr, ⟨_, rfl, q⟩⟩
    · unfold dR
      walk_at "go"
      exact q
    · walk_at "go"
      refine ⟨_, .inr (eqOk_strs (ns := round g (itr g k)) (ms := itr g k) gup_same (by rw [gup_ne hpl]; exact gl') (itr_ok hg (k + 1)) (itr_ok hg k)), ?_⟩
      walk_at "go"
      have hle := itr_len g k
      by_cases e : itr g (k + 1) = itr g k
      · refine ⟨0, by omega, k + 1, false, p, some (.ref p), ?_, sub_gup hs hp, hs.free' hp, gup_same, (fun z => nomatch z), fun _ => ?_⟩
        · have e' : round g (itr g k) = itr g k := e
          rw [decide_eq_true e']; rfl
        · show round g (itr g (k + 1)) = itr g (k + 1)
          rw [e]; exact e
      · refine ⟨g.length + 1 - (k + 1), by omega, k + 1, true, p, some (.ref p), ?_, sub_gup hs hp, hs.free' hp, gup_same, fun _ => ⟨?_, rfl⟩, (fun z => nomatch z)⟩
        · have e' : ¬ round g (itr g k) = itr g k := e
          rw [decide_eq_false e']; rfl
        · have := itr_grow e
          omega

theorem lc_test {n : Nat} {tt : DTT} {i : Nat} {p : Addr} {ρ : Rho} {G : Gp} {es : List Ex} {fin : Gp → Prop} {f : Ex → Bool} (hp : G p = none) (hd : deps es ≤ n) (hw : es.length ≤ 16 ∧ wides es) (hi : i < ρ.length)
    (ht : ∀ e, dep e ≤ n → wide e → ∀ acc Q, Q (f e) (gup G p (.lst acc)) → tt (ρ.set i (some (dE e))) (gup G p (.lst acc)) Q) (h : fin (gup G p (.lst ((es.filter f).map dE)))) :
    dLcL (fun _ => True) i tt (dVar i) p fin ρ (dEs es) (gup G p (.lst [])) := by
  have hs : ∀ es : List Ex, deps es ≤ n → wides es → ∀ acc : List D, acc.length + es.length ≤ sizeLine → fin (gup G p (.lst (acc ++ (es.filter f).map dE))) → dLcL (fun _ => True) i tt (dVar i) p fin ρ (dEs es) (gup G p (.lst acc)) := by
    intro es
    induction es with
    | nil => intro _ _ acc _ h; exact ⟨trivial, by simpa using h⟩
    | cons e r ih =>
      intro hd hw acc hz h
      simp only [deps] at hd
      refine ⟨trivial, ht e (by omega) hw.1 acc _ ?_⟩
      cases q : f e with
      | true =>
        refine ifT rfl ⟨dE e, List.getElem?_set_self hi, acc, gup_same, by simp at hz; omega, ?_⟩
        rw [gup_gup]
        refine ih (by omega) hw.2 _ (by simp at hz ⊢; omega) (by simpa [List.filter_cons, q] using h)
      | false =>
        refine ifF rfl ?_
        exact ih (by omega) hw.2 _ (by simp at hz ⊢; omega) (by simpa [List.filter_cons, q] using h)
  exact hs es hd hw.2 [] (by simp; have := hw.1; show _ ≤ sizeLine; rw [sizeLine_eq]; omega) (by simpa using h)
theorem pure_law_empty (n : Nat) (ds : List D) (G : Gp) (Q : DK) (E : DX) (h : spMay (n + 1) ds G Q E) : t_law_empty (spMay n) (fnEnds Q) (dstart N_law_empty ds) G := by
  obtain ⟨e, x, names, rfl, hx, hd, hw, q⟩ := h
  cases e with
  | call s =>
    rw [dE]; unfold t_law_empty
    walk_at "go"
    refine ⟨_, hx, rfl, flat_strs _, st_fin ?_⟩
    rw [if_neg (by decide), inFlat_str]
    exact q
  | seq es =>
    rw [dE]; unfold t_law_empty
    walk_at "go"
    intro p hp
    refine lc_test (n := n) (f := fun e => !mayE names e) hp (by simp only [dep] at hd; omega) hw (by simp [dstart]) ?_ ?_
    · intro e hd hw acc Q q
      walk_at "go"
      exact ⟨e, x, names, rfl, itemsD_gup hx hp, hd, hw, ⟨_, rfl, q⟩⟩
    · walk_at "go"
      refine st_len_lst gup_same ?_
      walk_at "go"
      refine ⟨G, Sub.new hp, ?_⟩
      rw [mayE, mayAll_eq] at q
      have e : decide ((((es.filter fun e => !mayE names e).map dE).length : Int) = 0) = es.all (mayE names) := by
        rw [List.length_map]
        by_cases c : es.all (mayE names) = true
        · have : (es.filter fun e => !mayE names e) = [] := by
            rw [List.filter_eq_nil_iff]
            intro a ha
            simp [List.all_eq_true.mp c a ha]
          rw [this, c]; rfl
        · have c' : es.all (mayE names) = false := by simpa using c
          have : (es.filter fun e => !mayE names e) ≠ [] := by
            intro e
            rw [List.filter_eq_nil_iff] at e
            refine c (List.all_eq_true.mpr fun a ha => ?_)
            have := e a ha
            simpa using this
          have h0 : 0 < (es.filter fun e => !mayE names e).length := List.length_pos_iff.mpr this
          rw [c']
          exact decide_eq_false (by omega)
      rw [e]
      exact q
  | alt es =>
    rw [dE]; unfold t_law_empty
    walk_at "go"
    intro p hp
    refine lc_test (n := n) (f := mayE names) hp (by simp only [dep] at hd; omega) hw (by simp [dstart]) ?_ ?_
    · intro e hd hw acc Q q
      walk_at "go"
      exact ⟨e, x, names, rfl, itemsD_gup hx hp, hd, hw, ⟨_, rfl, q⟩⟩
    · walk_at "go"
      refine st_len_lst gup_same ?_
      walk_at "go"
      refine ⟨G, Sub.new hp, ?_⟩
      rw [mayE, mayAny_eq] at q
      have e : decide (0 < (((es.filter (mayE names)).map dE).length : Int)) = es.any (mayE names) := by
        rw [List.length_map]
        by_cases c : es.any (mayE names) = true
        · obtain ⟨a, ha, h2⟩ := List.any_eq_true.mp c
          have : a ∈ es.filter (mayE names) := List.mem_filter.mpr ⟨ha, h2⟩
          have h0 := List.length_pos_of_mem this
          rw [c]
          exact decide_eq_true (by omega)
        · have c' : es.any (mayE names) = false := by simpa using c
          have : es.filter (mayE names) = [] := by
            rw [List.filter_eq_nil_iff]
            intro a ha h2
            exact c (List.any_eq_true.mpr ⟨a, ha, h2⟩)
          rw [this, c']; rfl
      rw [e]
      exact q
  | mark l e =>
    rw [dE]; unfold t_law_empty
    walk_at "go"
    exact ⟨e, x, names, rfl, hx, by simp only [dep] at hd; omega, hw, st_fin q⟩
  | _ =>
    rw [dE]; unfold t_law_empty
    walk_at "go"
    exact st_fin q
theorem pure_law_empties (n : Nat) (ds : List D) (G : Gp) (Q : DK) (E : DX) (h : spEmp n ds G Q E) : t_law_empties (spMay n) (fnEnds Q) (dstart N_law_empties ds) G := by
  obtain ⟨g, rfl, hg, q⟩ := h
  unfold t_law_empties
  walk_at "go"
  intro a ha
  walk_at "go"
  unfold dG
  walk_at "go"
  have hlen := hg.len
  refine ⟨_, rfl, ⟨by simp; omega, by simp; omega⟩, ?_⟩
  refine for_go (fun xs ρ G' => ∃ (k : Nat) (l : Addr) (t : Option D), k + xs.length = g.length + 1 ∧ ρ = [some (.tup (g.map dR)), some (.ref l), t, none] ∧ Sub G G' ∧ G l = none ∧ G' l = some (.lst ((itr g k).map .str)))
    ⟨0, a, none, ?_, rfl, Sub.new ha, ha, gup_same⟩ (fun _ _ _ _ => trivial) ?_ ?_
  · unfold rangeD; simp
  · rintro x xs ρ G' ⟨k, l, t, hk, rfl, hs, hl, gl'⟩ N hN
    walk_at "go"
    intro p hp
    have hpl : l ≠ p := gne gl' hp
    refine lc_round (n := n) (names := itr g k) hp hg (fun r hr acc Q q => ?_) (fun r hr acc Q q => ?_) ?_
    · show dTruth _ _ _ _
      unfold dR
      walk_at "go"
      exact ⟨r.2, .ref l, itr g k, rfl, itemsD_gup (itemsD_ref gl') hp, hg.dep r hr, hg.wide r hr, ⟨_, rfl, q⟩⟩
    · unfold dR
      walk_at "go"
      exact q
    · walk_at "go"
      exact hN _ _ ⟨k + 1, p, _, by simp at hk ⊢; omega, rfl, sub_gup hs hp, hs.free' hp, gup_same⟩
  · rintro ρ G' ⟨k, l, t, hk, rfl, hs, hl, gl'⟩
    walk_at "go"
    refine ⟨gup G l (.lst ((emp g).map .str)), fun c o e => ?_, q l hl⟩
    have hk' : k = g.length + 1 := by simpa using hk
    subst hk'
    by_cases hc : c = l
    · subst hc; rw [gup_same] at e; cases e
      exact gl'
    · rw [gup_ne hc] at e; exact hs c o e
end LW

/-! C1: the drawing of grammars and texts. -/
namespace LW
open PySem L2 DL GX
def t_law_taker (sp_law_take : DSp) : DTS :=
 dSeq (dAsg (dCall sp_law_take [] (dCons (dVar 0) (dCons (dC (.int 4)) (dNil)))) (dgName 1))
 (dSeq (dIfS (dTest (dOp rEq (dVar 1) (dC (.int 0))))
 (dRet (dTup (dCons (dC (.str "set")) (dCons (dOp rIxD (dLst (dCons (dC (.str "ab")) (dCons (dC (.str "b")) (dCons (dC (.str "ac")) (dCons (dC (.str "abc")) (dNil)))))) (dCall sp_law_take [] (dCons (dVar 0) (dCons (dC (.int 4)) (dNil))))) (dNil)))))
 (dNext))
 (dSeq (dIfS (dTest (dOp rEq (dVar 1) (dC (.int 1))))
 (dRet (dTup (dCons (dC (.str "any")) (dNil))))
 (dNext))
 (dRet (dTup (dCons (dC (.str "text")) (dCons (dOp rIxD (dLst (dCons (dC (.str "a")) (dCons (dC (.str "b")) (dCons (dC (.str "ab")) (dCons (dC (.str "c")) (dCons (dC (.str "ba")) (dNil))))))) (dCall sp_law_take [] (dCons (dVar 0) (dCons (dC (.int 5)) (dNil))))) (dNil)))))))
abbrev N_law_taker : List Str := ["_law_row_here", "_law_kind"]

def t_law_expression (sp_law_take : DSp) (sp_law_taker : DSp) (sp_law_expression : DSp) : DTS :=
 dSeq (dAsg (dCall sp_law_take [] (dCons (dVar 0) (dCons (dC (.int 14)) (dNil)))) (dgName 4))
 (dSeq (dIfS (dOr (dTest (dOp rEq (dVar 1) (dC (.int 0)))) (dTest (dOp rLt (dVar 4) (dC (.int 3)))))
 (dSeq (dIfS (dTest (dOp rEq (dCall sp_law_take [] (dCons (dVar 0) (dCons (dC (.int 5)) (dNil)))) (dC (.int 0))))
 (dRet (dOp rIxD (dLst (dCons (dTup (dCons (dC (.str "eps")) (dNil))) (dCons (dTup (dCons (dC (.str "fail")) (dNil))) (dNil)))) (dCall sp_law_take [] (dCons (dVar 0) (dCons (dC (.int 2)) (dNil))))))
 (dNext))
 (dRet (dCall sp_law_taker [] (dCons (dVar 0) (dNil)))))
 (dNext))
 (dSeq (dIfS (dAnd (dTest (dOp rEq (dVar 4) (dC (.int 3)))) (dTest (dOp rLt (dOp rAdd (dVar 2) (dC (.int 1))) (dVar 3))))
 (dRet (dTup (dCons (dC (.str "call")) (dCons (dOp rIxD (dC (.str "abcd")) (dOp rAdd (dOp rAdd (dVar 2) (dC (.int 1))) (dCall sp_law_take [] (dCons (dVar 0) (dCons (dOp rSub (dOp rSub (dVar 3) (dVar 2)) (dC (.int 1))) (dNil)))))) (dNil)))))
 (dNext))
 (dSeq (dIfS (dTest (dOp rEq (dVar 4) (dC (.int 4))))
 (dRet (dTup (dCons (dC (.str "seq")) (dCons (dTup (dCons (dCall sp_law_taker [] (dCons (dVar 0) (dNil))) (dCons (dTup (dCons (dC (.str "call")) (dCons (dOp rIxD (dC (.str "abcd")) (dCall sp_law_take [] (dCons (dVar 0) (dCons (dVar 3) (dNil))))) (dNil)))) (dNil)))) (dNil)))))
 (dNext))
 (dSeq (dAsg (dCall sp_law_expression [] (dCons (dVar 0) (dCons (dOp rSub (dVar 1) (dC (.int 1))) (dCons (dVar 2) (dCons (dVar 3) (dNil)))))) (dgName 5))
 (dSeq (dIfS (dTest (dOp rEq (dVar 4) (dC (.int 5))))
 (dRet (dTup (dCons (dC (.str "star")) (dCons (dTup (dCons (dC (.str "seq")) (dCons (dTup (dCons (dCall sp_law_taker [] (dCons (dVar 0) (dNil))) (dCons (dVar 5) (dNil)))) (dNil)))) (dNil)))))
 (dNext))
 (dSeq (dIfS (dTest (dOp rLt (dVar 4) (dC (.int 9))))
 (dRet (dTup (dCons (dOp rIxD (dLst (dCons (dC (.str "opt")) (dCons (dC (.str "not")) (dCons (dC (.str "and")) (dNil))))) (dOp rSub (dVar 4) (dC (.int 6)))) (dCons (dVar 5) (dNil)))))
 (dNext))
 (dSeq (dIfS (dTest (dOp rEq (dVar 4) (dC (.int 9))))
 (dRet (dTup (dCons (dC (.str "mark")) (dCons (dOp rIxD (dLst (dCons (dC (.str "x")) (dCons (dC (.str "y")) (dNil)))) (dCall sp_law_take [] (dCons (dVar 0) (dCons (dC (.int 2)) (dNil))))) (dCons (dVar 5) (dNil))))))
 (dNext))
 (dSeq (dAsg (dCall sp_law_expression [] (dCons (dVar 0) (dCons (dOp rSub (dVar 1) (dC (.int 1))) (dCons (dVar 2) (dCons (dVar 3) (dNil)))))) (dgName 6))
 (dSeq (dIfS (dTest (dOp rEq (dVar 4) (dC (.int 10))))
 (dSeq (dAsg (dCall sp_law_expression [] (dCons (dVar 0) (dCons (dOp rSub (dVar 1) (dC (.int 1))) (dCons (dVar 2) (dCons (dVar 3) (dNil)))))) (dgName 7))
 (dRet (dTup (dCons (dOp rIxD (dLst (dCons (dC (.str "seq")) (dCons (dC (.str "alt")) (dNil)))) (dCall sp_law_take [] (dCons (dVar 0) (dCons (dC (.int 2)) (dNil))))) (dCons (dTup (dCons (dVar 5) (dCons (dVar 6) (dCons (dVar 7) (dNil))))) (dNil))))))
 (dNext))
 (dRet (dTup (dCons (dOp rIxD (dLst (dCons (dC (.str "seq")) (dCons (dC (.str "alt")) (dCons (dC (.str "alt")) (dNil))))) (dOp rSub (dVar 4) (dC (.int 11)))) (dCons (dTup (dCons (dVar 5) (dCons (dVar 6) (dNil)))) (dNil))))))))))))))
abbrev N_law_expression : List Str := ["_law_row_here", "_law_depth", "_law_rule", "_law_many", "_law_kind", "_law_one", "_law_two", "_law_three"]

def t_law_grammar (sp_law_take : DSp) (sp_law_expression : DSp) : DTS :=
 dSeq (dAsg (dOp rAdd (dC (.int 1)) (dCall sp_law_take [] (dCons (dVar 0) (dCons (dC (.int 4)) (dNil))))) (dgName 2))
 (dRet (dCB cTuple (dCons (dLc (sRng1 (dCons (dVar 2) (dNil))) 3 (dYes) (dTup (dCons (dOp rIxD (dC (.str "abcd")) (dVar 3)) (dCons (dCall sp_law_expression [] (dCons (dVar 0) (dCons (dVar 1) (dCons (dVar 3) (dCons (dVar 2) (dNil)))))) (dNil))))) (dNil))))
abbrev N_law_grammar : List Str := ["_law_row_here", "_law_depth", "_law_many", "_law_k"]

def t_law_text (sp_law_take : DSp) : DTS :=
 dRet (dJoin (dC (.str "")) (dLc (sRng1 (dCons (dCall sp_law_take [] (dCons (dVar 0) (dCons (dC (.int 10)) (dNil)))) (dNil))) 1 (dYes) (dOp rIxD (dC (.str "abc")) (dCall sp_law_take [] (dCons (dVar 0) (dCons (dC (.int 3)) (dNil)))))))
abbrev N_law_text : List Str := ["_law_row_here", "_law_k"]

local macro_rules | `(tactic| walk_at "go1") => `(tactic| first
  | with_reducible refine st_seq ?_ | with_reducible refine st_asg ?_ | with_reducible refine st_name ?_
  | (with_reducible refine st_v ?_; refine ⟨_, rfl, ?_⟩) | with_reducible refine st_c ?_ | with_reducible refine st_op ?_ | with_reducible refine st_test ?_ | with_reducible refine st_tk ?_
  | with_reducible refine st_if ?_ | with_reducible refine st_rt ?_ | with_reducible refine st_nil ?_ | with_reducible refine st_cons ?_ | with_reducible refine st_tup ?_
  | with_reducible refine st_sz sm1 ?_ | with_reducible refine st_sz sm2 ?_ | with_reducible refine st_sz sm3 ?_ | with_reducible refine st_sz sm0 ?_ | with_reducible refine st_sz sm4 ?_ | with_reducible refine st_sz sm5 ?_
  | with_reducible refine st_eq_str ?_ | with_reducible refine st_eq_int ?_
  | with_reducible refine st_ix_tup at0 ?_ | with_reducible refine st_ix_tup at1 ?_ | with_reducible refine st_ix_tup at2 ?_
  | with_reducible refine ifDt (by decide +kernel) ?_ | with_reducible refine ifDf (by decide +kernel) ?_ | with_reducible refine ifT (by decide +kernel) ?_ | with_reducible refine ifF (by decide +kernel) ?_
  | with_reducible refine st_in_tup rfl rfl ?_ | with_reducible refine st_next ?_
  | with_reducible refine st_truth ?_ | with_reducible refine st_tr_bl ?_ | with_reducible refine st_tr_tup ?_ | with_reducible refine st_and ?_ | with_reducible refine st_or ?_ | with_reducible refine st_not ?_
  | with_reducible refine st_cb ?_ | with_reducible refine st_call ?_ | with_reducible refine st_app ?_ | with_reducible refine st_drop ?_ | with_reducible refine st_ml ?_
  | with_reducible refine st_lt ?_ | with_reducible refine st_le ?_ | with_reducible refine st_gt ?_ | with_reducible refine st_ge ?_ | with_reducible refine st_add ?_ | with_reducible refine st_sub ?_
  | with_reducible refine st_ne_bl ?_ | with_reducible refine st_eq_bl ?_ | with_reducible refine st_isi_blb ?_ | with_reducible refine st_ne_str ?_ | with_reducible refine st_ne_int ?_ | with_reducible refine st_lst ?_ | with_reducible refine st_len_tup ?_ | with_reducible refine st_int ?_ | with_reducible refine st_int_bl ?_ | with_reducible refine st_abs ?_
  | with_reducible refine st_for ?_ | with_reducible refine st_lc ?_ | with_reducible refine st_sseq ?_ | with_reducible refine st_it_tup ?_ | with_reducible refine st_it_str ?_ | with_reducible refine st_it_rol ?_
  | with_reducible refine st_rng1 ?_ | with_reducible refine st_rng2 ?_ | with_reducible refine st_slice ?_ | with_reducible refine st_nopart ?_ | with_reducible refine st_part ?_ | with_reducible refine st_pk ?_
  | with_reducible refine st_gtup rfl ?_ | with_reducible refine st_gcons ?_ | with_reducible refine st_gnil ?_ | with_reducible refine st_gsub ?_ | with_reducible refine st_ife ?_ | with_reducible refine st_andV ?_ | with_reducible refine st_orV ?_ | with_reducible refine st_notV ?_ | with_reducible refine st_bk ?_
  | with_reducible refine st_isN_non ?_ | with_reducible refine st_isN_tup ?_ | with_reducible refine st_notN_non ?_ | with_reducible refine st_notN_tup ?_ | with_reducible refine st_rtN ?_ | with_reducible refine st_brk ?_ | with_reducible refine st_cnt ?_ | with_reducible refine st_yes ?_
  | with_reducible refine st_join ?_ | with_reducible refine st_sk ?_ | with_reducible refine st_neg ?_ | with_reducible refine st_dc ?_ | with_reducible refine st_chain ?_ | with_reducible refine st_inS ?_ | with_reducible refine st_notInS ?_ | with_reducible refine st_listA_tup ?_)
local macro_rules | `(tactic| walk_at "go") => `(tactic| repeat walk_at "go1")
local macro_rules | `(tactic| walk_at "gn1") => `(tactic| first
  | with_reducible refine st_seq ?_ | with_reducible refine st_asg ?_ | with_reducible refine st_name ?_
  | (with_reducible refine st_v ?_; refine ⟨_, rfl, ?_⟩) | with_reducible refine st_c ?_ | with_reducible refine st_op ?_ | with_reducible refine st_test ?_ | with_reducible refine st_tk ?_
  | with_reducible refine st_if ?_ | with_reducible refine st_rt ?_ | with_reducible refine st_nil ?_ | with_reducible refine st_cons ?_ | with_reducible refine st_tup ?_
  | with_reducible refine st_sz sm1 ?_ | with_reducible refine st_sz sm2 ?_ | with_reducible refine st_sz sm3 ?_ | with_reducible refine st_sz sm0 ?_ | with_reducible refine st_sz sm4 ?_ | with_reducible refine st_sz sm5 ?_
  | with_reducible refine st_eq_str ?_ | with_reducible refine st_eq_int ?_
  | with_reducible refine st_ix_tup at0 ?_ | with_reducible refine st_ix_tup at1 ?_ | with_reducible refine st_ix_tup at2 ?_
  | with_reducible refine ifDt (by decide +kernel) ?_ | with_reducible refine ifDf (by decide +kernel) ?_ | with_reducible refine ifT (by decide +kernel) ?_ | with_reducible refine ifF (by decide +kernel) ?_
  | with_reducible refine st_in_tup rfl rfl ?_ | with_reducible refine st_next ?_
  | with_reducible refine st_truth ?_ | with_reducible refine st_tr_bl ?_ | with_reducible refine st_tr_tup ?_ | with_reducible refine st_not ?_
  | with_reducible refine st_cb ?_ | with_reducible refine st_call ?_ | with_reducible refine st_app ?_ | with_reducible refine st_drop ?_ | with_reducible refine st_ml ?_
  | with_reducible refine st_lt ?_ | with_reducible refine st_le ?_ | with_reducible refine st_gt ?_ | with_reducible refine st_ge ?_ | with_reducible refine st_add ?_ | with_reducible refine st_sub ?_
  | with_reducible refine st_ne_bl ?_ | with_reducible refine st_eq_bl ?_ | with_reducible refine st_isi_blb ?_ | with_reducible refine st_ne_str ?_ | with_reducible refine st_ne_int ?_ | with_reducible refine st_lst ?_ | with_reducible refine st_len_tup ?_ | with_reducible refine st_int ?_ | with_reducible refine st_int_bl ?_ | with_reducible refine st_abs ?_
  | with_reducible refine st_for ?_ | with_reducible refine st_lc ?_ | with_reducible refine st_sseq ?_ | with_reducible refine st_it_tup ?_ | with_reducible refine st_it_str ?_ | with_reducible refine st_it_rol ?_
  | with_reducible refine st_rng1 ?_ | with_reducible refine st_rng2 ?_ | with_reducible refine st_slice ?_ | with_reducible refine st_nopart ?_ | with_reducible refine st_part ?_ | with_reducible refine st_pk ?_
  | with_reducible refine st_gtup rfl ?_ | with_reducible refine st_gcons ?_ | with_reducible refine st_gnil ?_ | with_reducible refine st_gsub ?_ | with_reducible refine st_ife ?_ | with_reducible refine st_andV ?_ | with_reducible refine st_orV ?_ | with_reducible refine st_notV ?_ | with_reducible refine st_bk ?_
  | with_reducible refine st_isN_non ?_ | with_reducible refine st_isN_tup ?_ | with_reducible refine st_notN_non ?_ | with_reducible refine st_notN_tup ?_ | with_reducible refine st_rtN ?_ | with_reducible refine st_brk ?_ | with_reducible refine st_cnt ?_ | with_reducible refine st_yes ?_
  | with_reducible refine st_join ?_ | with_reducible refine st_sk ?_ | with_reducible refine st_neg ?_ | with_reducible refine st_dc ?_ | with_reducible refine st_chain ?_ | with_reducible refine st_inS ?_ | with_reducible refine st_notInS ?_ | with_reducible refine st_listA_tup ?_)
local macro_rules | `(tactic| walk_at "gn") => `(tactic| repeat walk_at "gn1")

def nm5 (k : Nat) : Str := match k with | 0 => "a" | 1 => "b" | 2 => "c" | 3 => "d" | _ => "e"
theorem nm5_name (k : Nat) : isNameB (nm5 k) = true := by
  unfold nm5
  split <;> decide +kernel
theorem ix4 {r : Int} (h0 : 0 ≤ r) (h1 : r < 4) : ∃ c : Nat, L2.atI ("abcd" : Str).cps.toList r = some c ∧ (⟨#[c]⟩ : Str) = nm5 r.toNat := by
  have : r = 0 ∨ r = 1 ∨ r = 2 ∨ r = 3 := by omega
  rcases this with rfl | rfl | rfl | rfl
  · exact ⟨97, by decide +kernel, by decide +kernel⟩
  · exact ⟨98, by decide +kernel, by decide +kernel⟩
  · exact ⟨99, by decide +kernel, by decide +kernel⟩
  · exact ⟨100, by decide +kernel, by decide +kernel⟩
theorem st_ix_str {z : Str} {i : Int} {c : Nat} {G : Gp} {Q : DK} (hz : z.length ≤ sizeLine) (h : L2.atI z.cps.toList i = some c) (q : Q (.str ⟨#[c]⟩) G) : rIxD (.str z) (.int i) G Q := ⟨i, rfl, hz, c, h, q⟩
/-- what takes a character -/
inductive Tk : Ex → Prop
  | set {s : Str} (h : s = "ab" ∨ s = "b" ∨ s = "ac" ∨ s = "abc") : Tk (.set s)
  | any : Tk .any
  | text {s : Str} (h : s = "a" ∨ s = "b" ∨ s = "ab" ∨ s = "c" ∨ s = "ba") : Tk (.text s)
/-- the drawn expressions of the rule i of m -/
inductive Dr (i m : Nat) : Nat → Ex → Prop
  | eps (d : Nat) : Dr i m d .eps
  | fail (d : Nat) : Dr i m d .fail
  | tk {d : Nat} {e : Ex} (h : Tk e) : Dr i m d e
  | call {d : Nat} (k : Nat) (h : i < k) (h2 : k < m) : Dr i m d (.call (nm5 k))
  | front {d : Nat} {t : Ex} (h : Tk t) (k : Nat) (h2 : k < m) : Dr i m (d + 1) (.seq [t, .call (nm5 k)])
  | star {d : Nat} {t e : Ex} (h : Tk t) (h2 : Dr i m d e) : Dr i m (d + 1) (.star (.seq [t, e]))
  | opt {d : Nat} {e : Ex} (h : Dr i m d e) : Dr i m (d + 1) (.opt e)
  | nt {d : Nat} {e : Ex} (h : Dr i m d e) : Dr i m (d + 1) (.nt e)
  | an {d : Nat} {e : Ex} (h : Dr i m d e) : Dr i m (d + 1) (.an e)
  | mark {d : Nat} {e : Ex} {l : Str} (hl : l = "x" ∨ l = "y") (h : Dr i m d e) : Dr i m (d + 1) (.mark l e)
  | seq2 {d : Nat} {e f : Ex} (h : Dr i m d e) (h2 : Dr i m d f) : Dr i m (d + 1) (.seq [e, f])
  | alt2 {d : Nat} {e f : Ex} (h : Dr i m d e) (h2 : Dr i m d f) : Dr i m (d + 1) (.alt [e, f])
  | seq3 {d : Nat} {e f g : Ex} (h : Dr i m d e) (h2 : Dr i m d f) (h3 : Dr i m d g) : Dr i m (d + 1) (.seq [e, f, g])
  | alt3 {d : Nat} {e f g : Ex} (h : Dr i m d e) (h2 : Dr i m d f) (h3 : Dr i m d g) : Dr i m (d + 1) (.alt [e, f, g])
def spTaker : DSp := fun ds G Q _ => ∃ a, ds = [.ref a] ∧ RowAt G a ∧ ∀ e G', Tk e → RowUp G G' a → Q (dE e) G'
def spExpr (n : Nat) : DSp := fun ds G Q _ => ∃ (a : Addr) (d i m : Nat), ds = [.ref a, .int d, .int i, .int m] ∧ RowAt G a ∧ d < n ∧ i < m ∧ m ≤ 4 ∧ ∀ e G', Dr i m d e → RowUp G G' a → Q (dE e) G'
structure GrDr (d : Nat) (g : Gr) : Prop where
  pos : 1 ≤ g.length
  len : g.length ≤ 4
  at' : ∀ (j : Nat) (r : Str × Ex), g[j]? = some r → r.1 = nm5 j ∧ Dr j g.length d r.2
def spGram (n : Nat) : DSp := fun ds G Q _ => ∃ (a : Addr) (d : Nat), ds = [.ref a, .int d] ∧ RowAt G a ∧ d < n ∧ ∀ g G', GrDr d g → RowUp G G' a → Q (dG g) G'
def abcB (c : Nat) : Bool := decide (c = 97) || decide (c = 98) || decide (c = 99)
def spText : DSp := fun ds G Q _ => ∃ a, ds = [.ref a] ∧ RowAt G a ∧ ∀ (z : Str) G', z.length ≤ 9 → z.cps.toList.all abcB = true → RowUp G G' a → Q (.str z) G'
theorem pure_taker (ds : List D) (G : Gp) (Q : DK) (E : DX) (h : spTaker ds G Q E) : t_law_taker spTake (fnEnds Q) (dstart N_law_taker ds) G := by
  obtain ⟨a, rfl, hrow, q⟩ := h
  unfold t_law_taker
  walk_at "go"
  refine ⟨a, 4, rfl, hrow, by decide, fun kind G1 k0 k4 u1 => ?_⟩
  walk_at "go"
  refine ifD (fun c1 => ?_) (fun c1 => ?_)
  · walk_at "go"
    intro p hp
    walk_at "go"
    have hpa := u1.row.ne hp
    refine ⟨a, 4, rfl, u1.row.gup hp, by decide, fun r G3 r0 r6 u3 => ?_⟩
    have u := u1.trans (RowUp.gup hp u3)
    have gp := u3.at gup_same hpa
    have : r = 0 ∨ r = 1 ∨ r = 2 ∨ r = 3 := by omega
    rcases this with rfl | rfl | rfl | rfl
    · refine st_ix_lst gp at0 ?_
      walk_at "go"
      exact st_fin (q (.set "ab") _ (.set (.inl rfl)) u)
    · refine st_ix_lst gp at1 ?_
      walk_at "go"
      exact st_fin (q (.set "b") _ (.set (.inr (.inl rfl))) u)
    · refine st_ix_lst gp at2 ?_
      walk_at "go"
      exact st_fin (q (.set "ac") _ (.set (.inr (.inr (.inl rfl)))) u)
    · refine st_ix_lst gp (atI_nat (j := 3) rfl) ?_
      walk_at "go"
      exact st_fin (q (.set "abc") _ (.set (.inr (.inr (.inr rfl)))) u)
  walk_at "go"
  refine ifD (fun c2 => ?_) (fun c2 => ?_)
  · walk_at "go"
    exact st_fin (q .any _ .any u1)
  walk_at "go"
  intro p hp
  walk_at "go"
  have hpa := u1.row.ne hp
  refine ⟨a, 5, rfl, u1.row.gup hp, by decide, fun r G3 r0 r6 u3 => ?_⟩
  have u := u1.trans (RowUp.gup hp u3)
  have gp := u3.at gup_same hpa
  have : r = 0 ∨ r = 1 ∨ r = 2 ∨ r = 3 ∨ r = 4 := by omega
  rcases this with rfl | rfl | rfl | rfl | rfl
  · refine st_ix_lst gp at0 ?_
    walk_at "go"
    exact st_fin (q (.text "a") _ (.text (.inl rfl)) u)
  · refine st_ix_lst gp at1 ?_
    walk_at "go"
    exact st_fin (q (.text "b") _ (.text (.inr (.inl rfl))) u)
  · refine st_ix_lst gp at2 ?_
    walk_at "go"
    exact st_fin (q (.text "ab") _ (.text (.inr (.inr (.inl rfl)))) u)
  · refine st_ix_lst gp (atI_nat (j := 3) rfl) ?_
    walk_at "go"
    exact st_fin (q (.text "c") _ (.text (.inr (.inr (.inr (.inl rfl))))) u)
  · refine st_ix_lst gp (atI_nat (j := 4) rfl) ?_
    walk_at "go"
    exact st_fin (q (.text "ba") _ (.text (.inr (.inr (.inr (.inr rfl))))) u)
theorem pure_expr (n : Nat) (ds : List D) (G : Gp) (Q : DK) (E : DX) (h : spExpr (n + 1) ds G Q E) : t_law_expression spTake spTaker (spExpr n) (fnEnds Q) (dstart N_law_expression ds) G := by
  obtain ⟨a, d, i, m, rfl, hrow, hd, him, hm4, q⟩ := h
  unfold t_law_expression
  walk_at "gn"
  refine ⟨a, 14, rfl, hrow, by decide, fun kind G1 k0 k14 u1 => ?_⟩
  walk_at "gn"
  refine st_or2 (p := (d : Int) = 0) (q := kind < 3) (fun R h => by walk_at "gn"; exact h) (fun R h => by walk_at "gn"; exact h) ?_
  refine ifD (fun c1 => ?_) (fun c1 => ?_)
  · walk_at "gn"
    refine ⟨a, 5, rfl, u1.row, by decide, fun r G2 r0 r5 u2 => ?_⟩
    have u02 := u1.trans u2
    walk_at "gn"
    refine ifD (fun c2 => ?_) (fun c2 => ?_)
    · walk_at "gn"
      intro p hp
      walk_at "gn"
      have hpa := u02.row.ne hp
      refine ⟨a, 2, rfl, u02.row.gup hp, by decide, fun s G3 s0 s2 u3 => ?_⟩
      have u := u02.trans (RowUp.gup hp u3)
      have gp := u3.at gup_same hpa
      have : s = 0 ∨ s = 1 := by omega
      rcases this with rfl | rfl
      · exact st_ix_lst gp at0 (st_fin (q .eps _ (.eps _) u))
      · exact st_ix_lst gp at1 (st_fin (q .fail _ (.fail _) u))
    · walk_at "gn"
      exact ⟨a, rfl, u02.row, fun e G3 he u3 => st_fin (q e _ (.tk he) (u02.trans u3))⟩
  have c10 : ¬ ((d : Int) = 0) := fun z => c1 (.inl z)
  obtain ⟨d, rfl⟩ : ∃ d', d = d' + 1 := ⟨d - 1, by omega⟩
  have ed : ((d + 1 : Nat) : Int) - 1 = (d : Nat) := by omega
  walk_at "gn"
  refine st_and2 (p := kind = 3) (q := (i : Int) + 1 < (m : Int)) (fun R h => by walk_at "gn"; exact h) (fun R h => by walk_at "gn"; exact h) ?_
  refine ifD (fun c2 => ?_) (fun c2 => ?_)
  · walk_at "gn"
    refine ⟨a, (m : Int) - (i : Int) - 1, rfl, u1.row, by omega, fun l G2 l0 lm u2 => ?_⟩
    walk_at "gn"
    obtain ⟨c, hc, ec⟩ := ix4 (r := (i : Int) + 1 + l) (by omega) (by omega)
    refine st_ix_str (by decide) hc ?_
    walk_at "gn"
    rw [ec]
    exact st_fin (q (.call (nm5 ((i : Int) + 1 + l).toNat)) G2 (.call _ (by omega) (by omega)) (u1.trans u2))
  walk_at "gn"
  refine ifD (fun c3 => ?_) (fun c3 => ?_)
  · walk_at "gn"
    refine ⟨a, rfl, u1.row, fun t G2 ht u2 => ?_⟩
    walk_at "gn"
    refine ⟨a, m, rfl, u2.row, by omega, fun l G3 l0 lm u3 => ?_⟩
    obtain ⟨c, hc, ec⟩ := ix4 (r := l) (by omega) (by omega)
    refine st_ix_str (by decide) hc ?_
    walk_at "gn"
    rw [ec]
    exact st_fin (q (.seq [t, .call (nm5 l.toNat)]) G3 (.front ht _ (by omega)) ((u1.trans u2).trans u3))
  walk_at "gn"
  rw [ed]
  refine ⟨a, d, i, m, rfl, u1.row, by omega, him, hm4, fun one G2 w1 u2 => ?_⟩
  have u02 := u1.trans u2
  walk_at "gn"
  refine ifD (fun c4 => ?_) (fun c4 => ?_)
  · walk_at "gn"
    refine ⟨a, rfl, u02.row, fun t G3 ht u3 => ?_⟩
    walk_at "gn"
    exact st_fin (q (.star (.seq [t, one])) G3 (.star ht w1) (u02.trans u3))
  walk_at "gn"
  refine ifD (fun c5 => ?_) (fun c5 => ?_)
  · walk_at "gn"
    intro p hp
    walk_at "gn"
    have up := u02.new (o := .lst [.str "opt", .str "not", .str "and"]) hp
    have : kind = 3 ∨ kind = 6 ∨ kind = 7 ∨ kind = 8 := by omega
    rcases this with rfl | rfl | rfl | rfl
    · refine st_ix_lst (d := .str "opt") gup_same (by rfl) ?_
      walk_at "gn"
      exact st_fin (q (.opt one) _ (.opt w1) up)
    · refine st_ix_lst gup_same at0 ?_
      walk_at "gn"
      exact st_fin (q (.opt one) _ (.opt w1) up)
    · refine st_ix_lst gup_same at1 ?_
      walk_at "gn"
      exact st_fin (q (.nt one) _ (.nt w1) up)
    · refine st_ix_lst gup_same at2 ?_
      walk_at "gn"
      exact st_fin (q (.an one) _ (.an w1) up)
  walk_at "gn"
  refine ifD (fun c6 => ?_) (fun c6 => ?_)
  · walk_at "gn"
    intro p hp
    walk_at "gn"
    have hpa := u02.row.ne hp
    refine ⟨a, 2, rfl, u02.row.gup hp, by decide, fun s G3 s0 s2 u3 => ?_⟩
    have u := u02.trans (RowUp.gup hp u3)
    have gp := u3.at gup_same hpa
    have : s = 0 ∨ s = 1 := by omega
    rcases this with rfl | rfl
    · refine st_ix_lst gp at0 ?_
      walk_at "gn"
      exact st_fin (q (.mark "x" one) _ (.mark (.inl rfl) w1) u)
    · refine st_ix_lst gp at1 ?_
      walk_at "gn"
      exact st_fin (q (.mark "y" one) _ (.mark (.inr rfl) w1) u)
  walk_at "gn"
  rw [ed]
  refine ⟨a, d, i, m, rfl, u2.row, by omega, him, hm4, fun two G3 w2 u3 => ?_⟩
  have u03 := u02.trans u3
  walk_at "gn"
  refine ifD (fun c7 => ?_) (fun c7 => ?_)
  · walk_at "gn"
    rw [ed]
    refine ⟨a, d, i, m, rfl, u3.row, by omega, him, hm4, fun three G4 w3 u4 => ?_⟩
    have u04 := u03.trans u4
    walk_at "gn"
    intro p hp
    walk_at "gn"
    have hpa := u04.row.ne hp
    refine ⟨a, 2, rfl, u04.row.gup hp, by decide, fun s G5 s0 s2 u5 => ?_⟩
    have u := u04.trans (RowUp.gup hp u5)
    have gp := u5.at gup_same hpa
    have : s = 0 ∨ s = 1 := by omega
    rcases this with rfl | rfl
    · refine st_ix_lst gp at0 ?_
      walk_at "gn"
      exact st_fin (q (.seq [one, two, three]) _ (.seq3 w1 w2 w3) u)
    · refine st_ix_lst gp at1 ?_
      walk_at "gn"
      exact st_fin (q (.alt [one, two, three]) _ (.alt3 w1 w2 w3) u)
  walk_at "gn"
  intro p hp
  walk_at "gn"
  have up := u03.new (o := .lst [.str "seq", .str "alt", .str "alt"]) hp
  have : kind = 11 ∨ kind = 12 ∨ kind = 13 := by omega
  rcases this with rfl | rfl | rfl
  · refine st_ix_lst gup_same at0 ?_
    walk_at "gn"
    exact st_fin (q (.seq [one, two]) _ (.seq2 w1 w2) up)
  · refine st_ix_lst gup_same at1 ?_
    walk_at "gn"
    exact st_fin (q (.alt [one, two]) _ (.alt2 w1 w2) up)
  · refine st_ix_lst gup_same at2 ?_
    walk_at "gn"
    exact st_fin (q (.alt [one, two]) _ (.alt2 w1 w2) up)
theorem pure_gram (n : Nat) (ds : List D) (G : Gp) (Q : DK) (E : DX) (h : spGram n ds G Q E) : t_law_grammar spTake (spExpr n) (fnEnds Q) (dstart N_law_grammar ds) G := by
  obtain ⟨a, d, rfl, hrow, hd, q⟩ := h
  unfold t_law_grammar
  walk_at "gn"
  refine ⟨a, 4, rfl, hrow, by decide, fun m0 G2 m00 m05 u2 => ?_⟩
  walk_at "gn"
  obtain ⟨m, rfl⟩ : ∃ m : Nat, m0 = (m : Int) := ⟨m0.toNat, by omega⟩
  have em : (1 : Int) + (m : Nat) = ((m + 1 : Nat) : Int) := by omega
  rw [em]
  refine ⟨_, rfl, ⟨by omega, by omega⟩, fun p hp => ?_⟩
  have ejn : ((m + 1 : Nat) : Int).toNat = m + 1 := by omega
  rw [ejn]
  have hpa : p ≠ a := u2.row.ne hp
  refine lc_go (fun xs acc G' => ∃ g : Gr, acc = g.map dR ∧ xs = (rangeD 0 (m + 1)).drop g.length ∧ g.length ≤ m + 1 ∧ (∀ (j : Nat) (r : Str × Ex), g[j]? = some r → r.1 = nm5 j ∧ Dr j (m + 1) d r.2) ∧ RowUp G G' a ∧ G' p = some (.lst acc)) (fun _ _ _ _ => trivial) ?_ ?_ _ _ _
    ⟨[], rfl, rfl, Nat.zero_le _, fun _ _ h => (by simp at h), u2.new hp, gup_same⟩
  · rintro x xs acc G3 ⟨g, rfl, hx, hgl, hw, u3, g3⟩
    obtain ⟨hx1, hx2⟩ := drop_cons hx.symm
    have hlt : g.length < m + 1 := by
      have := (List.getElem?_eq_some_iff.mp hx1).1
      simpa [rangeD] using this
    have ex : x = .int (g.length : Nat) := by
      unfold rangeD at hx1
      rw [List.getElem?_map, List.getElem?_range hlt] at hx1
      have := Option.some.inj hx1
      simpa using this.symm
    subst ex
    refine ⟨by rw [List.length_map, sizeLine_eq]; omega, fun S hS => ?_⟩
    walk_at "gn"
    obtain ⟨c, hc, ec⟩ := ix4 (r := ((g.length : Nat) : Int)) (by omega) (by omega)
    refine st_ix_str (by decide) hc ?_
    walk_at "gn"
    refine ⟨a, d, g.length, m + 1, rfl, u3.row, hd, by omega, by omega, fun e G5 we u5 => ?_⟩
    walk_at "gn"
    rw [ec]
    have u35 := u3.trans u5
    refine hS _ _ (u5.at g3 hpa) ⟨g ++ [(nm5 g.length, e)], by simp [dR], by rw [List.length_append, ← hx2]; rfl, by simp; omega, ?_, ?_, gup_same⟩
    · intro j r hr
      rcases Nat.lt_or_ge j g.length with hj | hj
      · rw [List.getElem?_append_left hj] at hr
        exact hw j r hr
      · rw [List.getElem?_append_right hj] at hr
        have : j = g.length := by
          rcases Nat.lt_or_ge g.length j with c | c
          · have : j - g.length = (j - g.length - 1) + 1 := by omega
            rw [this] at hr; simp at hr
          · omega
        subst this
        simp at hr
        subst hr
        exact ⟨rfl, we⟩
    · have hrow' := u35.row
      obtain ⟨q1, q2, q3, q4⟩ := hrow'
      refine ⟨⟨q1, q2, by rw [gup_ne (Ne.symm hpa)]; exact q3, q4⟩, fun b o hb e => ?_⟩
      have e1 := u35.keep b o hb e
      rw [gup_ne]; exact e1
      rintro rfl
      rw [u2.free hp] at e; cases e
  · rintro acc G3 ⟨g, rfl, hx, hgl, hw, u3, g3⟩
    have hgl' : g.length = m + 1 := by
      have := List.drop_eq_nil_iff.mp hx.symm
      simp [rangeD] at this
      omega
    walk_at "gn"
    refine st_tuple_lst g3 ?_
    exact st_fin (q g G3 ⟨by omega, by omega, fun j r h => by rw [hgl']; exact hw j r h⟩ u3)
theorem ix3 {r : Int} (h0 : 0 ≤ r) (h1 : r < 3) : ∃ c : Nat, L2.atI ("abc" : Str).cps.toList r = some c ∧ abcB c = true := by
  have : r = 0 ∨ r = 1 ∨ r = 2 := by omega
  rcases this with rfl | rfl | rfl
  · exact ⟨97, by decide +kernel, by decide +kernel⟩
  · exact ⟨98, by decide +kernel, by decide +kernel⟩
  · exact ⟨99, by decide +kernel, by decide +kernel⟩
theorem pure_text (ds : List D) (G : Gp) (Q : DK) (E : DX) (h : spText ds G Q E) : t_law_text spTake (fnEnds Q) (dstart N_law_text ds) G := by
  obtain ⟨a, rfl, hrow, q⟩ := h
  unfold t_law_text
  walk_at "gn"
  refine ⟨a, 10, rfl, hrow, by decide, fun m0 G2 m00 m05 u2 => ?_⟩
  walk_at "gn"
  obtain ⟨m, rfl⟩ : ∃ m : Nat, m0 = (m : Int) := ⟨m0.toNat, by omega⟩
  refine ⟨_, rfl, ⟨by omega, by omega⟩, fun p hp => ?_⟩
  have hpa : p ≠ a := u2.row.ne hp
  refine lc_go (fun xs acc G' => ∃ cs : List Nat, acc = cs.map (fun c => .str ⟨#[c]⟩) ∧ cs.length + xs.length = m ∧ cs.all abcB = true ∧ RowUp G G' a ∧ G' p = some (.lst acc)) (fun _ _ _ _ => trivial) ?_ ?_ _ _ _
    ⟨[], rfl, by simp [rangeD], rfl, u2.new hp, gup_same⟩
  · rintro x xs acc G3 ⟨cs, rfl, hl, hw, u3, g3⟩
    simp only [List.length_cons] at hl
    refine ⟨by rw [List.length_map, sizeLine_eq]; omega, fun S hS => ?_⟩
    walk_at "gn"
    refine ⟨a, 3, rfl, u3.row, by decide, fun l G5 l0 l3 u5 => ?_⟩
    obtain ⟨c, hc, ec⟩ := ix3 l0 l3
    refine st_ix_str (by decide) hc ?_
    have u35 := u3.trans u5
    refine hS _ _ (u5.at g3 hpa) ⟨cs ++ [c], by simp, by simp; omega, by rw [List.all_append, hw]; simp [ec], ?_, gup_same⟩
    have hrow' := u35.row
    obtain ⟨q1, q2, q3, q4⟩ := hrow'
    refine ⟨⟨q1, q2, by rw [gup_ne (Ne.symm hpa)]; exact q3, q4⟩, fun b o hb e => ?_⟩
    have e1 := u35.keep b o hb e
    rw [gup_ne]; exact e1
    rintro rfl
    rw [u2.free hp] at e; cases e
  · rintro acc G3 ⟨cs, rfl, hl, hw, u3, g3⟩
    simp only [List.length_nil] at hl
    have g3' : G3 p = some (.lst ((cs.map fun c => (⟨#[c]⟩ : Str)).map .str)) := by rw [g3, List.map_map]; rfl
    refine st_joinL (B := fun ys => ∃ G'', DL.Sub G'' G3 ∧ Q (D.str (Txt.join "" ys)) G'') g3' ?_ ?_
    · rw [sum_ones]
      simp only [List.length_map]
      show cs.length + cs.length * 0 ≤ _
      omega
    · show ∃ G'', DL.Sub G'' G3 ∧ Q (D.str (Txt.join "" (cs.map fun c => (⟨#[c]⟩ : Str)))) G''
      rw [join_signs]
      exact st_fin (q _ _ (by show cs.toArray.size ≤ 9; simp; omega) (by simpa using hw) u3)

end LW
/-! G4: first characters, as least sets. -/
namespace GX
open PySem L2 DL
/-- a round with any test -/
def rnd (f : List Str → Ex → Bool) (g : Gr) (ns : List Str) : List Str := (g.filter fun r => f ns r.2).map (·.1)
def itf (f : List Str → Ex → Bool) (g : Gr) : Nat → List Str
  | 0 => []
  | k + 1 => rnd f g (itf f g k)
def MonoF (f : List Str → Ex → Bool) : Prop := ∀ ns ms : List Str, (∀ x ∈ ns, x ∈ ms) → ∀ e, f ns e = true → f ms e = true
section
variable {f : List Str → Ex → Bool} {g : Gr}
theorem rnd_sub (hf : MonoF f) {ns ms : List Str} (h : ∀ x ∈ ns, x ∈ ms) : (rnd f g ns).Sublist (rnd f g ms) := by
  unfold rnd
  exact (filter_sub g fun r _ q => hf _ _ h r.2 q).map _
theorem itf_sub (hf : MonoF f) : ∀ k, (itf f g k).Sublist (itf f g (k + 1))
  | 0 => List.nil_sublist _
  | k + 1 => rnd_sub hf fun x hx => (itf_sub hf k).subset hx
theorem itf_len : ∀ k, (itf f g k).length ≤ g.length
  | 0 => Nat.zero_le _
  | k + 1 => by
    show (rnd f g _).length ≤ _
    unfold rnd
    rw [List.length_map]
    exact List.length_filter_le _ _
theorem itf_grow (hf : MonoF f) {k : Nat} (h : itf f g (k + 1) ≠ itf f g k) : (itf f g k).length < (itf f g (k + 1)).length := by
  rcases Nat.lt_or_ge (itf f g k).length (itf f g (k + 1)).length with c | c
  · exact c
  · exact absurd ((itf_sub hf k).eq_of_length_le c).symm h
theorem itf_fix {k : Nat} (h : itf f g (k + 1) = itf f g k) : ∀ j, itf f g (k + j) = itf f g k
  | 0 => rfl
  | j + 1 => by
    show rnd f g (itf f g (k + j)) = _
    rw [itf_fix h j]
    exact h
theorem itf_ex (hf : MonoF f) : ∃ k, k ≤ g.length ∧ itf f g (k + 1) = itf f g k := by
  rcases Classical.em (∃ k, k ≤ g.length ∧ itf f g (k + 1) = itf f g k) with h | h
  · exact h
  · have key : ∀ k, k ≤ g.length + 1 → k ≤ (itf f g k).length := by
      intro k
      induction k with
      | zero => intro _; exact Nat.zero_le _
      | succ k ih =>
        intro hk
        have h1 := ih (by omega)
        have h2 : itf f g (k + 1) ≠ itf f g k := fun e => h ⟨k, by omega, e⟩
        have h3 := itf_grow hf h2
        omega
    have h1 := key (g.length + 1) (Nat.le_refl _)
    have h2 := itf_len (f := f) (g := g) (g.length + 1)
    omega
def lst (f : List Str → Ex → Bool) (g : Gr) : List Str := itf f g g.length
theorem itf_stab (hf : MonoF f) (k : Nat) (hk : g.length ≤ k) : itf f g k = lst f g := by
  obtain ⟨k0, h0, e0⟩ := itf_ex (f := f) (g := g) hf
  have e1 := itf_fix e0 (k - k0)
  have e2 := itf_fix e0 (g.length - k0)
  rw [show k0 + (k - k0) = k by omega] at e1
  rw [show k0 + (g.length - k0) = g.length by omega] at e2
  unfold lst
  rw [e1, e2]
theorem lst_fix (hf : MonoF f) : rnd f g (lst f g) = lst f g := by
  have h := itf_stab (g := g) hf (g.length + 1) (by omega)
  exact h
theorem itf_sub' (hf : MonoF f) {j k : Nat} (h : j ≤ k) : (itf f g j).Sublist (itf f g k) := by
  induction k with
  | zero => have : j = 0 := by omega
            subst this; exact List.Sublist.refl _
  | succ k ih =>
    rcases Nat.lt_or_ge k j with c | c
    · have : j = k + 1 := by omega
      subst this; exact List.Sublist.refl _
    · exact (ih c).trans (itf_sub hf k)
/-- where a round adds nothing, all is there -/
theorem itf_done (hf : MonoF f) {k : Nat} (h : ∀ x, x ∈ itf f g (k + 1) → x ∈ itf f g k) : ∀ x, x ∈ lst f g ↔ x ∈ itf f g k := by
  have key : ∀ j, ∀ x, x ∈ itf f g (k + j) → x ∈ itf f g k := by
    intro j
    induction j with
    | zero => intro x hx; exact hx
    | succ j ih =>
      intro x hx
      have : x ∈ itf f g (k + 1) := (rnd_sub (g := g) hf (ns := itf f g (k + j)) (ms := itf f g k) ih).subset hx
      exact h x this
  intro x
  constructor
  · intro hx
    rcases Nat.le_total k g.length with c | c
    · have := key (g.length - k) x
      rw [show k + (g.length - k) = g.length by omega] at this
      exact this hx
    · rw [itf_stab hf k c]; exact hx
  · intro hx
    rcases Nat.le_total k g.length with c | c
    · exact (itf_sub' hf c).subset hx
    · rw [itf_stab hf k c] at hx; exact hx
theorem mem_rnd {ns : List Str} {x : Str} : x ∈ rnd f g ns ↔ ∃ r ∈ g, f ns r.2 = true ∧ r.1 = x := by
  unfold rnd
  rw [List.mem_map]
  constructor
  · rintro ⟨r, hr, e⟩
    exact ⟨r, (List.mem_filter.mp hr).1, (List.mem_filter.mp hr).2, e⟩
  · rintro ⟨r, hr, h, e⟩
    exact ⟨r, List.mem_filter.mpr ⟨hr, h⟩, e⟩
end
/-! ### first characters -/
def CHS : Str := " !\"#$&'()*+,-./0123456789:;<=>?@ABCDEFGHIJKLMNOPQRSTUVWXYZ[\\]^_`abcdefghijklmnopqrstuvwxyz{|}~"
def CH : List Nat := CHS.cps.toList
mutual
def firE (em : List Str) (c : Nat) (S : List Str) : Ex → Bool
  | .any => decide (c ∈ CH)
  | .set s => decide (c ∈ s.cps.toList)
  | .text s => decide (s.cps.toList.head? = some c)
  | .call n => decide (n ∈ S)
  | .seq es => firSeq em c S es
  | .alt es => firAlt em c S es
  | .star e => firE em c S e
  | .opt e => firE em c S e
  | .mark _ e => firE em c S e
  | _ => false
def firSeq (em : List Str) (c : Nat) (S : List Str) : List Ex → Bool
  | [] => false
  | e :: es => firE em c S e || (mayE em e && firSeq em c S es)
def firAlt (em : List Str) (c : Nat) (S : List Str) : List Ex → Bool
  | [] => false
  | e :: es => firE em c S e || firAlt em c S es
end
mutual
theorem firE_mono (em : List Str) (c : Nat) {ns ms : List Str} (h : ∀ x ∈ ns, x ∈ ms) : ∀ e : Ex, firE em c ns e = true → firE em c ms e = true
  | .any, q => q
  | .set _, q => q
  | .text _, q => q
  | .call n, q => by
    simp only [firE, decide_eq_true_eq] at q ⊢
    exact h n q
  | .seq es, q => by simp only [firE] at q ⊢; exact firSeq_mono em c h es q
  | .alt es, q => by simp only [firE] at q ⊢; exact firAlt_mono em c h es q
  | .star e, q => by simp only [firE] at q ⊢; exact firE_mono em c h e q
  | .opt e, q => by simp only [firE] at q ⊢; exact firE_mono em c h e q
  | .mark _ e, q => by simp only [firE] at q ⊢; exact firE_mono em c h e q
  | .eps, q => by simp [firE] at q
  | .fail, q => by simp [firE] at q
  | .nt _, q => by simp [firE] at q
  | .an _, q => by simp [firE] at q
theorem firSeq_mono (em : List Str) (c : Nat) {ns ms : List Str} (h : ∀ x ∈ ns, x ∈ ms) : ∀ es : List Ex, firSeq em c ns es = true → firSeq em c ms es = true
  | [], q => by simp [firSeq] at q
  | e :: es, q => by
    simp only [firSeq, Bool.or_eq_true, Bool.and_eq_true] at q ⊢
    rcases q with q | q
    · exact .inl (firE_mono em c h e q)
    · exact .inr ⟨q.1, firSeq_mono em c h es q.2⟩
theorem firAlt_mono (em : List Str) (c : Nat) {ns ms : List Str} (h : ∀ x ∈ ns, x ∈ ms) : ∀ es : List Ex, firAlt em c ns es = true → firAlt em c ms es = true
  | [], q => by simp [firAlt] at q
  | e :: es, q => by
    simp only [firAlt, Bool.or_eq_true] at q ⊢
    rcases q with q | q
    · exact .inl (firE_mono em c h e q)
    · exact .inr (firAlt_mono em c h es q)
end
theorem firE_mon (em : List Str) (c : Nat) : MonoF (firE em c) := fun _ _ h e => firE_mono em c h e
theorem firE_congr (em : List Str) (c : Nat) {ns ms : List Str} (h : ∀ x, x ∈ ns ↔ x ∈ ms) (e : Ex) : firE em c ns e = firE em c ms e := by
  rw [Bool.eq_iff_iff]
  exact ⟨firE_mono em c (fun x hx => (h x).mp hx) e, firE_mono em c (fun x hx => (h x).mpr hx) e⟩
/-- the text of the characters -/
def canon (p : Nat → Bool) : Str := ⟨(CH.filter p).toArray⟩
theorem mem_canon {p : Nat → Bool} {c : Nat} : c ∈ (canon p).cps.toList ↔ c ∈ CH ∧ p c = true := by
  show c ∈ (CH.filter p).toArray.toList ↔ _
  rw [List.mem_filter]
theorem canon_eq {p q : Nat → Bool} : canon p = canon q ↔ ∀ c ∈ CH, p c = q c := by
  constructor
  · intro h c hc
    have : c ∈ (canon p).cps.toList ↔ c ∈ (canon q).cps.toList := by rw [h]
    rw [mem_canon, mem_canon] at this
    rw [Bool.eq_iff_iff]
    exact ⟨fun x => (this.mp ⟨hc, x⟩).2, fun x => (this.mpr ⟨hc, x⟩).2⟩
  · intro h
    unfold canon
    rw [List.filter_congr h]
theorem CH_len : CH.length = 94 := by decide +kernel
theorem CH_nodup : CH.Nodup := by decide +kernel
theorem canon_len (p : Nat → Bool) : (canon p).length ≤ 94 := by
  show (CH.filter p).toArray.size ≤ 94
  have := List.length_filter_le p CH
  rw [CH_len] at this
  simpa using this
/-- texts and sets written as they come out -/
def canB (s : Str) : Bool := s == canon fun c => decide (c ∈ s.cps.toList)
mutual
def firOk : Ex → Bool
  | .set s => canB s
  | .text s => decide (1 ≤ s.length) && decide (s.length ≤ 1000) && s.cps.toList.all fun c => decide (c ∈ CH)
  | .seq es => firOks es
  | .alt es => firOks es
  | .star e => firOk e
  | .opt e => firOk e
  | .nt e => firOk e
  | .an e => firOk e
  | .mark _ e => firOk e
  | _ => true
def firOks : List Ex → Bool
  | [] => true
  | e :: es => firOk e && firOks es
end
/-- the set of first characters, as a text -/
def firS (em : List Str) (S : Nat → List Str) (e : Ex) : Str := canon fun c => firE em c (S c) e
end GX

namespace LW
open PySem L2 DL GX
def t_parts_of : DTS :=
 dSeq (dAsg (dOp rIxD (dVar 0) (dC (.int 0))) (dgName 1))
 (dSeq (dIfS (dOr (dTest (dOp rEq (dVar 1) (dC (.str "seq")))) (dTest (dOp rEq (dVar 1) (dC (.str "alt")))))
 (dRet (dCB cListA (dCons (dOp rIxD (dVar 0) (dC (.int 1))) (dNil))))
 (dNext))
 (dSeq (dIfS (dTest (dOp (rInSeq false) (dVar 1) (dC (.tup [.str "star", .str "opt", .str "not", .str "and"]))))
 (dRet (dLst (dCons (dOp rIxD (dVar 0) (dC (.int 1))) (dNil))))
 (dNext))
 (dSeq (dIfS (dTest (dOp rEq (dVar 1) (dC (.str "mark"))))
 (dRet (dLst (dCons (dOp rIxD (dVar 0) (dC (.int 2))) (dNil))))
 (dNext))
 (dRet (dLst (dNil))))))
abbrev N_parts_of : List Str := ["expression", "head"]

def t_joined : DTS :=
 dRet (dJoin (dC (.str "")) (dLc (sSeq (dC (.str " !\"#$&'()*+,-./0123456789:;<=>?@ABCDEFGHIJKLMNOPQRSTUVWXYZ[\\]^_`abcdefghijklmnopqrstuvwxyz{|}~"))) 2 (dOr (dTest (dOp (rInStr false) (dVar 2) (dVar 0))) (dTest (dOp (rInStr false) (dVar 2) (dVar 1)))) (dVar 2)))
abbrev N_joined : List Str := ["one", "two", "char"]

def t_firsts_in (sp_parts_of : DSp) (sp_joined : DSp) (sp_firsts_in : DSp) (sp_may_be_empty : DSp) : DTS :=
 dSeq (dAsg (dOp rIxD (dVar 0) (dC (.int 0))) (dgName 3))
 (dSeq (dIfS (dTest (dOp rEq (dVar 3) (dC (.str "any"))))
 (dRet (dC (.str " !\"#$&'()*+,-./0123456789:;<=>?@ABCDEFGHIJKLMNOPQRSTUVWXYZ[\\]^_`abcdefghijklmnopqrstuvwxyz{|}~")))
 (dNext))
 (dSeq (dIfS (dTest (dOp rEq (dVar 3) (dC (.str "set"))))
 (dRet (dOp rIxD (dVar 0) (dC (.int 1))))
 (dNext))
 (dSeq (dIfS (dTest (dOp rEq (dVar 3) (dC (.str "text"))))
 (dRet (dOp rIxD (dOp rIxD (dVar 0) (dC (.int 1))) (dC (.int 0))))
 (dNext))
 (dSeq (dIfS (dTest (dOp (rInSeq false) (dVar 3) (dTup (dCons (dC (.str "eps")) (dCons (dC (.str "fail")) (dCons (dC (.str "not")) (dCons (dC (.str "and")) (dNil))))))))
 (dRet (dC (.str "")))
 (dNext))
 (dSeq (dIfS (dTest (dOp rEq (dVar 3) (dC (.str "call"))))
 (dRet (dOp rDget (dVar 2) (dOp rIxD (dVar 0) (dC (.int 1)))))
 (dNext))
 (dSeq (dAsg (dC (.str "")) (dgName 4))
 (dSeq (dFor (sSeq (dCall sp_parts_of [] (dCons (dVar 0) (dNil)))) (dgName 5)
 (dSeq (dAsg (dCall sp_joined [] (dCons (dVar 4) (dCons (dCall sp_firsts_in [] (dCons (dVar 5) (dCons (dVar 1) (dCons (dVar 2) (dNil))))) (dNil)))) (dgName 4))
 (dIfS (dAnd (dTest (dOp rEq (dVar 3) (dC (.str "seq")))) (dNot (dTruth (dCall sp_may_be_empty [] (dCons (dVar 5) (dCons (dVar 1) (dNil)))))))
 (dBreak)
 (dNext))))
 (dRet (dVar 4)))))))))
abbrev N_firsts_in : List Str := ["expression", "empty", "table", "head", "found", "part"]

local macro_rules | `(tactic| walk_at "go1") => `(tactic| first
  | with_reducible refine st_seq ?_ | with_reducible refine st_asg ?_ | with_reducible refine st_name ?_
  | (with_reducible refine st_v ?_; refine ⟨_, rfl, ?_⟩) | with_reducible refine st_c ?_ | with_reducible refine st_op ?_ | with_reducible refine st_test ?_ | with_reducible refine st_tk ?_
  | with_reducible refine st_if ?_ | with_reducible refine st_rt ?_ | with_reducible refine st_nil ?_ | with_reducible refine st_cons ?_ | with_reducible refine st_tup ?_
  | with_reducible refine st_sz sm1 ?_ | with_reducible refine st_sz sm2 ?_ | with_reducible refine st_sz sm3 ?_ | with_reducible refine st_sz sm0 ?_ | with_reducible refine st_sz sm4 ?_ | with_reducible refine st_sz sm5 ?_
  | with_reducible refine st_eq_str ?_ | with_reducible refine st_eq_int ?_
  | with_reducible refine st_ix_tup at0 ?_ | with_reducible refine st_ix_tup at1 ?_ | with_reducible refine st_ix_tup at2 ?_
  | with_reducible refine ifDt (by decide +kernel) ?_ | with_reducible refine ifDf (by decide +kernel) ?_ | with_reducible refine ifT (by decide +kernel) ?_ | with_reducible refine ifF (by decide +kernel) ?_
  | with_reducible refine st_in_tup rfl rfl ?_ | with_reducible refine st_next ?_
  | with_reducible refine st_truth ?_ | with_reducible refine st_tr_bl ?_ | with_reducible refine st_tr_tup ?_ | with_reducible refine st_and ?_ | with_reducible refine st_or ?_ | with_reducible refine st_not ?_
  | with_reducible refine st_cb ?_ | with_reducible refine st_call ?_ | with_reducible refine st_app ?_ | with_reducible refine st_drop ?_ | with_reducible refine st_ml ?_
  | with_reducible refine st_lt ?_ | with_reducible refine st_le ?_ | with_reducible refine st_gt ?_ | with_reducible refine st_ge ?_ | with_reducible refine st_add ?_ | with_reducible refine st_sub ?_
  | with_reducible refine st_ne_bl ?_ | with_reducible refine st_eq_bl ?_ | with_reducible refine st_isi_blb ?_ | with_reducible refine st_ne_str ?_ | with_reducible refine st_ne_int ?_ | with_reducible refine st_lst ?_ | with_reducible refine st_len_tup ?_ | with_reducible refine st_int ?_ | with_reducible refine st_int_bl ?_ | with_reducible refine st_abs ?_
  | with_reducible refine st_for ?_ | with_reducible refine st_lc ?_ | with_reducible refine st_sseq ?_ | with_reducible refine st_it_tup ?_ | with_reducible refine st_it_str ?_ | with_reducible refine st_it_rol ?_
  | with_reducible refine st_rng1 ?_ | with_reducible refine st_rng2 ?_ | with_reducible refine st_slice ?_ | with_reducible refine st_nopart ?_ | with_reducible refine st_part ?_ | with_reducible refine st_pk ?_
  | with_reducible refine st_gtup rfl ?_ | with_reducible refine st_gcons ?_ | with_reducible refine st_gnil ?_ | with_reducible refine st_gsub ?_ | with_reducible refine st_ife ?_ | with_reducible refine st_andV ?_ | with_reducible refine st_orV ?_ | with_reducible refine st_notV ?_ | with_reducible refine st_bk ?_
  | with_reducible refine st_isN_non ?_ | with_reducible refine st_isN_tup ?_ | with_reducible refine st_notN_non ?_ | with_reducible refine st_notN_tup ?_ | with_reducible refine st_rtN ?_ | with_reducible refine st_brk ?_ | with_reducible refine st_cnt ?_ | with_reducible refine st_yes ?_
  | with_reducible refine st_join ?_ | with_reducible refine st_sk ?_ | with_reducible refine st_neg ?_ | with_reducible refine st_dc ?_ | with_reducible refine st_chain ?_ | with_reducible refine st_inS ?_ | with_reducible refine st_notInS ?_ | with_reducible refine st_listA_tup ?_)
local macro_rules | `(tactic| walk_at "go") => `(tactic| repeat walk_at "go1")
local macro_rules | `(tactic| walk_at "gn1") => `(tactic| first
  | with_reducible refine st_seq ?_ | with_reducible refine st_asg ?_ | with_reducible refine st_name ?_
  | (with_reducible refine st_v ?_; refine ⟨_, rfl, ?_⟩) | with_reducible refine st_c ?_ | with_reducible refine st_op ?_ | with_reducible refine st_test ?_ | with_reducible refine st_tk ?_
  | with_reducible refine st_if ?_ | with_reducible refine st_rt ?_ | with_reducible refine st_nil ?_ | with_reducible refine st_cons ?_ | with_reducible refine st_tup ?_
  | with_reducible refine st_sz sm1 ?_ | with_reducible refine st_sz sm2 ?_ | with_reducible refine st_sz sm3 ?_ | with_reducible refine st_sz sm0 ?_ | with_reducible refine st_sz sm4 ?_ | with_reducible refine st_sz sm5 ?_
  | with_reducible refine st_eq_str ?_ | with_reducible refine st_eq_int ?_
  | with_reducible refine st_ix_tup at0 ?_ | with_reducible refine st_ix_tup at1 ?_ | with_reducible refine st_ix_tup at2 ?_
  | with_reducible refine ifDt (by decide +kernel) ?_ | with_reducible refine ifDf (by decide +kernel) ?_ | with_reducible refine ifT (by decide +kernel) ?_ | with_reducible refine ifF (by decide +kernel) ?_
  | with_reducible refine st_in_tup rfl rfl ?_ | with_reducible refine st_next ?_
  | with_reducible refine st_truth ?_ | with_reducible refine st_tr_bl ?_ | with_reducible refine st_tr_tup ?_ | with_reducible refine st_not ?_
  | with_reducible refine st_cb ?_ | with_reducible refine st_call ?_ | with_reducible refine st_app ?_ | with_reducible refine st_drop ?_ | with_reducible refine st_ml ?_
  | with_reducible refine st_lt ?_ | with_reducible refine st_le ?_ | with_reducible refine st_gt ?_ | with_reducible refine st_ge ?_ | with_reducible refine st_add ?_ | with_reducible refine st_sub ?_
  | with_reducible refine st_ne_bl ?_ | with_reducible refine st_eq_bl ?_ | with_reducible refine st_isi_blb ?_ | with_reducible refine st_ne_str ?_ | with_reducible refine st_ne_int ?_ | with_reducible refine st_lst ?_ | with_reducible refine st_len_tup ?_ | with_reducible refine st_int ?_ | with_reducible refine st_int_bl ?_ | with_reducible refine st_abs ?_
  | with_reducible refine st_for ?_ | with_reducible refine st_lc ?_ | with_reducible refine st_sseq ?_ | with_reducible refine st_it_tup ?_ | with_reducible refine st_it_str ?_ | with_reducible refine st_it_rol ?_
  | with_reducible refine st_rng1 ?_ | with_reducible refine st_rng2 ?_ | with_reducible refine st_slice ?_ | with_reducible refine st_nopart ?_ | with_reducible refine st_part ?_ | with_reducible refine st_pk ?_
  | with_reducible refine st_gtup rfl ?_ | with_reducible refine st_gcons ?_ | with_reducible refine st_gnil ?_ | with_reducible refine st_gsub ?_ | with_reducible refine st_ife ?_ | with_reducible refine st_andV ?_ | with_reducible refine st_orV ?_ | with_reducible refine st_notV ?_ | with_reducible refine st_bk ?_
  | with_reducible refine st_isN_non ?_ | with_reducible refine st_isN_tup ?_ | with_reducible refine st_notN_non ?_ | with_reducible refine st_notN_tup ?_ | with_reducible refine st_rtN ?_ | with_reducible refine st_brk ?_ | with_reducible refine st_cnt ?_ | with_reducible refine st_yes ?_
  | with_reducible refine st_join ?_ | with_reducible refine st_sk ?_ | with_reducible refine st_neg ?_ | with_reducible refine st_dc ?_ | with_reducible refine st_chain ?_ | with_reducible refine st_inS ?_ | with_reducible refine st_notInS ?_ | with_reducible refine st_listA_tup ?_)
local macro_rules | `(tactic| walk_at "gn") => `(tactic| repeat walk_at "gn1")

def partsE : Ex → List Ex
  | .seq es => es
  | .alt es => es
  | .star e => [e]
  | .opt e => [e]
  | .nt e => [e]
  | .an e => [e]
  | .mark _ e => [e]
  | _ => []
def spParts : DSp := fun ds G Q _ => ∃ e : Ex, ds = [dE e] ∧ ∀ p, G p = none → Q (.ref p) (gup G p (.lst (dEs (partsE e))))
def spJoined : DSp := fun ds G Q _ => ∃ a b : Str, ds = [.str a, .str b] ∧ Q (.str (canon fun c => decide (c ∈ a.cps.toList) || decide (c ∈ b.cps.toList))) G
def tabK (g : Gr) (S : Nat → List Str) : List (Key × D) := g.map fun r => (.inr r.1, .str (canon fun c => decide (r.1 ∈ S c)))
def spFir (n : Nat) : DSp := fun ds G Q _ => ∃ (e : Ex) (x : D) (t : Addr) (em : List Str) (g : Gr) (S : Nat → List Str), ds = [dE e, x, .ref t] ∧ itemsD G x = some (em.map .str) ∧ G t = some (.dK (tabK g S)) ∧ dep e ≤ n ∧ wide e ∧ firOk e = true ∧
  (∀ c ∈ callsE e, c ∈ g.map (·.1)) ∧ Q (.str (firS em S e)) G
theorem pure_parts (ds : List D) (G : Gp) (Q : DK) (E : DX) (h : spParts ds G Q E) : t_parts_of (fnEnds Q) (dstart N_parts_of ds) G := by
  obtain ⟨e, rfl, q⟩ := h
  cases e with
  | seq es =>
    rw [dE]; unfold t_parts_of
    walk_at "go"
    exact fun p hp => st_fin (q p hp)
  | alt es =>
    rw [dE]; unfold t_parts_of
    walk_at "go"
    exact fun p hp => st_fin (q p hp)
  | _ =>
    rw [dE]; unfold t_parts_of
    walk_at "go"
    exact fun p hp => st_fin (q p hp)
theorem lc_signs {i : Nat} {tt : DTT} {te : DTE} {p : Addr} {fin : Gp → Prop} {ρ : Rho} {G : Gp} (hp : G p = none) (chk : Gp → Prop) (hc : ∀ acc, chk (gup G p (.lst acc))) (pr : Nat → Bool) (cs : List Nat) (hz : cs.length ≤ 1000)
    (ht : ∀ c, c ∈ cs → ∀ acc Q, Q (pr c) (gup G p (.lst acc)) → tt (ρ.set i (some (.str ⟨#[c]⟩))) (gup G p (.lst acc)) Q)
    (he : ∀ c acc Q, Q (.str ⟨#[c]⟩) (gup G p (.lst acc)) → te (ρ.set i (some (.str ⟨#[c]⟩))) (gup G p (.lst acc)) Q) (h : fin (gup G p (.lst ((cs.filter pr).map fun c => .str ⟨#[c]⟩)))) :
    dLcL chk i tt te p fin ρ (cs.map fun c => .str ⟨#[c]⟩) (gup G p (.lst [])) := by
  have hs : ∀ (l : List Nat), (∀ c ∈ l, c ∈ cs) → ∀ acc : List D, acc.length + l.length ≤ 1000 → fin (gup G p (.lst (acc ++ (l.filter pr).map fun c => .str ⟨#[c]⟩))) → dLcL chk i tt te p fin ρ (l.map fun c => .str ⟨#[c]⟩) (gup G p (.lst acc)) := by
    intro l
    induction l with
    | nil => intro _ acc _ h; exact ⟨hc _, by simpa using h⟩
    | cons c l ih =>
      intro hm acc hz h
      refine ⟨hc _, ht c (hm c List.mem_cons_self) acc _ ?_⟩
      cases e : pr c with
      | true =>
        refine ifT rfl (he c acc _ ⟨acc, gup_same, by simp at hz; rw [sizeLine_eq]; omega, ?_⟩)
        rw [gup_gup]
        refine ih (fun r' h' => hm r' (List.mem_cons_of_mem _ h')) _ (by simp at hz ⊢; omega) ?_
        simpa [List.filter_cons, e] using h
      | false =>
        refine ifF rfl ?_
        refine ih (fun r' h' => hm r' (List.mem_cons_of_mem _ h')) _ (by simp at hz ⊢; omega) ?_
        simpa [List.filter_cons, e] using h
  exact hs cs (fun _ h => h) [] (by simpa using hz) (by simpa using h)
theorem signs_str (cs : List Nat) : (cs.map fun c => D.str ⟨#[c]⟩) = (cs.map fun c => (⟨#[c]⟩ : Str)).map D.str := by rw [List.map_map]; rfl
/-- "".join of signs of CHARS -/
theorem join_canon {G : Gp} {p : Addr} {pr : Nat → Bool} {B : Str → Prop} (g : G p = some (.lst ((CH.filter pr).map fun c => .str ⟨#[c]⟩))) (h : B (canon pr)) :
    ∃ xs ys, itemsD G (.ref p) = some xs ∧ strsD xs = some ys ∧ (ys.map (·.length)).sum + ys.length * (Str.ofString "").length ≤ 16777216 ∧ B (Txt.join (Str.ofString "") ys) := by
  rw [signs_str] at g
  refine st_joinL (B := fun ys => B (Txt.join (Str.ofString "") ys)) g ?_ ?_
  · rw [sum_ones]
    have := List.length_filter_le pr CH
    rw [CH_len] at this
    show _ + _ * 0 ≤ _
    omega
  · show B (Txt.join "" ((CH.filter pr).map fun c => (⟨#[c]⟩ : Str)))
    rw [join_signs]
    exact h
theorem pure_joined (ds : List D) (G : Gp) (Q : DK) (E : DX) (h : spJoined ds G Q E) : t_joined (fnEnds Q) (dstart N_joined ds) G := by
  obtain ⟨a, b, rfl, q⟩ := h
  unfold t_joined
  walk_at "gn"
  intro p hp
  refine lc_signs hp _ (fun _ => trivial) (fun c => decide (c ∈ a.cps.toList) || decide (c ∈ b.cps.toList)) CH (by rw [CH_len]; decide) (fun c _ acc Q h => ?_) (fun c acc Q h => ?_) ?_
  · refine st_or2 (p := c ∈ a.cps.toList) (q := c ∈ b.cps.toList) (fun R h => by walk_at "gn"; exact h) (fun R h => by walk_at "gn"; exact h) ?_
    rw [Bool.decide_or]; exact h
  · walk_at "gn"
    exact h
  · exact join_canon (B := fun s => ∃ G'', DL.Sub G'' (gup G p _) ∧ Q (.str s) G'') gup_same ⟨G, Sub.new hp, q⟩
theorem tab_val {g : Gr} {S : Nat → List Str} {n : Str} (h : n ∈ g.map (·.1)) : valD (tabK g S) (.inr n) = some (.str (canon fun c => decide (n ∈ S c))) := by
  unfold tabK
  induction g with
  | nil => cases h
  | cons r g ih =>
    by_cases c : r.1 = n
    · subst c
      simp [valD, List.find?_cons]
    · have h' : n ∈ g.map (·.1) := by
        rw [List.map_cons] at h
        rcases List.mem_cons.mp h with e | h
        · exact absurd e.symm c
        · exact h
      have := ih h'
      unfold valD at this ⊢
      rw [List.map_cons, List.find?_cons]
      have e : decide ((Sum.inr r.1 : Key) = .inr n) = false := decide_eq_false fun z => c (Sum.inr.inj z)
      simp only [e]
      exact this
theorem canon_all : canon (fun c => decide (c ∈ CH)) = CHS := by
  unfold canon
  rw [List.filter_eq_self.mpr (fun c hc => decide_eq_true hc)]
  rfl
theorem canon_none : canon (fun _ => false) = "" := by
  unfold canon
  rw [List.filter_eq_nil_iff.mpr (fun c _ => by decide)]
  rfl
theorem canon_one {c : Nat} (h : c ∈ CH) : canon (fun x => decide (some c = some x)) = ⟨#[c]⟩ := by
  have : ∀ c ∈ CH, CH.filter (fun x => decide (some c = some x)) = [c] := by decide +kernel
  unfold canon
  rw [this c h]
theorem calls_mem {e : Ex} {c : Str} : ∀ {es : List Ex}, e ∈ es → c ∈ callsE e → c ∈ callsEs es
  | x :: xs, h, hc => by
    rw [callsEs]
    rcases List.mem_cons.mp h with rfl | h
    · exact List.mem_append_left _ hc
    · exact List.mem_append_right _ (calls_mem h hc)
theorem wides_mem {e : Ex} : ∀ {es : List Ex}, e ∈ es → wides es → wide e
  | x :: xs, h, hw => by
    rcases List.mem_cons.mp h with rfl | h
    · exact hw.1
    · exact wides_mem h hw.2
theorem firOks_mem {e : Ex} : ∀ {es : List Ex}, e ∈ es → firOks es = true → firOk e = true
  | x :: xs, h, hw => by
    rw [firOks, Bool.and_eq_true] at hw
    rcases List.mem_cons.mp h with rfl | h
    · exact hw.1
    · exact firOks_mem h hw.2
theorem canon_or (p q : Nat → Bool) : canon (fun c => decide (c ∈ (canon p).cps.toList) || decide (c ∈ (canon q).cps.toList)) = canon fun c => p c || q c := by
  rw [canon_eq]
  intro c hc
  have e1 : decide (c ∈ (canon p).cps.toList) = p c := by
    rw [Bool.eq_iff_iff, decide_eq_true_eq, mem_canon]
    exact ⟨fun z => z.2, fun z => ⟨hc, z⟩⟩
  have e2 : decide (c ∈ (canon q).cps.toList) = q c := by
    rw [Bool.eq_iff_iff, decide_eq_true_eq, mem_canon]
    exact ⟨fun z => z.2, fun z => ⟨hc, z⟩⟩
  rw [e1, e2]
/-- what the parts of an expression are asked -/
structure PartOk (n : Nat) (g : Gr) (es : List Ex) : Prop where
  dep : ∀ e ∈ es, dep e ≤ n
  wide : ∀ e ∈ es, wide e
  fir : ∀ e ∈ es, firOk e = true
  calls : ∀ e ∈ es, ∀ c ∈ callsE e, c ∈ g.map (·.1)
theorem firsts_loop {n : Nat} {b c : Rho → Gp → Prop} {G : Gp} {x d0 : D} {t : Addr} {em : List Str} {g : Gr} {S : Nat → List Str} {hd : Str} {Q : DK} {es : List Ex} (hx : itemsD G x = some (em.map .str)) (ht : G t = some (.dK (tabK g S)))
    (ok : PartOk n g es) (q : Q (.str (canon fun c => if hd = "seq" then firSeq em c (S c) es else firAlt em c (S c) es)) G) (p : Addr) (hp : G p = none) (lp : Option D) :
    dForL (fun G => G p = some (.lst (dEs es))) (dgName 5)
      (dSeq (dAsg (dCall spJoined [] (dCons (dVar 4) (dCons (dCall (spFir n) [] (dCons (dVar 5) (dCons (dVar 1) (dCons (dVar 2) (dNil))))) (dNil)))) (dgName 4))
       (dIfS (dAnd (dTest (dOp rEq (dVar 3) (dC (.str "seq")))) (dNot (dTruth (dCall (spMay n) [] (dCons (dVar 5) (dCons (dVar 1) (dNil)))))))
       (dBreak)
       (dNext)))
      ⟨fun ρ G' => dRet (dVar 4) ⟨fun _ G' => ∃ G'', DL.Sub G'' G' ∧ Q .non G'', fun d G' => ∃ G'', DL.Sub G'' G' ∧ Q d G'', b, c⟩ ρ G', fun d G' => ∃ G'', DL.Sub G'' G' ∧ Q d G'', b, c⟩ (dEs es)
      [some d0, some x, some (.ref t), some (.str hd), some (.str ""), lp] (gup G p (.lst (dEs es))) := by
  refine for_go (fun xs ρ G' => ∃ (l : List Ex) (f : Nat → Bool) (lp : Option D), xs = dEs l ∧ (∀ e ∈ l, e ∈ es) ∧ G' = gup G p (.lst (dEs es)) ∧ ρ = [some d0, some x, some (.ref t), some (.str hd), some (.str (canon f)), lp] ∧
    ∀ c, (f c || (if hd = "seq" then firSeq em c (S c) l else firAlt em c (S c) l)) = if hd = "seq" then firSeq em c (S c) es else firAlt em c (S c) es) ⟨es, fun _ => false, lp, rfl, fun _ h => h, rfl, by rw [canon_none], fun c => Bool.false_or _⟩ ?_ ?_ ?_
  · rintro xs ρ G' ⟨_, _, _, _, _, rfl, _⟩; exact gup_same
  · rintro y ys ρ G' ⟨l, f, lp, hl, hm, rfl, rfl, hf⟩ N hN
    cases l with
    | nil => cases hl
    | cons e l =>
      injection hl with h1 h2
      subst h1 h2
      have he := hm e List.mem_cons_self
      walk_at "gn"
      refine ⟨e, x, t, em, g, S, rfl, itemsD_gup hx hp, gup_at ht hp, ok.dep e he, ok.wide e he, ok.fir e he, ok.calls e he, ?_⟩
      walk_at "gn"
      refine ⟨_, _, rfl, ?_⟩
      walk_at "gn"
      refine st_and2 (p := hd = "seq") (q := (!mayE em e) = true) (fun R h => by walk_at "gn"; exact h) (fun R h => ?_) ?_
      · walk_at "gn"
        refine ⟨e, x, em, rfl, itemsD_gup hx hp, ok.dep e he, ok.wide e he, ⟨_, rfl, ?_⟩⟩
        rw [Bool.decide_eq_true] at h
        exact h
      · show (if decide _ = true then _ else _)
        rw [show firS em S e = canon fun c => firE em c (S c) e from rfl, canon_or]
        refine ifD (fun c1 => ?_) (fun c1 => ?_)
        · walk_at "gn"
          refine ⟨G, Sub.new hp, ?_⟩
          have e1 : (fun c => f c || firE em c (S c) e) = fun c => if hd = "seq" then firSeq em c (S c) es else firAlt em c (S c) es := by
            funext c
            rw [← hf c, if_pos c1.1, firSeq]
            have := c1.2
            cases hme : mayE em e with
            | true => rw [hme] at this; cases this
            | false => simp
          rw [e1]
          exact q
        · walk_at "gn"
          refine hN _ _ ⟨l, _, _, rfl, fun e' h' => hm e' (List.mem_cons_of_mem _ h'), rfl, rfl, fun c => ?_⟩
          rw [← hf c]
          by_cases hs : hd = "seq"
          · rw [if_pos hs, if_pos hs, firSeq]
            have : mayE em e = true := by
              cases hme : mayE em e with
              | true => rfl
              | false => exact absurd ⟨hs, by rw [hme]; rfl⟩ c1
            rw [this, Bool.true_and, Bool.or_assoc]
          · rw [if_neg hs, if_neg hs, firAlt, Bool.or_assoc]
  · rintro ρ G' ⟨l, f, lp, hl, hm, rfl, rfl, hf⟩
    cases l with
    | cons e l => cases hl
    | nil =>
      walk_at "gn"
      refine ⟨G, Sub.new hp, ?_⟩
      have e1 : f = fun c => if hd = "seq" then firSeq em c (S c) es else firAlt em c (S c) es := by
        funext c
        rw [← hf c]
        by_cases hs : hd = "seq"
        · rw [if_pos hs]; simp [firSeq]
        · rw [if_neg hs]; simp [firAlt]
      rw [e1]
      exact q

theorem firS_text {s : Str} {em : List Str} {S : Nat → List Str} (h : firOk (.text s) = true) : ∃ c, L2.atI s.cps.toList 0 = some c ∧ s.length ≤ sizeLine ∧ firS em S (.text s) = ⟨#[c]⟩ ∧ c ∈ CH := by
  simp only [firOk, Bool.and_eq_true, decide_eq_true_eq] at h
  obtain ⟨⟨h1, h3⟩, h2⟩ := h
  obtain ⟨a⟩ := s
  obtain ⟨l⟩ := a
  cases l with
  | nil => exact absurd h1 (by decide)
  | cons c r =>
    simp only [List.all_cons, Bool.and_eq_true, decide_eq_true_eq] at h2
    refine ⟨c, at0, by rw [sizeLine_eq]; omega, ?_, h2.1⟩
    unfold firS
    exact canon_one h2.1
theorem firS_set {s : Str} {em : List Str} {S : Nat → List Str} (h : firOk (.set s) = true) : firS em S (.set s) = s := by
  simp only [firOk, canB] at h
  exact (eq_of_beq h).symm
theorem pure_firsts_in (n : Nat) (ds : List D) (G : Gp) (Q : DK) (E : DX) (h : spFir (n + 1) ds G Q E) : t_firsts_in spParts spJoined (spFir n) (spMay n) (fnEnds Q) (dstart N_firsts_in ds) G := by
  obtain ⟨e, x, t, em, g, S, rfl, hx, ht, hd, hw, hf, hcl, q⟩ := h
  cases e with
  | any =>
    rw [dE]; unfold t_firsts_in
    walk_at "go"
    refine st_fin ?_
    have : firS em S .any = CHS := canon_all
    rw [this] at q
    exact q
  | set s =>
    rw [firS_set hf] at q
    rw [dE]; unfold t_firsts_in
    walk_at "go"
    exact st_fin q
  | text s =>
    obtain ⟨c, h1, h2, h3, _⟩ := firS_text (em := em) (S := S) hf
    rw [h3] at q
    rw [dE]; unfold t_firsts_in
    walk_at "go"
    exact st_ix_str h2 h1 (st_fin q)
  | call m =>
    rw [dE]; unfold t_firsts_in
    walk_at "go"
    exact st_dget (k := .inr m) rfl ht (tab_val (hcl m (by simp [callsE]))) (st_fin q)
  | seq es =>
    rw [dE]; unfold t_firsts_in
    walk_at "go"
    refine ⟨.seq es, by rw [dE], fun p hp => ?_⟩
    refine ⟨_, gup_same, ?_⟩
    simp only [dep, callsE, firOk] at hd hcl hf
    exact firsts_loop (hd := "seq") (es := es) hx ht ⟨fun e h => by have := dep_mem h; omega, fun e h => wides_mem h hw.2, fun e h => firOks_mem h hf, fun e h c hc => hcl c (calls_mem h hc)⟩
      (by rw [show (fun c => if ("seq" : Str) = "seq" then firSeq em c (S c) es else firAlt em c (S c) es) = fun c => firE em c (S c) (.seq es) by funext c; rw [if_pos rfl, firE]]; exact q) p hp _
  | alt es =>
    rw [dE]; unfold t_firsts_in
    walk_at "go"
    refine ⟨.alt es, by rw [dE], fun p hp => ?_⟩
    refine ⟨_, gup_same, ?_⟩
    simp only [dep, callsE, firOk] at hd hcl hf
    exact firsts_loop (hd := "alt") (es := es) hx ht ⟨fun e h => by have := dep_mem h; omega, fun e h => wides_mem h hw.2, fun e h => firOks_mem h hf, fun e h c hc => hcl c (calls_mem h hc)⟩
      (by rw [show (fun c => if ("alt" : Str) = "seq" then firSeq em c (S c) es else firAlt em c (S c) es) = fun c => firE em c (S c) (.alt es) by funext c; rw [if_neg (by decide +kernel), firE]]; exact q) p hp _
  | star e =>
    rw [dE]; unfold t_firsts_in
    walk_at "go"
    refine ⟨(.star e), by rw [dE], fun p hp => ?_⟩
    refine ⟨_, gup_same, ?_⟩
    simp only [dep, callsE, firOk] at hd hcl hf
    exact firsts_loop (hd := "star") (es := [e]) hx ht ⟨fun e h => by have := List.mem_singleton.mp h; subst this; omega, fun e h => by have := List.mem_singleton.mp h; subst this; exact hw, fun e h => by have := List.mem_singleton.mp h; subst this; exact hf, fun e h => by have := List.mem_singleton.mp h; subst this; exact hcl⟩
      (by rw [show (fun c => if ("star" : Str) = "seq" then firSeq em c (S c) [e] else firAlt em c (S c) [e]) = fun c => firE em c (S c) (.star e) by funext c; rw [if_neg (by decide +kernel), firE, firAlt, firAlt, Bool.or_false]]; exact q) p hp _
  | opt e =>
    rw [dE]; unfold t_firsts_in
    walk_at "go"
    refine ⟨(.opt e), by rw [dE], fun p hp => ?_⟩
    refine ⟨_, gup_same, ?_⟩
    simp only [dep, callsE, firOk] at hd hcl hf
    exact firsts_loop (hd := "opt") (es := [e]) hx ht ⟨fun e h => by have := List.mem_singleton.mp h; subst this; omega, fun e h => by have := List.mem_singleton.mp h; subst this; exact hw, fun e h => by have := List.mem_singleton.mp h; subst this; exact hf, fun e h => by have := List.mem_singleton.mp h; subst this; exact hcl⟩
      (by rw [show (fun c => if ("opt" : Str) = "seq" then firSeq em c (S c) [e] else firAlt em c (S c) [e]) = fun c => firE em c (S c) (.opt e) by funext c; rw [if_neg (by decide +kernel), firE, firAlt, firAlt, Bool.or_false]]; exact q) p hp _
  | mark l e =>
    rw [dE]; unfold t_firsts_in
    walk_at "go"
    refine ⟨(.mark l e), by rw [dE], fun p hp => ?_⟩
    refine ⟨_, gup_same, ?_⟩
    simp only [dep, callsE, firOk] at hd hcl hf
    exact firsts_loop (hd := "mark") (es := [e]) hx ht ⟨fun e h => by have := List.mem_singleton.mp h; subst this; omega, fun e h => by have := List.mem_singleton.mp h; subst this; exact hw, fun e h => by have := List.mem_singleton.mp h; subst this; exact hf, fun e h => by have := List.mem_singleton.mp h; subst this; exact hcl⟩
      (by rw [show (fun c => if ("mark" : Str) = "seq" then firSeq em c (S c) [e] else firAlt em c (S c) [e]) = fun c => firE em c (S c) (.mark l e) by funext c; rw [if_neg (by decide +kernel), firE, firAlt, firAlt, Bool.or_false]]; exact q) p hp _
  | _ =>
    rw [dE]; unfold t_firsts_in
    walk_at "go"
    refine st_fin ?_
    have : ∀ e : Ex, (∀ c, firE em c (S c) e = false) → firS em S e = "" := fun e h => by
      unfold firS
      rw [show (fun c => firE em c (S c) e) = fun _ => false from funext h]
      exact canon_none
    rw [this _ (fun c => by simp [firE])] at q
    exact q

end LW
namespace LW
open PySem L2 DL GX
def t_first_table (sp_empty_rules : DSp) (sp_firsts_in : DSp) : DTS :=
 dSeq (dAsg (dCall sp_empty_rules [] (dCons (dVar 0) (dNil))) (dgName 1))
 (dSeq (dAsg (dDc (sSeq (dVar 0)) 5 (dYes) (dOp rIxD (dVar 5) (dC (.int 0))) (dC (.str ""))) (dgName 2))
 (dSeq (dAsg (dC (.bl true)) (dgName 3))
 (dSeq (dWhile (dTruth (dVar 3))
 (dSeq (dAsg (dDc (sSeq (dVar 0)) 5 (dYes) (dOp rIxD (dVar 5) (dC (.int 0))) (dCall sp_firsts_in [] (dCons (dOp rIxD (dVar 5) (dC (.int 1))) (dCons (dVar 1) (dCons (dVar 2) (dNil)))))) (dgName 4))
 (dSeq (dAsg (dOp (rDictE true) (dVar 4) (dVar 2)) (dgName 3))
 (dAsg (dVar 4) (dgName 2)))))
 (dRet (dVar 2)))))
abbrev N_first_table : List Str := ["grammar", "empty", "table", "more", "found", "rule"]

def t_firsts (sp_firsts_in : DSp) (sp_first_table : DSp) (sp_empty_rules : DSp) : DTS :=
 dRet (dCall sp_firsts_in [] (dCons (dVar 1) (dCons (dCall sp_empty_rules [] (dCons (dVar 0) (dNil))) (dCons (dCall sp_first_table [] (dCons (dVar 0) (dNil))) (dNil)))))
abbrev N_firsts : List Str := ["grammar", "expression"]

local macro_rules | `(tactic| walk_at "go1") => `(tactic| first
  | with_reducible refine st_seq ?_ | with_reducible refine st_asg ?_ | with_reducible refine st_name ?_
  | (with_reducible refine st_v ?_; refine ⟨_, rfl, ?_⟩) | with_reducible refine st_c ?_ | with_reducible refine st_op ?_ | with_reducible refine st_test ?_ | with_reducible refine st_tk ?_
  | with_reducible refine st_if ?_ | with_reducible refine st_rt ?_ | with_reducible refine st_nil ?_ | with_reducible refine st_cons ?_ | with_reducible refine st_tup ?_
  | with_reducible refine st_sz sm1 ?_ | with_reducible refine st_sz sm2 ?_ | with_reducible refine st_sz sm3 ?_ | with_reducible refine st_sz sm0 ?_ | with_reducible refine st_sz sm4 ?_ | with_reducible refine st_sz sm5 ?_
  | with_reducible refine st_eq_str ?_ | with_reducible refine st_eq_int ?_
  | with_reducible refine st_ix_tup at0 ?_ | with_reducible refine st_ix_tup at1 ?_ | with_reducible refine st_ix_tup at2 ?_
  | with_reducible refine ifDt (by decide +kernel) ?_ | with_reducible refine ifDf (by decide +kernel) ?_ | with_reducible refine ifT (by decide +kernel) ?_ | with_reducible refine ifF (by decide +kernel) ?_
  | with_reducible refine st_in_tup rfl rfl ?_ | with_reducible refine st_next ?_
  | with_reducible refine st_truth ?_ | with_reducible refine st_tr_bl ?_ | with_reducible refine st_tr_tup ?_ | with_reducible refine st_and ?_ | with_reducible refine st_or ?_ | with_reducible refine st_not ?_
  | with_reducible refine st_cb ?_ | with_reducible refine st_call ?_ | with_reducible refine st_app ?_ | with_reducible refine st_drop ?_ | with_reducible refine st_ml ?_
  | with_reducible refine st_lt ?_ | with_reducible refine st_le ?_ | with_reducible refine st_gt ?_ | with_reducible refine st_ge ?_ | with_reducible refine st_add ?_ | with_reducible refine st_sub ?_
  | with_reducible refine st_ne_bl ?_ | with_reducible refine st_eq_bl ?_ | with_reducible refine st_isi_blb ?_ | with_reducible refine st_ne_str ?_ | with_reducible refine st_ne_int ?_ | with_reducible refine st_lst ?_ | with_reducible refine st_len_tup ?_ | with_reducible refine st_int ?_ | with_reducible refine st_int_bl ?_ | with_reducible refine st_abs ?_
  | with_reducible refine st_for ?_ | with_reducible refine st_lc ?_ | with_reducible refine st_sseq ?_ | with_reducible refine st_it_tup ?_ | with_reducible refine st_it_str ?_ | with_reducible refine st_it_rol ?_
  | with_reducible refine st_rng1 ?_ | with_reducible refine st_rng2 ?_ | with_reducible refine st_slice ?_ | with_reducible refine st_nopart ?_ | with_reducible refine st_part ?_ | with_reducible refine st_pk ?_
  | with_reducible refine st_gtup rfl ?_ | with_reducible refine st_gcons ?_ | with_reducible refine st_gnil ?_ | with_reducible refine st_gsub ?_ | with_reducible refine st_ife ?_ | with_reducible refine st_andV ?_ | with_reducible refine st_orV ?_ | with_reducible refine st_notV ?_ | with_reducible refine st_bk ?_
  | with_reducible refine st_isN_non ?_ | with_reducible refine st_isN_tup ?_ | with_reducible refine st_notN_non ?_ | with_reducible refine st_notN_tup ?_ | with_reducible refine st_rtN ?_ | with_reducible refine st_brk ?_ | with_reducible refine st_cnt ?_ | with_reducible refine st_yes ?_
  | with_reducible refine st_join ?_ | with_reducible refine st_sk ?_ | with_reducible refine st_neg ?_ | with_reducible refine st_dc ?_ | with_reducible refine st_chain ?_ | with_reducible refine st_inS ?_ | with_reducible refine st_notInS ?_ | with_reducible refine st_listA_tup ?_)
local macro_rules | `(tactic| walk_at "go") => `(tactic| repeat walk_at "go1")
local macro_rules | `(tactic| walk_at "gn1") => `(tactic| first
  | with_reducible refine st_seq ?_ | with_reducible refine st_asg ?_ | with_reducible refine st_name ?_
  | (with_reducible refine st_v ?_; refine ⟨_, rfl, ?_⟩) | with_reducible refine st_c ?_ | with_reducible refine st_op ?_ | with_reducible refine st_test ?_ | with_reducible refine st_tk ?_
  | with_reducible refine st_if ?_ | with_reducible refine st_rt ?_ | with_reducible refine st_nil ?_ | with_reducible refine st_cons ?_ | with_reducible refine st_tup ?_
  | with_reducible refine st_sz sm1 ?_ | with_reducible refine st_sz sm2 ?_ | with_reducible refine st_sz sm3 ?_ | with_reducible refine st_sz sm0 ?_ | with_reducible refine st_sz sm4 ?_ | with_reducible refine st_sz sm5 ?_
  | with_reducible refine st_eq_str ?_ | with_reducible refine st_eq_int ?_
  | with_reducible refine st_ix_tup at0 ?_ | with_reducible refine st_ix_tup at1 ?_ | with_reducible refine st_ix_tup at2 ?_
  | with_reducible refine ifDt (by decide +kernel) ?_ | with_reducible refine ifDf (by decide +kernel) ?_ | with_reducible refine ifT (by decide +kernel) ?_ | with_reducible refine ifF (by decide +kernel) ?_
  | with_reducible refine st_in_tup rfl rfl ?_ | with_reducible refine st_next ?_
  | with_reducible refine st_truth ?_ | with_reducible refine st_tr_bl ?_ | with_reducible refine st_tr_tup ?_ | with_reducible refine st_not ?_
  | with_reducible refine st_cb ?_ | with_reducible refine st_call ?_ | with_reducible refine st_app ?_ | with_reducible refine st_drop ?_ | with_reducible refine st_ml ?_
  | with_reducible refine st_lt ?_ | with_reducible refine st_le ?_ | with_reducible refine st_gt ?_ | with_reducible refine st_ge ?_ | with_reducible refine st_add ?_ | with_reducible refine st_sub ?_
  | with_reducible refine st_ne_bl ?_ | with_reducible refine st_eq_bl ?_ | with_reducible refine st_isi_blb ?_ | with_reducible refine st_ne_str ?_ | with_reducible refine st_ne_int ?_ | with_reducible refine st_lst ?_ | with_reducible refine st_len_tup ?_ | with_reducible refine st_int ?_ | with_reducible refine st_int_bl ?_ | with_reducible refine st_abs ?_
  | with_reducible refine st_for ?_ | with_reducible refine st_lc ?_ | with_reducible refine st_sseq ?_ | with_reducible refine st_it_tup ?_ | with_reducible refine st_it_str ?_ | with_reducible refine st_it_rol ?_
  | with_reducible refine st_rng1 ?_ | with_reducible refine st_rng2 ?_ | with_reducible refine st_slice ?_ | with_reducible refine st_nopart ?_ | with_reducible refine st_part ?_ | with_reducible refine st_pk ?_
  | with_reducible refine st_gtup rfl ?_ | with_reducible refine st_gcons ?_ | with_reducible refine st_gnil ?_ | with_reducible refine st_gsub ?_ | with_reducible refine st_ife ?_ | with_reducible refine st_andV ?_ | with_reducible refine st_orV ?_ | with_reducible refine st_notV ?_ | with_reducible refine st_bk ?_
  | with_reducible refine st_isN_non ?_ | with_reducible refine st_isN_tup ?_ | with_reducible refine st_notN_non ?_ | with_reducible refine st_notN_tup ?_ | with_reducible refine st_rtN ?_ | with_reducible refine st_brk ?_ | with_reducible refine st_cnt ?_ | with_reducible refine st_yes ?_
  | with_reducible refine st_join ?_ | with_reducible refine st_sk ?_ | with_reducible refine st_neg ?_ | with_reducible refine st_dc ?_ | with_reducible refine st_chain ?_ | with_reducible refine st_inS ?_ | with_reducible refine st_notInS ?_ | with_reducible refine st_listA_tup ?_)
local macro_rules | `(tactic| walk_at "gn") => `(tactic| repeat walk_at "gn1")

structure GrFir (n : Nat) (g : Gr) : Prop where
  ok : GrOk n g
  fir : ∀ r ∈ g, firOk r.2 = true
  calls : ∀ r ∈ g, ∀ c ∈ callsE r.2, c ∈ g.map (·.1)
  nodup : (g.map (·.1)).Nodup
/-- the least table -/
def lstF (g : Gr) : Nat → List Str := fun c => lst (firE (emp g) c) g
def itF (g : Gr) (k : Nat) : Nat → List Str := fun c => itf (firE (emp g) c) g k
def spTab (n : Nat) : DSp := fun ds G Q _ => ∃ g : Gr, ds = [dG g] ∧ GrFir n g ∧ ∀ t, G t = none → Q (.ref t) (gup G t (.dK (tabK g (lstF g))))
def spFirsts (n : Nat) : DSp := fun ds G Q _ => ∃ (g : Gr) (e : Ex), ds = [dG g, dE e] ∧ GrFir n g ∧ dep e ≤ n ∧ wide e ∧ firOk e = true ∧ (∀ c ∈ callsE e, c ∈ g.map (·.1)) ∧ Q (.str (firS (emp g) (lstF g) e)) G
theorem putD_new {kvs : List (Key × D)} {k : Key} {d : D} (h : k ∉ kvs.map (·.1)) : putD kvs k d = kvs ++ [(k, d)] := by
  unfold putD
  rw [if_neg]
  intro c
  rw [List.any_eq_true] at c
  obtain ⟨x, hx, e⟩ := c
  exact h (List.mem_map.mpr ⟨x, hx, of_decide_eq_true e⟩)
theorem dc_rules {tk tv : DTE} {i : Nat} {p : Addr} {fin : Gp → Prop} {ρ : Rho} {G : Gp} {g : Gr} (hp : G p = none) (hn : (g.map (·.1)).Nodup) (hz : g.length ≤ 16) (v : Str × Ex → D)
    (ht : ∀ r ∈ g, ∀ acc Q, Q (.str r.1) (gup G p (.dK acc)) → tk (ρ.set i (some (dR r))) (gup G p (.dK acc)) Q)
    (hv : ∀ r ∈ g, ∀ acc Q, Q (v r) (gup G p (.dK acc)) → tv (ρ.set i (some (dR r))) (gup G p (.dK acc)) Q) (h : fin (gup G p (.dK (g.map fun r => (.inr r.1, v r))))) :
    dDcL (fun _ => True) i dYes tk tv p fin ρ (g.map dR) (gup G p (.dK [])) := by
  have hs : ∀ (a l : Gr), a ++ l = g → dDcL (fun _ => True) i dYes tk tv p fin ρ (l.map dR) (gup G p (.dK (a.map fun r => (.inr r.1, v r)))) := by
    intro a l
    induction l generalizing a with
    | nil => intro e; rw [List.append_nil] at e; subst e; exact ⟨trivial, h⟩
    | cons r l ih =>
      intro e
      have hr : r ∈ g := by rw [← e]; simp
      refine ⟨trivial, ?_⟩
      show tk (ρ.set i (some (dR r))) _ _
      refine ht r hr _ _ (hv r hr _ _ ⟨.inr r.1, _, rfl, gup_same, ?_, ?_⟩)
      · rw [List.length_map, sizeLine_eq]
        have : a.length + (r :: l).length = g.length := by rw [← e, List.length_append]
        omega
      · rw [gup_gup, putD_new]
        · have := ih (a ++ [r]) (by simpa using e)
          simpa using this
        · intro c
          rw [List.map_map, List.mem_map] at c
          obtain ⟨x, hx, e2⟩ := c
          have e2 : x.1 = r.1 := Sum.inr.inj e2
          rw [← e, List.map_append, List.map_cons, List.nodup_append] at hn
          exact hn.2.2 x.1 (List.mem_map_of_mem hx) r.1 List.mem_cons_self e2
  exact hs [] g rfl
theorem tab_eq {g : Gr} {S S' : Nat → List Str} : dictEq (tabK g S) (tabK g S') = decide (∀ r ∈ g, ∀ c ∈ CH, (r.1 ∈ S c ↔ r.1 ∈ S' c)) := by
  rw [Bool.eq_iff_iff, decide_eq_true_eq]
  unfold dictEq
  rw [Bool.and_eq_true, List.all_eq_true]
  constructor
  · rintro ⟨_, h⟩ r hr c hc
    have := h (.inr r.1, .str (canon fun c => decide (r.1 ∈ S c))) (List.mem_map.mpr ⟨r, hr, rfl⟩)
    simp only [tab_val (List.mem_map_of_mem hr), eqD] at this
    have e := canon_eq.mp (eq_of_beq this) c hc
    rw [Bool.eq_iff_iff, decide_eq_true_eq, decide_eq_true_eq] at e
    exact e
  · intro h
    refine ⟨by simp [tabK], fun p hp => ?_⟩
    obtain ⟨r, hr, rfl⟩ := List.mem_map.mp hp
    simp only [tab_val (List.mem_map_of_mem hr), eqD]
    have : (canon fun c => decide (r.1 ∈ S c)) = canon fun c => decide (r.1 ∈ S' c) := by
      rw [canon_eq]
      intro c hc
      rw [Bool.eq_iff_iff, decide_eq_true_eq, decide_eq_true_eq]
      exact h r hr c hc
    rw [this]; exact beq_self_eq_true _
theorem tab_txt {g : Gr} {S : Nat → List Str} : ∀ p ∈ tabK g S, txtD p.2 = true := fun p hp => by
  obtain ⟨r, _, rfl⟩ := List.mem_map.mp hp
  rfl
theorem tab_congr {g : Gr} {S S' : Nat → List Str} (h : ∀ c ∈ CH, ∀ x, x ∈ S c ↔ x ∈ S' c) : tabK g S = tabK g S' := by
  unfold tabK
  refine List.map_congr_left fun r _ => ?_
  have : (canon fun c => decide (r.1 ∈ S c)) = canon fun c => decide (r.1 ∈ S' c) := by
    rw [canon_eq]
    intro c hc
    rw [Bool.eq_iff_iff, decide_eq_true_eq, decide_eq_true_eq]
    exact h c hc r.1
  rw [this]
theorem itf_names {f : List Str → Ex → Bool} {g : Gr} {k : Nat} {x : Str} (h : x ∈ itf f g k) : x ∈ g.map (·.1) := by
  cases k with
  | zero => cases h
  | succ k =>
    obtain ⟨r, hr, _, e⟩ := mem_rnd.mp h
    exact List.mem_map.mpr ⟨r, hr, e⟩
/-- the next table -/
theorem next_tab {g : Gr} (hn : (g.map (·.1)).Nodup) (k : Nat) : (g.map fun r => ((Sum.inr r.1 : Key), D.str (firS (emp g) (itF g k) r.2))) = tabK g (itF g (k + 1)) := by
  unfold tabK
  refine List.map_congr_left fun r hr => ?_
  have : firS (emp g) (itF g k) r.2 = canon fun c => decide (r.1 ∈ itF g (k + 1) c) := by
    unfold firS
    rw [canon_eq]
    intro c _
    rw [Bool.eq_iff_iff, decide_eq_true_eq]
    show _ ↔ r.1 ∈ rnd _ g _
    rw [mem_rnd]
    constructor
    · intro h; exact ⟨r, hr, h, rfl⟩
    · rintro ⟨r', hr', h, e⟩
      have : r' = r := by
        have hnd : ∀ (l : Gr), (l.map (·.1)).Nodup → r ∈ l → r' ∈ l → r' = r := by
          intro l
          induction l with
          | nil => intro _ h _; cases h
          | cons a l ih =>
            intro hn h1 h2
            rw [List.map_cons, List.nodup_cons] at hn
            rcases List.mem_cons.mp h1 with e1 | m1 <;> rcases List.mem_cons.mp h2 with e2 | m2
            · rw [e1, e2]
            · subst e1; exact absurd (by rw [← e]; exact List.mem_map_of_mem m2) hn.1
            · subst e2; exact absurd (by rw [e]; exact List.mem_map_of_mem m1) hn.1
            · exact ih hn.2 m1 m2
        exact hnd g hn hr hr'
      subst this
      exact h
  rw [this]
theorem pure_table (n : Nat) (ds : List D) (G : Gp) (Q : DK) (E : DX) (h : spTab n ds G Q E) : t_first_table (spEmp n) (spFir n) (fnEnds Q) (dstart N_first_table ds) G := by
  obtain ⟨g, rfl, hg, q⟩ := h
  unfold t_first_table
  walk_at "go"
  refine ⟨g, rfl, hg.ok, fun a ha => ?_⟩
  walk_at "go"
  intro t0 ht0
  have hat : a ≠ t0 := gne gup_same ht0
  refine dc_rules ht0 hg.nodup hg.ok.len (fun _ => .str "") (fun r hr acc Q h => ?_) (fun r hr acc Q h => ?_) ?_
  · unfold dR
    walk_at "go"
    exact h
  · walk_at "go"
    exact h
  have e0 : (g.map fun r => ((Sum.inr r.1 : Key), D.str "")) = tabK g (itF g 0) := by
    unfold tabK
    refine List.map_congr_left fun r _ => ?_
    show _ = (_, D.str (canon fun c => decide (r.1 ∈ [])))
    rw [show (fun c : Nat => decide (r.1 ∈ ([] : List Str))) = fun _ => false by funext c; simp, canon_none]
  rw [e0]
  walk_at "go"
  have ht0' : G t0 = none := Sub.free' (Sub.new ha) ht0
  refine st_while ⟨fun m ρ G' => ∃ (k : Nat) (b : Bool) (t : Addr) (fo : Option D), ρ = [some (dG g), some (.ref a), some (.ref t), some (.bl b), fo, none] ∧ Sub G G' ∧ G t = none ∧ G' a = some (.lst ((emp g).map .str)) ∧ G' t = some (.dK (tabK g (itF g k))) ∧
    (b = true → k ≤ g.length ∧ m = g.length + 1 - k) ∧ (b = false → ∀ c ∈ CH, ∀ x, x ∈ lstF g c ↔ x ∈ itF g k c), ⟨g.length + 1, 0, true, t0, none, rfl, sub_gup (Sub.new ha) ht0, ht0', by rw [gup_ne hat]; exact gup_same, gup_same, fun _ => ⟨Nat.zero_le _, rfl⟩, (fun z => nomatch z)⟩, ?_⟩
  rintro m ρ G' ⟨k, b, t, fo, rfl, hs, htn, ga, gt, h1, h2⟩
  walk_at "go"
  cases b with
  | false =>
    refine ifF rfl ?_
    walk_at "go"
    refine ⟨gup G t (.dK (tabK g (lstF g))), fun c o e => ?_, q t htn⟩
    by_cases hc : c = t
    · subst hc; rw [gup_same] at e; cases e
      rw [gt, tab_congr (h2 rfl)]
    · rw [gup_ne hc] at e; exact hs c o e
  | true =>
    obtain ⟨hk, hm⟩ := h1 rfl
    refine ifT rfl ⟨fun ρ' G'' => ∃ m', m' < m ∧ ∃ (k : Nat) (b : Bool) (t : Addr) (fo : Option D), ρ' = [some (dG g), some (.ref a), some (.ref t), some (.bl b), fo, none] ∧ Sub G G'' ∧ G t = none ∧ G'' a = some (.lst ((emp g).map .str)) ∧ G'' t = some (.dK (tabK g (itF g k))) ∧
      (b = true → k ≤ g.length ∧ m' = g.length + 1 - k) ∧ (b = false → ∀ c ∈ CH, ∀ x, x ∈ lstF g c ↔ x ∈ itF g k c), fun ρ' G'' z => z, ?_⟩
    walk_at "go"
    intro p hp
    have hpt : t ≠ p := gne gt hp
    have hpa : a ≠ p := gne ga hp
    refine dc_rules hp hg.nodup hg.ok.len (fun r => .str (firS (emp g) (itF g k) r.2)) (fun r hr acc Q h => ?_) (fun r hr acc Q h => ?_) ?_
    · unfold dR
      walk_at "go"
      exact h
    · unfold dR
      walk_at "go"
      exact ⟨r.2, .ref a, t, emp g, g, itF g k, rfl, itemsD_gup (itemsD_ref ga) hp, gup_at gt hp, hg.ok.dep r hr, hg.ok.wide r hr, hg.fir r hr, hg.calls r hr, h⟩
    rw [next_tab hg.nodup]
    walk_at "go"
    refine st_neD gup_same (gup_at gt hp) tab_txt tab_txt ?_
    walk_at "go"
    rw [tab_eq]
    have hp' : G p = none := hs.free' hp
    by_cases e : ∀ r ∈ g, ∀ c ∈ CH, (r.1 ∈ itF g (k + 1) c ↔ r.1 ∈ itF g k c)
    · refine ⟨0, by omega, k + 1, false, p, some (.ref p), ?_, sub_gup hs hp, hp', gup_at ga hp, gup_same, (fun z => nomatch z), fun _ c hc x => ?_⟩
      · rw [decide_eq_true e]; rfl
      · have hd := itf_done (g := g) (f := firE (emp g) c) (k := k) (firE_mon _ _) fun x hx => by
          obtain ⟨r, hr, rfl⟩ := List.mem_map.mp (itf_names hx)
          exact (e r hr c hc).mp hx
        rw [show lstF g c = lst (firE (emp g) c) g from rfl, hd x]
        constructor
        · intro hx; exact (itf_sub (firE_mon _ _) k).subset hx
        · intro hx
          obtain ⟨r, hr, rfl⟩ := List.mem_map.mp (itf_names hx)
          exact (e r hr c hc).mp hx
    · have hlt : k < g.length := by
        rcases Nat.lt_or_ge k g.length with c | c
        · exact c
        · refine absurd (fun r hr c' hc => ?_) e
          show r.1 ∈ itf _ g (k + 1) ↔ r.1 ∈ itf _ g k
          rw [itf_stab (firE_mon _ _) (k + 1) (by omega), itf_stab (firE_mon _ _) k c]
      refine ⟨g.length + 1 - (k + 1), by omega, k + 1, true, p, some (.ref p), ?_, sub_gup hs hp, hp', gup_at ga hp, gup_same, fun _ => ⟨by omega, rfl⟩, (fun z => nomatch z)⟩
      rw [decide_eq_false e]; rfl
theorem pure_firsts (n : Nat) (ds : List D) (G : Gp) (Q : DK) (E : DX) (h : spFirsts n ds G Q E) : t_firsts (spFir n) (spTab n) (spEmp n) (fnEnds Q) (dstart N_firsts ds) G := by
  obtain ⟨g, e, rfl, hg, hd, hw, hf, hc, q⟩ := h
  unfold t_firsts
  walk_at "go"
  refine ⟨g, rfl, hg.ok, fun a ha => ?_⟩
  walk_at "go"
  refine ⟨g, rfl, hg, fun t ht => ?_⟩
  walk_at "go"
  exact ⟨e, .ref a, t, emp g, g, lstF g, rfl, itemsD_gup itemsD_same ht, gup_same, hd, hw, hf, hc, G, sub_gup (Sub.new ha) ht, q⟩

end LW
namespace LW
open PySem L2 DL GX
def t_law_parts : DTS :=
 dSeq (dIfS (dOr (dTest (dOp rEq (dOp rIxD (dVar 0) (dC (.int 0))) (dC (.str "seq")))) (dTest (dOp rEq (dOp rIxD (dVar 0) (dC (.int 0))) (dC (.str "alt")))))
 (dRet (dCB cListA (dCons (dOp rIxD (dVar 0) (dC (.int 1))) (dNil))))
 (dNext))
 (dRet (dLst (dCons (dOp rIxD (dVar 0) (dNeg (dC (.int 1)))) (dNil))))
abbrev N_law_parts : List Str := ["_law_expression_here"]

def t_law_firsts (sp_law_parts : DSp) (sp_law_firsts : DSp) (sp_law_empty : DSp) : DTS :=
 dSeq (dAsg (dOp rIxD (dVar 0) (dC (.int 0))) (dgName 3))
 (dSeq (dIfS (dTest (dOp rEq (dVar 3) (dC (.str "any"))))
 (dRet (dCB cListA (dCons (dC (.str " !\"#$&'()*+,-./0123456789:;<=>?@ABCDEFGHIJKLMNOPQRSTUVWXYZ[\\]^_`abcdefghijklmnopqrstuvwxyz{|}~")) (dNil))))
 (dNext))
 (dSeq (dIfS (dTest (dOp rEq (dVar 3) (dC (.str "set"))))
 (dRet (dCB cListA (dCons (dOp rIxD (dVar 0) (dC (.int 1))) (dNil))))
 (dNext))
 (dSeq (dIfS (dTest (dOp rEq (dVar 3) (dC (.str "text"))))
 (dRet (dLst (dCons (dOp rIxD (dOp rIxD (dVar 0) (dC (.int 1))) (dC (.int 0))) (dNil))))
 (dNext))
 (dSeq (dIfS (dTest (dOp rEq (dVar 3) (dC (.str "call"))))
 (dRet (dOp rDget (dVar 1) (dOp rIxD (dVar 0) (dC (.int 1)))))
 (dNext))
 (dSeq (dIfS (dTest (dOp (rInSeq false) (dVar 3) (dTup (dCons (dC (.str "eps")) (dCons (dC (.str "fail")) (dCons (dC (.str "not")) (dCons (dC (.str "and")) (dNil))))))))
 (dRet (dLst (dNil)))
 (dNext))
 (dSeq (dAsg (dLst (dNil)) (dgName 4))
 (dSeq (dFor (sSeq (dCall sp_law_parts [] (dCons (dVar 0) (dNil)))) (dgName 5)
 (dSeq (dAsg (dOp rAdd (dVar 4) (dLc (sSeq (dCall sp_law_firsts [] (dCons (dVar 5) (dCons (dVar 1) (dCons (dVar 2) (dNil)))))) 6 (dTest (dOp (rInSeq true) (dVar 6) (dVar 4))) (dVar 6))) (dgName 4))
 (dIfS (dAnd (dTest (dOp rEq (dVar 3) (dC (.str "seq")))) (dNot (dTruth (dCall sp_law_empty [] (dCons (dVar 5) (dCons (dVar 2) (dNil)))))))
 (dRet (dVar 4))
 (dNext))))
 (dRet (dVar 4)))))))))
abbrev N_law_firsts : List Str := ["_law_expression_here", "_law_table", "_law_empty_here", "_law_head", "_law_found", "_law_part", "_law_char"]

local macro_rules | `(tactic| walk_at "go1") => `(tactic| first
  | with_reducible refine st_seq ?_ | with_reducible refine st_asg ?_ | with_reducible refine st_name ?_
  | (with_reducible refine st_v ?_; refine ⟨_, rfl, ?_⟩) | with_reducible refine st_c ?_ | with_reducible refine st_op ?_ | with_reducible refine st_test ?_ | with_reducible refine st_tk ?_
  | with_reducible refine st_if ?_ | with_reducible refine st_rt ?_ | with_reducible refine st_nil ?_ | with_reducible refine st_cons ?_ | with_reducible refine st_tup ?_
  | with_reducible refine st_sz sm1 ?_ | with_reducible refine st_sz sm2 ?_ | with_reducible refine st_sz sm3 ?_ | with_reducible refine st_sz sm0 ?_ | with_reducible refine st_sz sm4 ?_ | with_reducible refine st_sz sm5 ?_
  | with_reducible refine st_eq_str ?_ | with_reducible refine st_eq_int ?_
  | with_reducible refine st_ix_tup at0 ?_ | with_reducible refine st_ix_tup at1 ?_ | with_reducible refine st_ix_tup at2 ?_
  | with_reducible refine ifDt (by decide +kernel) ?_ | with_reducible refine ifDf (by decide +kernel) ?_ | with_reducible refine ifT (by decide +kernel) ?_ | with_reducible refine ifF (by decide +kernel) ?_
  | with_reducible refine st_in_tup rfl rfl ?_ | with_reducible refine st_next ?_
  | with_reducible refine st_truth ?_ | with_reducible refine st_tr_bl ?_ | with_reducible refine st_tr_tup ?_ | with_reducible refine st_and ?_ | with_reducible refine st_or ?_ | with_reducible refine st_not ?_
  | with_reducible refine st_cb ?_ | with_reducible refine st_call ?_ | with_reducible refine st_app ?_ | with_reducible refine st_drop ?_ | with_reducible refine st_ml ?_
  | with_reducible refine st_lt ?_ | with_reducible refine st_le ?_ | with_reducible refine st_gt ?_ | with_reducible refine st_ge ?_ | with_reducible refine st_add ?_ | with_reducible refine st_sub ?_
  | with_reducible refine st_ne_bl ?_ | with_reducible refine st_eq_bl ?_ | with_reducible refine st_isi_blb ?_ | with_reducible refine st_ne_str ?_ | with_reducible refine st_ne_int ?_ | with_reducible refine st_lst ?_ | with_reducible refine st_len_tup ?_ | with_reducible refine st_int ?_ | with_reducible refine st_int_bl ?_ | with_reducible refine st_abs ?_
  | with_reducible refine st_for ?_ | with_reducible refine st_lc ?_ | with_reducible refine st_sseq ?_ | with_reducible refine st_it_tup ?_ | with_reducible refine st_it_str ?_ | with_reducible refine st_it_rol ?_
  | with_reducible refine st_rng1 ?_ | with_reducible refine st_rng2 ?_ | with_reducible refine st_slice ?_ | with_reducible refine st_nopart ?_ | with_reducible refine st_part ?_ | with_reducible refine st_pk ?_
  | with_reducible refine st_gtup rfl ?_ | with_reducible refine st_gcons ?_ | with_reducible refine st_gnil ?_ | with_reducible refine st_gsub ?_ | with_reducible refine st_ife ?_ | with_reducible refine st_andV ?_ | with_reducible refine st_orV ?_ | with_reducible refine st_notV ?_ | with_reducible refine st_bk ?_
  | with_reducible refine st_isN_non ?_ | with_reducible refine st_isN_tup ?_ | with_reducible refine st_notN_non ?_ | with_reducible refine st_notN_tup ?_ | with_reducible refine st_rtN ?_ | with_reducible refine st_brk ?_ | with_reducible refine st_cnt ?_ | with_reducible refine st_yes ?_
  | with_reducible refine st_join ?_ | with_reducible refine st_sk ?_ | with_reducible refine st_neg ?_ | with_reducible refine st_dc ?_ | with_reducible refine st_chain ?_ | with_reducible refine st_inS ?_ | with_reducible refine st_notInS ?_ | with_reducible refine st_listA_tup ?_)
local macro_rules | `(tactic| walk_at "go") => `(tactic| repeat walk_at "go1")
local macro_rules | `(tactic| walk_at "gn1") => `(tactic| first
  | with_reducible refine st_seq ?_ | with_reducible refine st_asg ?_ | with_reducible refine st_name ?_
  | (with_reducible refine st_v ?_; refine ⟨_, rfl, ?_⟩) | with_reducible refine st_c ?_ | with_reducible refine st_op ?_ | with_reducible refine st_test ?_ | with_reducible refine st_tk ?_
  | with_reducible refine st_if ?_ | with_reducible refine st_rt ?_ | with_reducible refine st_nil ?_ | with_reducible refine st_cons ?_ | with_reducible refine st_tup ?_
  | with_reducible refine st_sz sm1 ?_ | with_reducible refine st_sz sm2 ?_ | with_reducible refine st_sz sm3 ?_ | with_reducible refine st_sz sm0 ?_ | with_reducible refine st_sz sm4 ?_ | with_reducible refine st_sz sm5 ?_
  | with_reducible refine st_eq_str ?_ | with_reducible refine st_eq_int ?_
  | with_reducible refine st_ix_tup at0 ?_ | with_reducible refine st_ix_tup at1 ?_ | with_reducible refine st_ix_tup at2 ?_
  | with_reducible refine ifDt (by decide +kernel) ?_ | with_reducible refine ifDf (by decide +kernel) ?_ | with_reducible refine ifT (by decide +kernel) ?_ | with_reducible refine ifF (by decide +kernel) ?_
  | with_reducible refine st_in_tup rfl rfl ?_ | with_reducible refine st_next ?_
  | with_reducible refine st_truth ?_ | with_reducible refine st_tr_bl ?_ | with_reducible refine st_tr_tup ?_ | with_reducible refine st_not ?_
  | with_reducible refine st_cb ?_ | with_reducible refine st_call ?_ | with_reducible refine st_app ?_ | with_reducible refine st_drop ?_ | with_reducible refine st_ml ?_
  | with_reducible refine st_lt ?_ | with_reducible refine st_le ?_ | with_reducible refine st_gt ?_ | with_reducible refine st_ge ?_ | with_reducible refine st_add ?_ | with_reducible refine st_sub ?_
  | with_reducible refine st_ne_bl ?_ | with_reducible refine st_eq_bl ?_ | with_reducible refine st_isi_blb ?_ | with_reducible refine st_ne_str ?_ | with_reducible refine st_ne_int ?_ | with_reducible refine st_lst ?_ | with_reducible refine st_len_tup ?_ | with_reducible refine st_int ?_ | with_reducible refine st_int_bl ?_ | with_reducible refine st_abs ?_
  | with_reducible refine st_for ?_ | with_reducible refine st_lc ?_ | with_reducible refine st_sseq ?_ | with_reducible refine st_it_tup ?_ | with_reducible refine st_it_str ?_ | with_reducible refine st_it_rol ?_
  | with_reducible refine st_rng1 ?_ | with_reducible refine st_rng2 ?_ | with_reducible refine st_slice ?_ | with_reducible refine st_nopart ?_ | with_reducible refine st_part ?_ | with_reducible refine st_pk ?_
  | with_reducible refine st_gtup rfl ?_ | with_reducible refine st_gcons ?_ | with_reducible refine st_gnil ?_ | with_reducible refine st_gsub ?_ | with_reducible refine st_ife ?_ | with_reducible refine st_andV ?_ | with_reducible refine st_orV ?_ | with_reducible refine st_notV ?_ | with_reducible refine st_bk ?_
  | with_reducible refine st_isN_non ?_ | with_reducible refine st_isN_tup ?_ | with_reducible refine st_notN_non ?_ | with_reducible refine st_notN_tup ?_ | with_reducible refine st_rtN ?_ | with_reducible refine st_brk ?_ | with_reducible refine st_cnt ?_ | with_reducible refine st_yes ?_
  | with_reducible refine st_join ?_ | with_reducible refine st_sk ?_ | with_reducible refine st_neg ?_ | with_reducible refine st_dc ?_ | with_reducible refine st_chain ?_ | with_reducible refine st_inS ?_ | with_reducible refine st_notInS ?_ | with_reducible refine st_listA_tup ?_)
local macro_rules | `(tactic| walk_at "gn") => `(tactic| repeat walk_at "gn1")

def headed : Ex → Bool
  | .seq _ => true
  | .alt _ => true
  | .star _ => true
  | .opt _ => true
  | .nt _ => true
  | .an _ => true
  | .mark _ _ => true
  | _ => false
def spLParts : DSp := fun ds G Q _ => ∃ e : Ex, ds = [dE e] ∧ headed e = true ∧ ∀ p, G p = none → Q (.ref p) (gup G p (.lst (dEs (partsE e))))
theorem pure_lparts (ds : List D) (G : Gp) (Q : DK) (E : DX) (h : spLParts ds G Q E) : t_law_parts (fnEnds Q) (dstart N_law_parts ds) G := by
  obtain ⟨e, rfl, hh, q⟩ := h
  cases e with
  | seq es =>
    rw [dE]; unfold t_law_parts
    walk_at "go"
    exact fun p hp => st_fin (q p hp)
  | alt es =>
    rw [dE]; unfold t_law_parts
    walk_at "go"
    exact fun p hp => st_fin (q p hp)
  | eps => cases hh
  | fail => cases hh
  | any => cases hh
  | set _ => cases hh
  | text _ => cases hh
  | call _ => cases hh
  | mark l e =>
    rw [dE]; unfold t_law_parts
    walk_at "go"
    refine st_ix_tup (d := dE e) (by rfl) ?_
    walk_at "go"
    exact fun p hp => st_fin (q p hp)
  | star e =>
    rw [dE]; unfold t_law_parts
    walk_at "go"
    refine st_ix_tup (d := dE e) (by rfl) ?_
    walk_at "go"
    exact fun p hp => st_fin (q p hp)
  | opt e =>
    rw [dE]; unfold t_law_parts
    walk_at "go"
    refine st_ix_tup (d := dE e) (by rfl) ?_
    walk_at "go"
    exact fun p hp => st_fin (q p hp)
  | nt e =>
    rw [dE]; unfold t_law_parts
    walk_at "go"
    refine st_ix_tup (d := dE e) (by rfl) ?_
    walk_at "go"
    exact fun p hp => st_fin (q p hp)
  | an e =>
    rw [dE]; unfold t_law_parts
    walk_at "go"
    refine st_ix_tup (d := dE e) (by rfl) ?_
    walk_at "go"
    exact fun p hp => st_fin (q p hp)
/-- a list of characters, just those that p tells -/
structure FirL (cs : List Nat) (p : Nat → Bool) : Prop where
  nd : cs.Nodup
  sub : ∀ c ∈ cs, c ∈ CH
  mem : ∀ c ∈ CH, (c ∈ cs ↔ p c = true)
theorem nodup_len : ∀ {l m : List Nat}, l.Nodup → (∀ x ∈ l, x ∈ m) → l.length ≤ m.length
  | [], _, _, _ => Nat.zero_le _
  | x :: l, m, h, s => by
    rw [List.nodup_cons] at h
    have hx := s x List.mem_cons_self
    have := nodup_len (l := l) (m := m.erase x) h.2 fun y hy => by
      have hne : y ≠ x := fun e => h.1 (by rw [← e]; exact hy)
      exact (List.mem_erase_of_ne hne).mpr (s y (List.mem_cons_of_mem _ hy))
    rw [List.length_erase_of_mem hx] at this
    have := List.length_pos_of_mem hx
    rw [List.length_cons]; omega
theorem FirL.len {cs : List Nat} {p : Nat → Bool} (h : FirL cs p) : cs.length ≤ 94 := by
  rw [← CH_len]; exact nodup_len h.nd h.sub
theorem FirL.nil {p : Nat → Bool} (h : ∀ c, p c = false) : FirL [] p := ⟨List.nodup_nil, fun _ h => (by cases h), fun c _ => by rw [h c]; simp⟩
theorem FirL.add {cs ds : List Nat} {p q : Nat → Bool} (h : FirL cs p) (k : FirL ds q) : FirL (cs ++ ds.filter fun c => !decide (c ∈ cs)) (fun c => p c || q c) := by
  refine ⟨?_, fun c hc => ?_, fun c hc => ?_⟩
  · rw [List.nodup_append]
    refine ⟨h.nd, k.nd.filter _, fun a ha b hb e => ?_⟩
    subst e
    have := (List.mem_filter.mp hb).2
    simp [ha] at this
  · rcases List.mem_append.mp hc with hc | hc
    · exact h.sub c hc
    · exact k.sub c (List.mem_filter.mp hc).1
  · rw [List.mem_append, List.mem_filter, Bool.or_eq_true, ← h.mem c hc, ← k.mem c hc]
    by_cases e : c ∈ cs <;> simp [e]
theorem FirL.canon (p : Nat → Bool) : FirL (CH.filter p) p :=
  ⟨CH_nodup.filter _, fun c hc => (List.mem_filter.mp hc).1, fun c hc => by rw [List.mem_filter]; exact ⟨fun z => z.2, fun z => ⟨hc, z⟩⟩⟩
theorem FirL.imp {cs : List Nat} {p q : Nat → Bool} (h : FirL cs p) (e : ∀ c ∈ CH, p c = q c) : FirL cs q := ⟨h.nd, h.sub, fun c hc => by rw [h.mem c hc, e c hc]⟩
abbrev sgn (cs : List Nat) : List D := cs.map fun c => .str ⟨#[c]⟩
/-- the law's table -/
def LTab (G : Gp) (t : Addr) (g : Gr) (S : Nat → List Str) : Prop := ∃ kvs : List (Key × D), G t = some (.dK kvs) ∧ ∀ n ∈ g.map (·.1), ∃ a cs, valD kvs (.inr n) = some (.ref a) ∧ G a = some (.lst (sgn cs)) ∧ FirL cs fun c => decide (n ∈ S c)
theorem LTab.sub {G G' : Gp} {t : Addr} {g : Gr} {S : Nat → List Str} (h : LTab G t g S) (s : DL.Sub G G') : LTab G' t g S := by
  obtain ⟨kvs, e, h⟩ := h
  exact ⟨kvs, s _ _ e, fun n hn => let ⟨a, cs, h1, h2, h3⟩ := h n hn; ⟨a, cs, h1, s _ _ h2, h3⟩⟩
def spLFir (n : Nat) : DSp := fun ds G Q _ => ∃ (e : Ex) (x : D) (t : Addr) (em : List Str) (g : Gr) (S : Nat → List Str), ds = [dE e, .ref t, x] ∧ itemsD G x = some (em.map .str) ∧ LTab G t g S ∧ dep e ≤ n ∧ wide e ∧ firOk e = true ∧
  (∀ c ∈ callsE e, c ∈ g.map (·.1)) ∧ ∀ a cs G', DL.Sub G G' → G' a = some (.lst (sgn cs)) → (FirL cs fun c => firE em c (S c) e) → Q (.ref a) G'
theorem in_sgn (c : Nat) (cs : List Nat) : inFlat (.str ⟨#[c]⟩) (sgn cs) = decide (c ∈ cs) := by
  show inFlat _ (cs.map fun c => D.str ⟨#[c]⟩) = _
  rw [signs_str, inFlat_str]
  refine decide_eq_decide.mpr ?_
  rw [List.mem_map]
  constructor
  · rintro ⟨d, hd, e⟩
    have : d = c := by
      have := congrArg (fun s : Str => s.cps.toList) e
      simpa using this
    subst this; exact hd
  · intro h; exact ⟨c, h, rfl⟩
theorem sgn_flat (cs : List Nat) : (sgn cs).all flatD = true := by
  show (cs.map fun c => D.str ⟨#[c]⟩).all flatD = true
  rw [signs_str]; exact flat_strs _
theorem items_sub {G G' : Gp} {x : D} {ds : List D} (h : itemsD G x = some ds) (s : DL.Sub G G') : itemsD G' x = some ds := by
  cases x with
  | ref a =>
    unfold itemsD at h ⊢
    cases g : G a with
    | none => simp [g] at h
    | some o =>
      simp only [g] at h
      simp only [s a o g]
      exact h
  | _ => exact h
theorem lfirsts_loop {n : Nat} {b c : Rho → Gp → Prop} {G : Gp} {x d0 : D} {t : Addr} {em : List Str} {g : Gr} {S : Nat → List Str} {hd : Str} {Q : DK} {es : List Ex} (hx : itemsD G x = some (em.map .str)) (ht : LTab G t g S)
    (ok : PartOk n g es) (q : ∀ a cs G', DL.Sub G G' → G' a = some (.lst (sgn cs)) → (FirL cs fun c => if hd = "seq" then firSeq em c (S c) es else firAlt em c (S c) es) → Q (.ref a) G') (p0 p : Addr) (hp0 : G p0 = none) (hp : gup G p0 (.lst []) p = none) (lp lq : Option D) :
    dForL (fun G => G p = some (.lst (dEs es))) (dgName 5)
      (dSeq (dAsg (dOp rAdd (dVar 4) (dLc (sSeq (dCall (spLFir n) [] (dCons (dVar 5) (dCons (dVar 1) (dCons (dVar 2) (dNil)))))) 6 (dTest (dOp (rInSeq true) (dVar 6) (dVar 4))) (dVar 6))) (dgName 4))
       (dIfS (dAnd (dTest (dOp rEq (dVar 3) (dC (.str "seq")))) (dNot (dTruth (dCall (spMay n) [] (dCons (dVar 5) (dCons (dVar 2) (dNil)))))))
       (dRet (dVar 4))
       (dNext)))
      ⟨fun ρ G' => dRet (dVar 4) ⟨fun _ G' => ∃ G'', DL.Sub G'' G' ∧ Q .non G'', fun d G' => ∃ G'', DL.Sub G'' G' ∧ Q d G'', b, c⟩ ρ G', fun d G' => ∃ G'', DL.Sub G'' G' ∧ Q d G'', b, c⟩ (dEs es)
      [some d0, some (.ref t), some x, some (.str hd), some (.ref p0), lp, lq] (gup (gup G p0 (.lst [])) p (.lst (dEs es))) := by
  have hp0p : p0 ≠ p := gne gup_same hp
  have hsub0 : DL.Sub G (gup (gup G p0 (.lst [])) p (.lst (dEs es))) := (Sub.new hp0).trans (Sub.new hp)
  refine for_go (fun xs ρ G' => ∃ (l : List Ex) (f : Nat → Bool) (a : Addr) (cs : List Nat) (lp lq : Option D), xs = dEs l ∧ (∀ e ∈ l, e ∈ es) ∧ DL.Sub G G' ∧ G' p = some (.lst (dEs es)) ∧ G' a = some (.lst (sgn cs)) ∧ FirL cs f ∧ ρ = [some d0, some (.ref t), some x, some (.str hd), some (.ref a), lp, lq] ∧
    ∀ c, (f c || (if hd = "seq" then firSeq em c (S c) l else firAlt em c (S c) l)) = if hd = "seq" then firSeq em c (S c) es else firAlt em c (S c) es)
    ⟨es, fun _ => false, p0, [], lp, lq, rfl, fun _ h => h, hsub0, gup_same, by rw [gup_ne hp0p]; exact gup_same, FirL.nil (fun _ => rfl), rfl, fun c => Bool.false_or _⟩ ?_ ?_ ?_
  · rintro xs ρ G' ⟨_, _, _, _, _, _, _, _, _, gp, _⟩; exact gp
  · rintro y ys ρ G' ⟨l, f, a, cs, lp, lq, hl, hm, hs, gp, ga, fl, rfl, hf⟩ N hN
    cases l with
    | nil => cases hl
    | cons e l =>
      injection hl with h1 h2
      subst h1 h2
      have he := hm e List.mem_cons_self
      walk_at "gn"
      refine ⟨e, x, t, em, g, S, rfl, items_sub hx hs, ht.sub hs, ok.dep e he, ok.wide e he, ok.fir e he, ok.calls e he, fun a2 cs2 G2 hs2 ga2 fl2 => ?_⟩
      refine st_it_lst ga2 ?_
      intro p2 hp2
      have gaG2 := hs2 _ _ ga
      refine lc_signs hp2 _ (fun acc => gup_at ga2 hp2) (fun c => !decide (c ∈ cs)) cs2 (by have := fl2.len; omega) (fun c _ acc Q h => ?_) (fun c acc Q h => ?_) ?_
      · walk_at "gn"
        refine st_notin_lst (gup_at gaG2 hp2) rfl (sgn_flat cs) ?_
        rw [in_sgn]
        walk_at "gn"
        exact h
      · walk_at "gn"
        exact h
      have l1 := fl.len
      have l2 := fl2.len
      refine st_addL (gup_at gaG2 hp2) gup_same ?_ fun p3 hp3 => ?_
      · have := List.length_filter_le (fun c => !decide (c ∈ cs)) cs2
        simp only [List.length_map]
        rw [sizeLine_eq]; omega
      have ea : (sgn cs ++ (cs2.filter fun c => !decide (c ∈ cs)).map fun c => D.str ⟨#[c]⟩) = sgn (cs ++ cs2.filter fun c => !decide (c ∈ cs)) := by
        show _ = (cs ++ cs2.filter fun c => !decide (c ∈ cs)).map _
        rw [List.map_append]
      rw [ea]
      have s3 : DL.Sub G2 (gup (gup G2 p2 (.lst ((cs2.filter fun c => !decide (c ∈ cs)).map fun c => .str ⟨#[c]⟩))) p3 (.lst (sgn (cs ++ cs2.filter fun c => !decide (c ∈ cs))))) := (Sub.new hp2).trans (Sub.new hp3)
      have s03 := (hs.trans hs2).trans s3
      have flA := fl.add fl2
      walk_at "gn"
      refine st_and2 (p := hd = "seq") (q := (!mayE em e) = true) (fun R h => by walk_at "gn"; exact h) (fun R h => ?_) ?_
      · walk_at "gn"
        refine ⟨e, x, em, rfl, items_sub hx s03, ok.dep e he, ok.wide e he, ⟨_, rfl, ?_⟩⟩
        rw [Bool.decide_eq_true] at h
        exact h
      · show (if decide _ = true then _ else _)
        refine ifD (fun c1 => ?_) (fun c1 => ?_)
        · walk_at "gn"
          refine st_fin (q p3 _ _ s03 gup_same (flA.imp fun c _ => ?_))
          rw [← hf c, if_pos c1.1, firSeq]
          have := c1.2
          cases hme : mayE em e with
          | true => rw [hme] at this; cases this
          | false => simp
        · walk_at "gn"
          refine hN _ _ ⟨l, _, p3, _, _, _, rfl, fun e' h' => hm e' (List.mem_cons_of_mem _ h'), s03, s3 _ _ (hs2 _ _ gp), gup_same, flA, rfl, fun c => ?_⟩
          rw [← hf c]
          by_cases hs : hd = "seq"
          · rw [if_pos hs, if_pos hs, firSeq]
            have : mayE em e = true := by
              cases hme : mayE em e with
              | true => rfl
              | false => exact absurd ⟨hs, by rw [hme]; rfl⟩ c1
            rw [this, Bool.true_and, Bool.or_assoc]
          · rw [if_neg hs, if_neg hs, firAlt, Bool.or_assoc]
  · rintro ρ G' ⟨l, f, a, cs, lp, lq, hl, hm, hs, gp, ga, fl, rfl, hf⟩
    cases l with
    | cons e l => cases hl
    | nil =>
      walk_at "gn"
      refine st_fin (q a cs _ hs ga (fl.imp fun c _ => ?_))
      rw [← hf c]
      by_cases hs : hd = "seq"
      · rw [if_pos hs]; simp [firSeq]
      · rw [if_neg hs]; simp [firAlt]
theorem pure_lfirsts (n : Nat) (ds : List D) (G : Gp) (Q : DK) (E : DX) (h : spLFir (n + 1) ds G Q E) : t_law_firsts spLParts (spLFir n) (spMay n) (fnEnds Q) (dstart N_law_firsts ds) G := by
  obtain ⟨e, x, t, em, g, S, rfl, hx, ht, hd, hw, hf, hcl, q⟩ := h
  cases e with
  | any =>
    rw [dE]; unfold t_law_firsts
    walk_at "go"
    refine st_listA_str (by decide +kernel) fun p hp => ?_
    refine st_fin (q p CH _ (Sub.new hp) gup_same ?_)
    exact ⟨CH_nodup, fun c h => h, fun c hc => by simp [firE, hc]⟩
  | set s =>
    rw [dE]; unfold t_law_firsts
    walk_at "go"
    have e1 : s = canon fun c => decide (c ∈ s.cps.toList) := by
      simp only [firOk, canB] at hf
      exact eq_of_beq hf
    refine st_listA_str (by rw [e1, sizeLine_eq]; have := canon_len fun c => decide (c ∈ s.cps.toList); omega) fun p hp => ?_
    have e2 : s.cps.toList = CH.filter fun c => decide (c ∈ s.cps.toList) := by
      have := congrArg (fun s : Str => s.cps.toList) e1
      exact this
    refine st_fin (q p s.cps.toList _ (Sub.new hp) gup_same ?_)
    have := FirL.canon fun c => decide (c ∈ s.cps.toList)
    rw [← e2] at this
    exact this
  | text s =>
    obtain ⟨c, h1, h2, h3, h4⟩ := firS_text (em := em) (S := S) hf
    rw [dE]; unfold t_law_firsts
    walk_at "go"
    refine st_ix_str h2 h1 ?_
    walk_at "go"
    intro p hp
    refine st_fin (q p [c] _ (Sub.new hp) gup_same ?_)
    have h5 : s.cps.toList.head? = some c := by
      have := h1
      unfold L2.atI at this
      cases hl : s.cps.toList with
      | nil => rw [hl] at this; simp [ixN] at this
      | cons a r => rw [hl, show ixN (a :: r).length 0 = some 0 from ix0 (by simp)] at this; simpa using this
    refine ⟨by simp, fun d hd => by rw [List.mem_singleton.mp hd]; exact h4, fun d hd => ?_⟩
    simp only [firE, h5, decide_eq_true_eq, List.mem_singleton, Option.some.injEq]
    exact eq_comm
  | call m =>
    rw [dE]; unfold t_law_firsts
    walk_at "go"
    obtain ⟨kvs, gt, hk⟩ := ht
    obtain ⟨a, cs, h1, h2, h3⟩ := hk m (hcl m (by simp [callsE]))
    exact st_dget (k := .inr m) rfl gt h1 (st_fin (q a cs G (Sub.refl G) h2 h3))
  | eps =>
    rw [dE]; unfold t_law_firsts
    walk_at "go"
    exact fun p hp => st_fin (q p [] _ (Sub.new hp) gup_same (.nil fun c => by simp [firE]))
  | fail =>
    rw [dE]; unfold t_law_firsts
    walk_at "go"
    exact fun p hp => st_fin (q p [] _ (Sub.new hp) gup_same (.nil fun c => by simp [firE]))
  | nt e =>
    rw [dE]; unfold t_law_firsts
    walk_at "go"
    exact fun p hp => st_fin (q p [] _ (Sub.new hp) gup_same (.nil fun c => by simp [firE]))
  | an e =>
    rw [dE]; unfold t_law_firsts
    walk_at "go"
    exact fun p hp => st_fin (q p [] _ (Sub.new hp) gup_same (.nil fun c => by simp [firE]))
  | seq es =>
    rw [dE]; unfold t_law_firsts
    walk_at "go"
    intro p0 hp0
    walk_at "go"
    refine ⟨.seq es, by rw [dE], rfl, fun p hp => ?_⟩
    refine ⟨_, gup_same, ?_⟩
    simp only [dep, callsE, firOk] at hd hcl hf
    exact lfirsts_loop (hd := "seq") (es := es) hx ht ⟨fun e h => by have := dep_mem h; omega, fun e h => wides_mem h hw.2, fun e h => firOks_mem h hf, fun e h c hc => hcl c (calls_mem h hc)⟩
      (fun a cs G' s ga fl => q a cs G' s ga (fl.imp fun c _ => by rw [if_pos rfl, firE])) p0 p hp0 hp _ _
  | alt es =>
    rw [dE]; unfold t_law_firsts
    walk_at "go"
    intro p0 hp0
    walk_at "go"
    refine ⟨.alt es, by rw [dE], rfl, fun p hp => ?_⟩
    refine ⟨_, gup_same, ?_⟩
    simp only [dep, callsE, firOk] at hd hcl hf
    exact lfirsts_loop (hd := "alt") (es := es) hx ht ⟨fun e h => by have := dep_mem h; omega, fun e h => wides_mem h hw.2, fun e h => firOks_mem h hf, fun e h c hc => hcl c (calls_mem h hc)⟩
      (fun a cs G' s ga fl => q a cs G' s ga (fl.imp fun c _ => by rw [if_neg (by decide +kernel), firE])) p0 p hp0 hp _ _
  | star e =>
    rw [dE]; unfold t_law_firsts
    walk_at "go"
    intro p0 hp0
    walk_at "go"
    refine ⟨(.star e), by rw [dE], rfl, fun p hp => ?_⟩
    refine ⟨_, gup_same, ?_⟩
    simp only [dep, callsE, firOk] at hd hcl hf
    exact lfirsts_loop (hd := "star") (es := [e]) hx ht ⟨fun e h => by have := List.mem_singleton.mp h; subst this; omega, fun e h => by have := List.mem_singleton.mp h; subst this; exact hw, fun e h => by have := List.mem_singleton.mp h; subst this; exact hf, fun e h => by have := List.mem_singleton.mp h; subst this; exact hcl⟩
      (fun a cs G' s ga fl => q a cs G' s ga (fl.imp fun c _ => by rw [if_neg (by decide +kernel), firE, firAlt, firAlt, Bool.or_false])) p0 p hp0 hp _ _
  | opt e =>
    rw [dE]; unfold t_law_firsts
    walk_at "go"
    intro p0 hp0
    walk_at "go"
    refine ⟨(.opt e), by rw [dE], rfl, fun p hp => ?_⟩
    refine ⟨_, gup_same, ?_⟩
    simp only [dep, callsE, firOk] at hd hcl hf
    exact lfirsts_loop (hd := "opt") (es := [e]) hx ht ⟨fun e h => by have := List.mem_singleton.mp h; subst this; omega, fun e h => by have := List.mem_singleton.mp h; subst this; exact hw, fun e h => by have := List.mem_singleton.mp h; subst this; exact hf, fun e h => by have := List.mem_singleton.mp h; subst this; exact hcl⟩
      (fun a cs G' s ga fl => q a cs G' s ga (fl.imp fun c _ => by rw [if_neg (by decide +kernel), firE, firAlt, firAlt, Bool.or_false])) p0 p hp0 hp _ _
  | mark l e =>
    rw [dE]; unfold t_law_firsts
    walk_at "go"
    intro p0 hp0
    walk_at "go"
    refine ⟨(.mark l e), by rw [dE], rfl, fun p hp => ?_⟩
    refine ⟨_, gup_same, ?_⟩
    simp only [dep, callsE, firOk] at hd hcl hf
    exact lfirsts_loop (hd := "mark") (es := [e]) hx ht ⟨fun e h => by have := List.mem_singleton.mp h; subst this; omega, fun e h => by have := List.mem_singleton.mp h; subst this; exact hw, fun e h => by have := List.mem_singleton.mp h; subst this; exact hf, fun e h => by have := List.mem_singleton.mp h; subst this; exact hcl⟩
      (fun a cs G' s ga fl => q a cs G' s ga (fl.imp fun c _ => by rw [if_neg (by decide +kernel), firE, firAlt, firAlt, Bool.or_false])) p0 p hp0 hp _ _

end LW
namespace LW
open PySem L2 DL GX
def t_law_row (sp_law_match : DSp) : DTS :=
 dSeq (dAsg (dTup (dNil)) (dgName 5))
 (dSeq (dFor (sSeq (dVar 2)) (dgName 6)
 (dSeq (dAsg (dCall sp_law_match [] (dCons (dVar 0) (dCons (dVar 1) (dCons (dVar 6) (dCons (dVar 3) (dCons (dVar 4) (dNil))))))) (dgName 7))
 (dSeq (dIfS (dTest (dOp (rIsN false) (dVar 7) (dC .non)))
 (dRet (dC .non))
 (dNext))
 (dSeq (dAsg (dOp rIxD (dVar 7) (dC (.int 0))) (dgName 4))
 (dAsg (dOp rAdd (dVar 5) (dOp rIxD (dVar 7) (dC (.int 1)))) (dgName 5))))))
 (dRet (dTup (dCons (dVar 4) (dCons (dVar 5) (dNil))))))
abbrev N_law_row : List Str := ["_law_fuel", "_law_grammar_here", "_law_parts_here", "_law_text_here", "_law_at", "_law_trees", "_law_part", "_law_told"]

def t_law_star (sp_law_match : DSp) : DTS :=
 dSeq (dAsg (dTup (dNil)) (dgName 5))
 (dSeq (dFor (sRng1 (dCons (dOp rAdd (dCB cLen (dCons (dVar 3) (dNil))) (dC (.int 1))) (dNil))) (dgName 6)
 (dSeq (dAsg (dCall sp_law_match [] (dCons (dVar 0) (dCons (dVar 1) (dCons (dVar 2) (dCons (dVar 3) (dCons (dVar 4) (dNil))))))) (dgName 7))
 (dSeq (dIfS (dTest (dOp (rIsN false) (dVar 7) (dC .non)))
 (dRet (dTup (dCons (dVar 4) (dCons (dVar 5) (dNil)))))
 (dNext))
 (dSeq (dAsg (dOp rIxD (dVar 7) (dC (.int 0))) (dgName 4))
 (dAsg (dOp rAdd (dVar 5) (dOp rIxD (dVar 7) (dC (.int 1)))) (dgName 5))))))
 (dRet (dTup (dCons (dVar 4) (dCons (dVar 5) (dNil))))))
abbrev N_law_star : List Str := ["_law_fuel", "_law_grammar_here", "_law_inner", "_law_text_here", "_law_at", "_law_trees", "_law_turn", "_law_told"]

def t_law_body : DTS :=
 dSeq (dFor (sSeq (dVar 0)) (dgName 2)
 (dIfS (dTest (dOp rEq (dOp rIxD (dVar 2) (dC (.int 0))) (dVar 1)))
 (dRet (dOp rIxD (dVar 2) (dC (.int 1))))
 (dNext)))
 (dRet (dTup (dCons (dC (.str "fail")) (dNil))))
abbrev N_law_body : List Str := ["_law_grammar_here", "_law_name", "_law_rule"]

def t_law_match (sp_law_row : DSp) (sp_law_match : DSp) (sp_law_star : DSp) (sp_law_body : DSp) : DTS :=
 dSeq (dAsg (dOp rSub (dOp rIxD (dVar 0) (dC (.int 0))) (dC (.int 1))) (dgSub (dVar 0) (dC (.int 0)) sSetL))
 (dSeq (dAsg (dOp rIxD (dVar 2) (dC (.int 0))) (dgName 5))
 (dSeq (dIfS (dTest (dOp rEq (dVar 5) (dC (.str "eps"))))
 (dRet (dTup (dCons (dVar 4) (dCons (dTup (dNil)) (dNil)))))
 (dNext))
 (dSeq (dIfS (dOr (dTest (dOp rEq (dVar 5) (dC (.str "fail")))) (dTest (dOp rLt (dOp rIxD (dVar 0) (dC (.int 0))) (dC (.int 0)))))
 (dRet (dC .non))
 (dNext))
 (dSeq (dIfS (dTest (dOp rEq (dVar 5) (dC (.str "text"))))
 (dSeq (dAsg (dCB cLen (dCons (dOp rIxD (dVar 2) (dC (.int 1))) (dNil))) (dgName 6))
 (dRet (dIf (dTest (dOp rEq (dSl (dVar 3) (dPart (dVar 4)) (dPart (dOp rAdd (dVar 4) (dVar 6)))) (dOp rIxD (dVar 2) (dC (.int 1))))) (dTup (dCons (dOp rAdd (dVar 4) (dVar 6)) (dCons (dTup (dNil)) (dNil)))) (dC .non))))
 (dNext))
 (dSeq (dIfS (dOr (dTest (dOp rEq (dVar 5) (dC (.str "any")))) (dTest (dOp rEq (dVar 5) (dC (.str "set")))))
 (dSeq (dAsg (dAndV (dOp rLt (dVar 4) (dCB cLen (dCons (dVar 3) (dNil)))) (dOrV (dOp rEq (dVar 5) (dC (.str "any"))) (dOp (rInStr false) (dOp rIxD (dVar 3) (dVar 4)) (dOp rIxD (dVar 2) (dC (.int 1)))))) (dgName 7))
 (dRet (dIf (dTruth (dVar 7)) (dTup (dCons (dOp rAdd (dVar 4) (dC (.int 1))) (dCons (dTup (dNil)) (dNil)))) (dC .non))))
 (dNext))
 (dSeq (dIfS (dTest (dOp rEq (dVar 5) (dC (.str "seq"))))
 (dRet (dCall sp_law_row [] (dCons (dVar 0) (dCons (dVar 1) (dCons (dOp rIxD (dVar 2) (dC (.int 1))) (dCons (dVar 3) (dCons (dVar 4) (dNil))))))))
 (dNext))
 (dSeq (dIfS (dTest (dOp rEq (dVar 5) (dC (.str "alt"))))
 (dSeq (dFor (sSeq (dOp rIxD (dVar 2) (dC (.int 1)))) (dgName 8)
 (dSeq (dAsg (dCall sp_law_match [] (dCons (dVar 0) (dCons (dVar 1) (dCons (dVar 8) (dCons (dVar 3) (dCons (dVar 4) (dNil))))))) (dgName 9))
 (dIfS (dTest (dOp (rIsN true) (dVar 9) (dC .non)))
 (dRet (dVar 9))
 (dNext))))
 (dRet (dC .non)))
 (dNext))
 (dSeq (dIfS (dTest (dOp rEq (dVar 5) (dC (.str "star"))))
 (dRet (dCall sp_law_star [] (dCons (dVar 0) (dCons (dVar 1) (dCons (dOp rIxD (dVar 2) (dC (.int 1))) (dCons (dVar 3) (dCons (dVar 4) (dNil))))))))
 (dNext))
 (dSeq (dIfS (dTest (dOp rEq (dVar 5) (dC (.str "call"))))
 (dRet (dCall sp_law_match [] (dCons (dVar 0) (dCons (dVar 1) (dCons (dCall sp_law_body [] (dCons (dVar 1) (dCons (dOp rIxD (dVar 2) (dC (.int 1))) (dNil)))) (dCons (dVar 3) (dCons (dVar 4) (dNil))))))))
 (dNext))
 (dSeq (dAsg (dCall sp_law_match [] (dCons (dVar 0) (dCons (dVar 1) (dCons (dOp rIxD (dVar 2) (dNeg (dC (.int 1)))) (dCons (dVar 3) (dCons (dVar 4) (dNil))))))) (dgName 9))
 (dSeq (dIfS (dTest (dOp rEq (dVar 5) (dC (.str "opt"))))
 (dRet (dIf (dTest (dOp (rIsN false) (dVar 9) (dC .non))) (dTup (dCons (dVar 4) (dCons (dTup (dNil)) (dNil)))) (dVar 9)))
 (dNext))
 (dSeq (dIfS (dTest (dOp rEq (dVar 5) (dC (.str "not"))))
 (dRet (dIf (dTest (dOp (rIsN false) (dVar 9) (dC .non))) (dTup (dCons (dVar 4) (dCons (dTup (dNil)) (dNil)))) (dC .non)))
 (dNext))
 (dSeq (dIfS (dOr (dTest (dOp rEq (dVar 5) (dC (.str "and")))) (dTest (dOp (rIsN false) (dVar 9) (dC .non))))
 (dRet (dIf (dTest (dOp (rIsN false) (dVar 9) (dC .non))) (dC .non) (dTup (dCons (dVar 4) (dCons (dTup (dNil)) (dNil))))))
 (dNext))
 (dRet (dTup (dCons (dOp rIxD (dVar 9) (dC (.int 0))) (dCons (dTup (dCons (dTup (dCons (dOp rIxD (dVar 2) (dC (.int 1))) (dCons (dVar 4) (dCons (dOp rIxD (dVar 9) (dC (.int 0))) (dCons (dOp rIxD (dVar 9) (dC (.int 1))) (dNil)))))) (dNil))) (dNil))))))))))))))))))
abbrev N_law_match : List Str := ["_law_fuel", "_law_grammar_here", "_law_expression_here", "_law_text_here", "_law_at", "_law_head", "_law_size", "_law_fits", "_law_part", "_law_told"]

local macro_rules | `(tactic| walk_at "go1") => `(tactic| first
  | with_reducible refine st_seq ?_ | with_reducible refine st_asg ?_ | with_reducible refine st_name ?_
  | (with_reducible refine st_v ?_; refine ⟨_, rfl, ?_⟩) | with_reducible refine st_c ?_ | with_reducible refine st_op ?_ | with_reducible refine st_test ?_ | with_reducible refine st_tk ?_
  | with_reducible refine st_if ?_ | with_reducible refine st_rt ?_ | with_reducible refine st_nil ?_ | with_reducible refine st_cons ?_ | with_reducible refine st_tup ?_
  | with_reducible refine st_sz sm1 ?_ | with_reducible refine st_sz sm2 ?_ | with_reducible refine st_sz sm3 ?_ | with_reducible refine st_sz sm0 ?_ | with_reducible refine st_sz sm4 ?_ | with_reducible refine st_sz sm5 ?_
  | with_reducible refine st_eq_str ?_ | with_reducible refine st_eq_int ?_
  | with_reducible refine st_ix_tup at0 ?_ | with_reducible refine st_ix_tup at1 ?_ | with_reducible refine st_ix_tup at2 ?_
  | with_reducible refine ifDt (by decide +kernel) ?_ | with_reducible refine ifDf (by decide +kernel) ?_ | with_reducible refine ifT (by decide +kernel) ?_ | with_reducible refine ifF (by decide +kernel) ?_
  | with_reducible refine st_in_tup rfl rfl ?_ | with_reducible refine st_next ?_
  | with_reducible refine st_truth ?_ | with_reducible refine st_tr_bl ?_ | with_reducible refine st_tr_tup ?_ | with_reducible refine st_and ?_ | with_reducible refine st_or ?_ | with_reducible refine st_not ?_
  | with_reducible refine st_cb ?_ | with_reducible refine st_call ?_ | with_reducible refine st_app ?_ | with_reducible refine st_drop ?_ | with_reducible refine st_ml ?_
  | with_reducible refine st_lt ?_ | with_reducible refine st_le ?_ | with_reducible refine st_gt ?_ | with_reducible refine st_ge ?_ | with_reducible refine st_add ?_ | with_reducible refine st_sub ?_
  | with_reducible refine st_ne_bl ?_ | with_reducible refine st_eq_bl ?_ | with_reducible refine st_isi_blb ?_ | with_reducible refine st_ne_str ?_ | with_reducible refine st_ne_int ?_ | with_reducible refine st_lst ?_ | with_reducible refine st_len_tup ?_ | with_reducible refine st_int ?_ | with_reducible refine st_int_bl ?_ | with_reducible refine st_abs ?_
  | with_reducible refine st_for ?_ | with_reducible refine st_lc ?_ | with_reducible refine st_sseq ?_ | with_reducible refine st_it_tup ?_ | with_reducible refine st_it_str ?_ | with_reducible refine st_it_rol ?_
  | with_reducible refine st_rng1 ?_ | with_reducible refine st_rng2 ?_ | with_reducible refine st_slice ?_ | with_reducible refine st_nopart ?_ | with_reducible refine st_part ?_ | with_reducible refine st_pk ?_
  | with_reducible refine st_gtup rfl ?_ | with_reducible refine st_gcons ?_ | with_reducible refine st_gnil ?_ | with_reducible refine st_gsub ?_ | with_reducible refine st_ife ?_ | with_reducible refine st_andV ?_ | with_reducible refine st_orV ?_ | with_reducible refine st_notV ?_ | with_reducible refine st_bk ?_
  | with_reducible refine st_isN_non ?_ | with_reducible refine st_isN_tup ?_ | with_reducible refine st_notN_non ?_ | with_reducible refine st_notN_tup ?_ | with_reducible refine st_rtN ?_ | with_reducible refine st_brk ?_ | with_reducible refine st_cnt ?_ | with_reducible refine st_yes ?_
  | with_reducible refine st_join ?_ | with_reducible refine st_sk ?_ | with_reducible refine st_neg ?_ | with_reducible refine st_dc ?_ | with_reducible refine st_chain ?_ | with_reducible refine st_inS ?_ | with_reducible refine st_notInS ?_ | with_reducible refine st_listA_tup ?_)
local macro_rules | `(tactic| walk_at "go") => `(tactic| repeat walk_at "go1")
local macro_rules | `(tactic| walk_at "gn1") => `(tactic| first
  | with_reducible refine st_seq ?_ | with_reducible refine st_asg ?_ | with_reducible refine st_name ?_
  | (with_reducible refine st_v ?_; refine ⟨_, rfl, ?_⟩) | with_reducible refine st_c ?_ | with_reducible refine st_op ?_ | with_reducible refine st_test ?_ | with_reducible refine st_tk ?_
  | with_reducible refine st_if ?_ | with_reducible refine st_rt ?_ | with_reducible refine st_nil ?_ | with_reducible refine st_cons ?_ | with_reducible refine st_tup ?_
  | with_reducible refine st_sz sm1 ?_ | with_reducible refine st_sz sm2 ?_ | with_reducible refine st_sz sm3 ?_ | with_reducible refine st_sz sm0 ?_ | with_reducible refine st_sz sm4 ?_ | with_reducible refine st_sz sm5 ?_
  | with_reducible refine st_eq_str ?_ | with_reducible refine st_eq_int ?_
  | with_reducible refine st_ix_tup at0 ?_ | with_reducible refine st_ix_tup at1 ?_ | with_reducible refine st_ix_tup at2 ?_
  | with_reducible refine ifDt (by decide +kernel) ?_ | with_reducible refine ifDf (by decide +kernel) ?_ | with_reducible refine ifT (by decide +kernel) ?_ | with_reducible refine ifF (by decide +kernel) ?_
  | with_reducible refine st_in_tup rfl rfl ?_ | with_reducible refine st_next ?_
  | with_reducible refine st_truth ?_ | with_reducible refine st_tr_bl ?_ | with_reducible refine st_tr_tup ?_ | with_reducible refine st_not ?_
  | with_reducible refine st_cb ?_ | with_reducible refine st_call ?_ | with_reducible refine st_app ?_ | with_reducible refine st_drop ?_ | with_reducible refine st_ml ?_
  | with_reducible refine st_lt ?_ | with_reducible refine st_le ?_ | with_reducible refine st_gt ?_ | with_reducible refine st_ge ?_ | with_reducible refine st_add ?_ | with_reducible refine st_sub ?_
  | with_reducible refine st_ne_bl ?_ | with_reducible refine st_eq_bl ?_ | with_reducible refine st_isi_blb ?_ | with_reducible refine st_ne_str ?_ | with_reducible refine st_ne_int ?_ | with_reducible refine st_lst ?_ | with_reducible refine st_len_tup ?_ | with_reducible refine st_int ?_ | with_reducible refine st_int_bl ?_ | with_reducible refine st_abs ?_
  | with_reducible refine st_for ?_ | with_reducible refine st_lc ?_ | with_reducible refine st_sseq ?_ | with_reducible refine st_it_tup ?_ | with_reducible refine st_it_str ?_ | with_reducible refine st_it_rol ?_
  | with_reducible refine st_rng1 ?_ | with_reducible refine st_rng2 ?_ | with_reducible refine st_slice ?_ | with_reducible refine st_nopart ?_ | with_reducible refine st_part ?_ | with_reducible refine st_pk ?_
  | with_reducible refine st_gtup rfl ?_ | with_reducible refine st_gcons ?_ | with_reducible refine st_gnil ?_ | with_reducible refine st_gsub ?_ | with_reducible refine st_ife ?_ | with_reducible refine st_andV ?_ | with_reducible refine st_orV ?_ | with_reducible refine st_notV ?_ | with_reducible refine st_bk ?_
  | with_reducible refine st_isN_non ?_ | with_reducible refine st_isN_tup ?_ | with_reducible refine st_notN_non ?_ | with_reducible refine st_notN_tup ?_ | with_reducible refine st_rtN ?_ | with_reducible refine st_brk ?_ | with_reducible refine st_cnt ?_ | with_reducible refine st_yes ?_
  | with_reducible refine st_join ?_ | with_reducible refine st_sk ?_ | with_reducible refine st_neg ?_ | with_reducible refine st_dc ?_ | with_reducible refine st_chain ?_ | with_reducible refine st_inS ?_ | with_reducible refine st_notInS ?_ | with_reducible refine st_listA_tup ?_)
local macro_rules | `(tactic| walk_at "gn") => `(tactic| repeat walk_at "gn1")

def takes : Ex → Bool
  | .set _ => true
  | .any => true
  | .text _ => true
  | _ => false
def RowP (P : Nat → Ex → Prop) : Nat → List Ex → Prop
  | _, [] => True
  | rem, e :: es => P rem e ∧ ∀ r', r' ≤ rem → (takes e = true → r' < rem) → RowP P r' es
/-- n levels serve, rem characters being left -/
def LvP (g : Gr) : Nat → Nat → Ex → Prop
  | 0, _, _ => False
  | n + 1, rem, e => match e with
    | .seq es => RowP (LvP g n) rem es
    | .alt es => ∀ x ∈ es, LvP g n rem x
    | .star x => ∀ r', r' ≤ rem → LvP g n r' x
    | .opt x => LvP g n rem x
    | .nt x => LvP g n rem x
    | .an x => LvP g n rem x
    | .mark _ x => LvP g n rem x
    | .call s => ∀ r ∈ g, r.1 = s → LvP g n rem r.2
    | _ => True
structure MEnv (g : Gr) (em : List Str) (S : Nat → List Str) (z : Str) : Prop where
  wd : ∀ r ∈ g, wide r.2
  fir : ∀ r ∈ g, firOk r.2 = true
  calls : ∀ r ∈ g, ∀ c ∈ callsE r.2, c ∈ g.map (·.1)
  eme : ∀ r ∈ g, mayE em r.2 = true → r.1 ∈ em
  Se : ∀ r ∈ g, ∀ c, firE em c (S c) r.2 = true → r.1 ∈ S c
  zl : z.length ≤ 1000
  zc : ∀ c ∈ z.cps.toList, c ∈ CH
structure EOk (g : Gr) (e : Ex) : Prop where
  wd : wide e
  fir : firOk e = true
  calls : ∀ c ∈ callsE e, c ∈ g.map (·.1)
structure Kp (G G' : Gp) (f : Addr) (fu : Int) : Prop where
  at' : G' f = some (.lst [.int fu])
  keep : ∀ b o, b ≠ f → G b = some o → G' b = some o
theorem Kp.put {G : Gp} {f : Addr} {fu : Int} : Kp G (gup G f (.lst [.int fu])) f fu := ⟨gup_same, fun b o n e => by rw [gup_ne n]; exact e⟩
theorem Kp.trans {G G1 G2 : Gp} {f : Addr} {x y : Int} (h : Kp G G1 f x) (k : Kp G1 G2 f y) : Kp G G2 f y := ⟨k.at', fun b o n e => k.keep b o n (h.keep b o n e)⟩
/-- what a match tells -/
structure Pr (em : List Str) (S : Nat → List Str) (z : Str) (a b : Nat) (e : Ex) : Prop where
  le : a ≤ b
  len : b ≤ z.length
  emp : b = a → mayE em e = true
  fir : a < b → ∃ c, z.cps.toList[a]? = some c ∧ firE em c (S c) e = true
def trs (fu fu' : Int) (n : Nat) : Prop := fu' ≤ fu ∧ (n : Int) ≤ max fu 0 - max fu' 0
def Res (G : Gp) (f : Addr) (fu : Int) (Q : DK) (P : Nat → Prop) : Prop :=
  (∀ G' fu', trs fu fu' 0 → Kp G G' f fu' → Q .non G') ∧ ∀ (b : Nat) ts G' fu', trs fu fu' ts.length → Kp G G' f fu' → P b → Q (.tup [.int b, .tup ts]) G'
def spLMatch (em : List Str) (S : Nat → List Str) (n : Nat) : DSp := fun ds G Q _ => ∃ (f : Addr) (fu : Int) (g : Gr) (e : Ex) (z : Str) (a : Nat), ds = [.ref f, dG g, dE e, .str z, .int a] ∧ G f = some (.lst [.int fu]) ∧ fu ≤ 3000 ∧ MEnv g em S z ∧ EOk g e ∧
  a ≤ z.length ∧ LvP g n (z.length - a) e ∧ Res G f fu Q fun b => Pr em S z a b e
def spLRow (em : List Str) (S : Nat → List Str) (n : Nat) : DSp := fun ds G Q _ => ∃ (f : Addr) (fu : Int) (g : Gr) (es : List Ex) (z : Str) (a : Nat), ds = [.ref f, dG g, .tup (dEs es), .str z, .int a] ∧ G f = some (.lst [.int fu]) ∧ fu ≤ 3000 ∧ MEnv g em S z ∧ (∀ e ∈ es, EOk g e) ∧
  a ≤ z.length ∧ RowP (LvP g n) (z.length - a) es ∧ Res G f fu Q fun b => Pr em S z a b (.seq es)
def spLStar (em : List Str) (S : Nat → List Str) (n : Nat) : DSp := fun ds G Q _ => ∃ (f : Addr) (fu : Int) (g : Gr) (e : Ex) (z : Str) (a : Nat), ds = [.ref f, dG g, dE e, .str z, .int a] ∧ G f = some (.lst [.int fu]) ∧ fu ≤ 3000 ∧ MEnv g em S z ∧ EOk g e ∧
  a ≤ z.length ∧ (∀ r', r' ≤ z.length - a → LvP g n r' e) ∧ Res G f fu Q fun b => Pr em S z a b (.star e)
def spLBody : DSp := fun ds G Q _ => ∃ (g : Gr) (n : Str), ds = [dG g, .str n] ∧ n ∈ g.map (·.1) ∧ ∀ r ∈ g, r.1 = n → Q (dE r.2) G
theorem pure_lbody (ds : List D) (G : Gp) (Q : DK) (E : DX) (h : spLBody ds G Q E) : t_law_body (fnEnds Q) (dstart N_law_body ds) G := by
  obtain ⟨g, n, rfl, hn, q⟩ := h
  unfold t_law_body dG
  walk_at "gn"
  refine for_go (fun xs ρ G' => ∃ (l : Gr) (o : Option D), xs = l.map dR ∧ (∀ r ∈ l, r ∈ g) ∧ n ∈ l.map (·.1) ∧ G' = G ∧ ρ = [some (.tup (g.map dR)), some (.str n), o]) ⟨g, _, rfl, fun _ h => h, hn, rfl, rfl⟩ (fun _ _ _ _ => trivial) ?_ ?_
  · rintro y ys ρ G' ⟨l, o, hl, hm, hn, rfl, rfl⟩ N hN
    cases l with
    | nil => cases hl
    | cons r l =>
      injection hl with h1 h2
      subst h1 h2
      unfold dR
      walk_at "gn"
      refine ifD (fun c => ?_) (fun c => ?_)
      · walk_at "gn"
        exact st_fin (q r (hm r List.mem_cons_self) c)
      · walk_at "gn"
        refine hN _ _ ⟨l, _, rfl, fun r' h' => hm r' (List.mem_cons_of_mem _ h'), ?_, rfl, rfl⟩
        rw [List.map_cons] at hn
        rcases List.mem_cons.mp hn with e | h
        · exact absurd e.symm c
        · exact h
  · rintro ρ G' ⟨l, o, hl, hm, hn, rfl, rfl⟩
    cases l with
    | nil => cases hn
    | cons r l => cases hl
theorem mayAll_app (em : List Str) : ∀ xs ys, mayAll em (xs ++ ys) = (mayAll em xs && mayAll em ys)
  | [], ys => by simp [mayAll]
  | x :: xs, ys => by rw [List.cons_append, mayAll, mayAll, mayAll_app em xs ys, Bool.and_assoc]
theorem firSeq_app {em : List Str} {c : Nat} {S : List Str} {e : Ex} {l : List Ex} (h : firE em c S e = true) : ∀ pre : List Ex, mayAll em pre = true → firSeq em c S (pre ++ e :: l) = true
  | [], _ => by rw [List.nil_append, firSeq, h]; rfl
  | x :: xs, hm => by
    rw [mayAll, Bool.and_eq_true] at hm
    rw [List.cons_append, firSeq, hm.1, firSeq_app h xs hm.2]
    simp
theorem takes_not {em : List Str} : ∀ {e : Ex}, takes e = true → mayE em e = false
  | .set _, _ => by simp [mayE]
  | .any, _ => by simp [mayE]
  | .text _, _ => by simp [mayE]
theorem trs.zero {fu : Int} : trs fu fu 0 := ⟨Int.le_refl _, by omega⟩
theorem trs.add {a b c : Int} {m n : Nat} (h : trs a b m) (k : trs b c n) : trs a c (m + n) := ⟨by have := h.1; have := k.1; omega, by have := h.2; have := k.2; omega⟩
theorem trs.le {a b : Int} {m : Nat} (h : trs a b m) (ha : a ≤ 3000) : m ≤ 3000 := by have := h.2; omega
theorem trs.z {a b : Int} {m : Nat} (h : trs a b m) : trs a b 0 := ⟨h.1, by have := h.2; omega⟩
theorem pure_lrow (em : List Str) (S : Nat → List Str) (n : Nat) (ds : List D) (G : Gp) (Q : DK) (E : DX) (h : spLRow em S n ds G Q E) : t_law_row (spLMatch em S n) (fnEnds Q) (dstart N_law_row ds) G := by
  obtain ⟨f, fu, g, es, z, a, rfl, gf, hfu, me, ok, ha, hlv, q0, q1⟩ := h
  unfold t_law_row
  walk_at "gn"
  refine for_go (fun xs ρ G' => ∃ (pre l : List Ex) (b : Nat) (ts : List D) (fc : Int) (o1 o2 : Option D), xs = dEs l ∧ es = pre ++ l ∧ Kp G G' f fc ∧ trs fu fc ts.length ∧ a ≤ b ∧ b ≤ z.length ∧ RowP (LvP g n) (z.length - b) l ∧ (b = a → mayAll em pre = true) ∧
    (a < b → ∃ c, z.cps.toList[a]? = some c ∧ firSeq em c (S c) es = true) ∧ ρ = [some (.ref f), some (dG g), some (.tup (dEs es)), some (.str z), some (.int b), some (.tup ts), o1, o2])
    ⟨[], es, a, [], fu, _, _, rfl, rfl, ⟨gf, fun _ _ _ e => e⟩, .zero, Nat.le_refl _, ha, hlv, fun _ => rfl, fun h => absurd h (Nat.lt_irrefl _), rfl⟩ (fun _ _ _ _ => trivial) ?_ ?_
  · rintro y ys ρ G' ⟨pre, l, b, ts, fc, o1, o2, hl, hes, kp, tr, hab, hbz, lv, hm, hf, rfl⟩ N hN
    cases l with
    | nil => cases hl
    | cons e l =>
      injection hl with h1 h2
      subst h1 h2
      have he : e ∈ es := by rw [hes]; simp
      walk_at "gn"
      refine ⟨f, fc, g, e, z, b, rfl, kp.at', by have := tr.1; omega, me, ok e he, hbz, lv.1, fun G2 f2 t2 k2 => ?_, fun b2 ts2 G2 f2 t2 k2 p2 => ?_⟩
      · walk_at "gn"
        exact st_fin (q0 G2 f2 (by simpa using tr.z.add t2) (kp.trans k2))
      · walk_at "gn"
        refine st_addT ?_ ?_
        · have h3 := (tr.add t2).le hfu
          rw [sizeLine_eq]; omega
        walk_at "gn"
        refine hN _ _ ⟨pre ++ [e], l, b2, ts ++ ts2, f2, _, _, rfl, by rw [hes]; simp, kp.trans k2, by rw [List.length_append]; exact tr.add t2, Nat.le_trans hab p2.le, p2.len, ?_, fun e2 => ?_, fun h2 => ?_, rfl⟩
        · refine lv.2 _ (by have := p2.le; omega) fun ht => ?_
          have hne : b2 ≠ b := fun e2 => by
            have := p2.emp e2
            rw [takes_not ht] at this
            cases this
          have := p2.le
          have := p2.len
          omega
        · have hle := p2.le
          have e3 : b = a := by omega
          have e4 : b2 = b := by omega
          rw [mayAll_app, hm e3, mayAll, p2.emp e4, mayAll]; rfl
        · rcases Nat.lt_or_ge a b with c | c
          · exact hf c
          · have e3 : b = a := by omega
            subst e3
            obtain ⟨c, hc, fc⟩ := p2.fir h2
            exact ⟨c, hc, by rw [hes]; exact firSeq_app fc pre (hm rfl)⟩
  · rintro ρ G' ⟨pre, l, b, ts, fc, o1, o2, hl, hes, kp, tr, hab, hbz, lv, hm, hf, rfl⟩
    cases l with
    | cons e l => cases hl
    | nil =>
      rw [List.append_nil] at hes
      subst hes
      walk_at "gn"
      exact st_fin (q1 b ts G' fc tr kp ⟨hab, hbz, fun e => by rw [mayE]; exact hm e, fun h => by
        obtain ⟨c, hc, fc⟩ := hf h
        exact ⟨c, hc, by rw [firE]; exact fc⟩⟩)
theorem pure_lstar (em : List Str) (S : Nat → List Str) (n : Nat) (ds : List D) (G : Gp) (Q : DK) (E : DX) (h : spLStar em S n ds G Q E) : t_law_star (spLMatch em S n) (fnEnds Q) (dstart N_law_star ds) G := by
  obtain ⟨f, fu, g, e, z, a, rfl, gf, hfu, me, ok, ha, hlv, q0, q1⟩ := h
  unfold t_law_star
  walk_at "gn"
  have zl := me.zl
  refine st_len_str (by rw [sizeLine_eq]; omega) ?_
  walk_at "gn"
  refine ⟨_, rfl, ⟨by omega, by omega⟩, ?_⟩
  refine for_go (fun xs ρ G' => ∃ (b : Nat) (ts : List D) (fc : Int) (o1 o2 : Option D), Kp G G' f fc ∧ trs fu fc ts.length ∧ a ≤ b ∧ b ≤ z.length ∧
    (a < b → ∃ c, z.cps.toList[a]? = some c ∧ firE em c (S c) e = true) ∧ ρ = [some (.ref f), some (dG g), some (dE e), some (.str z), some (.int b), some (.tup ts), o1, o2])
    ⟨a, [], fu, _, _, ⟨gf, fun _ _ _ e => e⟩, .zero, Nat.le_refl _, ha, fun h => absurd h (Nat.lt_irrefl _), rfl⟩ (fun _ _ _ _ => trivial) ?_ ?_
  · rintro y ys ρ G' ⟨b, ts, fc, o1, o2, kp, tr, hab, hbz, hf, rfl⟩ N hN
    walk_at "gn"
    refine ⟨f, fc, g, e, z, b, rfl, kp.at', by have := tr.1; omega, me, ok, hbz, hlv _ (by omega), fun G2 f2 t2 k2 => ?_, fun b2 ts2 G2 f2 t2 k2 p2 => ?_⟩
    · walk_at "gn"
      exact st_fin (q1 b ts G2 f2 (by simpa using tr.add t2) (kp.trans k2) ⟨hab, hbz, fun _ => by rw [mayE], fun h => by
        obtain ⟨c, hc, fc⟩ := hf h
        exact ⟨c, hc, by rw [firE]; exact fc⟩⟩)
    · walk_at "gn"
      refine st_addT ?_ ?_
      · have h3 := (tr.add t2).le hfu
        rw [sizeLine_eq]; omega
      walk_at "gn"
      refine hN _ _ ⟨b2, ts ++ ts2, f2, _, _, kp.trans k2, by rw [List.length_append]; exact tr.add t2, Nat.le_trans hab p2.le, p2.len, fun h2 => ?_, rfl⟩
      rcases Nat.lt_or_ge a b with c | c
      · exact hf c
      · have e3 : b = a := by omega
        subst e3
        exact p2.fir h2
  · rintro ρ G' ⟨b, ts, fc, o1, o2, kp, tr, hab, hbz, hf, rfl⟩
    walk_at "gn"
    exact st_fin (q1 b ts G' fc tr kp ⟨hab, hbz, fun _ => by rw [mayE], fun h => by
      obtain ⟨c, hc, fc⟩ := hf h
      exact ⟨c, hc, by rw [firE]; exact fc⟩⟩)
theorem cut_head {z s : Str} {a : Nat} (hs : 1 ≤ s.length) (h : cutS z (some (a : Int)) (some ((a : Int) + s.length)) = s) : a + s.length ≤ z.length ∧ ∃ c, z.cps.toList[a]? = some c ∧ s.cps.toList.head? = some c := by
  have e : (a : Int) + (s.length : Int) = ((a + s.length : Nat) : Int) := by omega
  rw [e] at h
  unfold cutS at h
  rw [HT.sIx_nat, HT.sIx_nat] at h
  have h1 : ((z.cps.toList.drop (min a z.length)).take (min (a + s.length) z.length - min a z.length)) = s.cps.toList := by
    have := congrArg (fun w : Str => w.cps.toList) h
    simpa using this
  have hl := congrArg List.length h1
  rw [List.length_take, List.length_drop] at hl
  have hz : z.cps.toList.length = z.length := by simp [Str.length]
  have hs' : s.cps.toList.length = s.length := by simp [Str.length]
  rw [hz, hs'] at hl
  have hle : a + s.length ≤ z.length := by omega
  refine ⟨hle, ?_⟩
  rw [Nat.min_eq_left (show a ≤ z.length by omega), show min (a + s.length) z.length = a + s.length from Nat.min_eq_left hle] at h1
  have hlt : a < z.cps.toList.length := by omega
  refine ⟨z.cps.toList[a], List.getElem?_eq_getElem hlt, ?_⟩
  rw [← h1, List.drop_eq_getElem_cons hlt]
  obtain ⟨k, hk⟩ : ∃ k, a + s.length - a = k + 1 := ⟨s.length - 1, by omega⟩
  rw [hk, List.take_succ_cons]
  rfl
theorem EOk.part {g : Gr} {es : List Ex} (hw : wides es) (hf : firOks es = true) (hc : ∀ c ∈ callsEs es, c ∈ g.map (·.1)) : ∀ e ∈ es, EOk g e :=
  fun e h => ⟨wides_mem h hw, firOks_mem h hf, fun c hc' => hc c (calls_mem h hc')⟩
theorem firAlt_mem {em : List Str} {c : Nat} {S : List Str} {e : Ex} : ∀ {es : List Ex}, e ∈ es → firE em c S e = true → firAlt em c S es = true
  | x :: xs, h, hf => by
    rw [firAlt, Bool.or_eq_true]
    rcases List.mem_cons.mp h with rfl | h
    · exact .inl hf
    · exact .inr (firAlt_mem h hf)
theorem mayAny_mem {em : List Str} {e : Ex} : ∀ {es : List Ex}, e ∈ es → mayE em e = true → mayAny em es = true
  | x :: xs, h, hf => by
    rw [mayAny, Bool.or_eq_true]
    rcases List.mem_cons.mp h with rfl | h
    · exact .inl hf
    · exact .inr (mayAny_mem h hf)
theorem at_lt {α : Type} {l : List α} {a : Nat} (h : a < l.length) : L2.atI l (a : Int) = some l[a] := atI_nat (List.getElem?_eq_getElem h)
theorem pure_lmatch (em : List Str) (S : Nat → List Str) (n : Nat) (ds : List D) (G : Gp) (Q : DK) (E : DX) (h : spLMatch em S (n + 1) ds G Q E) : t_law_match (spLRow em S n) (spLMatch em S n) (spLStar em S n) spLBody (fnEnds Q) (dstart N_law_match ds) G := by
  obtain ⟨f, fu, g, e, z, a, rfl, gf, hfu, me, ok, ha, hlv, q0, q1⟩ := h
  have zl := me.zl
  have hzl : z.cps.toList.length = z.length := by simp [Str.length]
  cases e with
  | eps =>
    rw [dE]; unfold t_law_match
    walk_at "go"
    refine st_ix_lst gf at0 ?_
    walk_at "go"
    refine st_setL gf (ix0 (by simp)) ?_
    have e0 : ([D.int fu] : List D).set 0 (.int (fu - 1)) = [.int (fu - 1)] := rfl
    rw [e0]
    have kp0 : Kp G (gup G f (.lst [.int (fu - 1)])) f (fu - 1) := Kp.put
    have tr0 : trs fu (fu - 1) 0 := ⟨by omega, by omega⟩
    walk_at "go"
    exact st_fin (q1 a [] _ _ tr0 kp0 ⟨Nat.le_refl _, ha, fun _ => by rw [mayE], fun h => absurd h (Nat.lt_irrefl _)⟩)
  | fail =>
    rw [dE]; unfold t_law_match
    walk_at "go"
    refine st_ix_lst gf at0 ?_
    walk_at "go"
    refine st_setL gf (ix0 (by simp)) ?_
    have e0 : ([D.int fu] : List D).set 0 (.int (fu - 1)) = [.int (fu - 1)] := rfl
    rw [e0]
    have kp0 : Kp G (gup G f (.lst [.int (fu - 1)])) f (fu - 1) := Kp.put
    have tr0 : trs fu (fu - 1) 0 := ⟨by omega, by omega⟩
    walk_at "go"
    exact st_fin (q0 _ _ tr0 kp0)
  | text s =>
    rw [dE]; unfold t_law_match
    walk_at "go"
    refine st_ix_lst gf at0 ?_
    walk_at "go"
    refine st_setL gf (ix0 (by simp)) ?_
    have e0 : ([D.int fu] : List D).set 0 (.int (fu - 1)) = [.int (fu - 1)] := rfl
    rw [e0]
    have kp0 : Kp G (gup G f (.lst [.int (fu - 1)])) f (fu - 1) := Kp.put
    have tr0 : trs fu (fu - 1) 0 := ⟨by omega, by omega⟩
    walk_at "go"
    refine st_ix_lst gup_same at0 ?_
    walk_at "go"
    refine ifD (fun cfu => ?_) (fun cfu => ?_)
    · walk_at "go"
      exact st_fin (q0 _ _ tr0 kp0)
    walk_at "go"
    have hf := ok.fir
    simp only [firOk, Bool.and_eq_true, decide_eq_true_eq] at hf
    refine st_len_str (by rw [sizeLine_eq]; omega) ?_
    walk_at "go"
    refine ⟨by rw [sizeLine_eq]; omega, ?_⟩
    walk_at "go"
    refine ifD (fun c1 => ?_) (fun c1 => ?_)
    · obtain ⟨h1, c, h2, h3⟩ := cut_head hf.1.1 c1
      walk_at "go"
      have e1 : (a : Int) + (s.length : Int) = ((a + s.length : Nat) : Int) := by omega
      rw [e1]
      exact st_fin (q1 (a + s.length) [] _ _ tr0 kp0 ⟨by omega, h1, fun h => by omega, fun _ => ⟨c, h2, by rw [firE]; exact decide_eq_true h3⟩⟩)
    · walk_at "go"
      exact st_fin (q0 _ _ tr0 kp0)
  | any =>
    rw [dE]; unfold t_law_match
    walk_at "go"
    refine st_ix_lst gf at0 ?_
    walk_at "go"
    refine st_setL gf (ix0 (by simp)) ?_
    have e0 : ([D.int fu] : List D).set 0 (.int (fu - 1)) = [.int (fu - 1)] := rfl
    rw [e0]
    have kp0 : Kp G (gup G f (.lst [.int (fu - 1)])) f (fu - 1) := Kp.put
    have tr0 : trs fu (fu - 1) 0 := ⟨by omega, by omega⟩
    walk_at "go"
    refine st_ix_lst gup_same at0 ?_
    walk_at "go"
    refine ifD (fun cfu => ?_) (fun cfu => ?_)
    · walk_at "go"
      exact st_fin (q0 _ _ tr0 kp0)
    walk_at "go"
    refine st_len_str (by rw [sizeLine_eq]; omega) ?_
    walk_at "go"
    refine ifD (fun c1 => ?_) (fun c1 => ?_)
    · walk_at "go"
      have hlt : a < z.cps.toList.length := by omega
      have e1 : (a : Int) + 1 = ((a + 1 : Nat) : Int) := by omega
      rw [e1]
      exact st_fin (q1 (a + 1) [] _ _ tr0 kp0 ⟨by omega, by omega, fun h => by omega, fun _ => ⟨z.cps.toList[a], List.getElem?_eq_getElem hlt, by rw [firE]; exact decide_eq_true (me.zc _ (List.getElem_mem hlt))⟩⟩)
    · walk_at "go"
      exact st_fin (q0 _ _ tr0 kp0)
  | set s =>
    rw [dE]; unfold t_law_match
    walk_at "go"
    refine st_ix_lst gf at0 ?_
    walk_at "go"
    refine st_setL gf (ix0 (by simp)) ?_
    have e0 : ([D.int fu] : List D).set 0 (.int (fu - 1)) = [.int (fu - 1)] := rfl
    rw [e0]
    have kp0 : Kp G (gup G f (.lst [.int (fu - 1)])) f (fu - 1) := Kp.put
    have tr0 : trs fu (fu - 1) 0 := ⟨by omega, by omega⟩
    walk_at "go"
    refine st_ix_lst gup_same at0 ?_
    walk_at "go"
    refine ifD (fun cfu => ?_) (fun cfu => ?_)
    · walk_at "go"
      exact st_fin (q0 _ _ tr0 kp0)
    walk_at "go"
    refine st_len_str (by rw [sizeLine_eq]; omega) ?_
    walk_at "go"
    refine ifD (fun c1 => ?_) (fun c1 => ?_)
    · have hlt : a < z.cps.toList.length := by omega
      walk_at "go"
      refine st_ix_str (by rw [sizeLine_eq]; omega) (at_lt hlt) ?_
      walk_at "go"
      refine ifD (fun c2 => ?_) (fun c2 => ?_)
      · walk_at "go"
        have e1 : (a : Int) + 1 = ((a + 1 : Nat) : Int) := by omega
        rw [e1]
        exact st_fin (q1 (a + 1) [] _ _ tr0 kp0 ⟨by omega, by omega, fun h => by omega, fun _ => ⟨z.cps.toList[a], List.getElem?_eq_getElem hlt, by rw [firE]; exact decide_eq_true c2⟩⟩)
      · walk_at "go"
        exact st_fin (q0 _ _ tr0 kp0)
    · walk_at "go"
      exact st_fin (q0 _ _ tr0 kp0)
  | seq es =>
    rw [dE]; unfold t_law_match
    walk_at "go"
    refine st_ix_lst gf at0 ?_
    walk_at "go"
    refine st_setL gf (ix0 (by simp)) ?_
    have e0 : ([D.int fu] : List D).set 0 (.int (fu - 1)) = [.int (fu - 1)] := rfl
    rw [e0]
    have kp0 : Kp G (gup G f (.lst [.int (fu - 1)])) f (fu - 1) := Kp.put
    have tr0 : trs fu (fu - 1) 0 := ⟨by omega, by omega⟩
    walk_at "go"
    refine st_ix_lst gup_same at0 ?_
    walk_at "go"
    refine ifD (fun cfu => ?_) (fun cfu => ?_)
    · walk_at "go"
      exact st_fin (q0 _ _ tr0 kp0)
    walk_at "go"
    have hw : es.length ≤ 16 ∧ wides es := ok.wd
    have hf := ok.fir
    have hc := ok.calls
    simp only [firOk, callsE] at hf hc
    exact ⟨f, fu - 1, g, es, z, a, rfl, gup_same, by omega, me, EOk.part hw.2 hf hc, ha, hlv, fun G' f2 t2 k2 => st_fin (q0 G' f2 (by simpa using tr0.add t2) (kp0.trans k2)), fun b ts G' f2 t2 k2 p2 => st_fin (q1 b ts G' f2 (by simpa using tr0.add t2) (kp0.trans k2) p2)⟩
  | alt es =>
    rw [dE]; unfold t_law_match
    walk_at "go"
    refine st_ix_lst gf at0 ?_
    walk_at "go"
    refine st_setL gf (ix0 (by simp)) ?_
    have e0 : ([D.int fu] : List D).set 0 (.int (fu - 1)) = [.int (fu - 1)] := rfl
    rw [e0]
    have kp0 : Kp G (gup G f (.lst [.int (fu - 1)])) f (fu - 1) := Kp.put
    have tr0 : trs fu (fu - 1) 0 := ⟨by omega, by omega⟩
    walk_at "go"
    refine st_ix_lst gup_same at0 ?_
    walk_at "go"
    refine ifD (fun cfu => ?_) (fun cfu => ?_)
    · walk_at "go"
      exact st_fin (q0 _ _ tr0 kp0)
    walk_at "go"
    have hw : es.length ≤ 16 ∧ wides es := ok.wd
    have hf := ok.fir
    have hc := ok.calls
    simp only [firOk, callsE] at hf hc
    have okp := EOk.part hw.2 hf hc
    refine for_go (fun xs ρ G' => ∃ (l : List Ex) (fc : Int) (o1 o2 : Option D), xs = dEs l ∧ (∀ e ∈ l, e ∈ es) ∧ Kp G G' f fc ∧ trs fu fc 0 ∧ ρ = [some (.ref f), some (dG g), some (dE (.alt es)), some (.str z), some (.int a), some (.str "alt"), none, none, o1, o2])
      ⟨es, _, _, _, rfl, fun _ h => h, kp0, tr0, by rw [dE]; rfl⟩ (fun _ _ _ _ => trivial) ?_ ?_
    · rintro y ys ρ G' ⟨l, fc, o1, o2, hl, hm, kp, tr, rfl⟩ N hN
      cases l with
      | nil => cases hl
      | cons e l =>
        injection hl with h1 h2
        subst h1 h2
        have he := hm e List.mem_cons_self
        walk_at "go"
        refine ⟨f, fc, g, e, z, a, rfl, kp.at', by have := tr.1; omega, me, okp e he, ha, hlv e he, fun G2 f2 t2 k2 => ?_, fun b2 ts2 G2 f2 t2 k2 p2 => ?_⟩
        · walk_at "go"
          exact hN _ _ ⟨l, f2, _, _, rfl, fun e' h' => hm e' (List.mem_cons_of_mem _ h'), kp.trans k2, by simpa using tr.add t2, rfl⟩
        · walk_at "go"
          refine st_fin (q1 b2 ts2 G2 f2 (by simpa using tr.add t2) (kp.trans k2) ⟨p2.le, p2.len, fun h => ?_, fun h => ?_⟩)
          · rw [mayE]; exact mayAny_mem he (p2.emp h)
          · obtain ⟨c, h1, h2⟩ := p2.fir h
            exact ⟨c, h1, by rw [firE]; exact firAlt_mem he h2⟩
    · rintro ρ G' ⟨l, fc, o1, o2, hl, hm, kp, tr, rfl⟩
      walk_at "go"
      exact st_fin (q0 G' fc tr kp)
  | star e =>
    rw [dE]; unfold t_law_match
    walk_at "go"
    refine st_ix_lst gf at0 ?_
    walk_at "go"
    refine st_setL gf (ix0 (by simp)) ?_
    have e0 : ([D.int fu] : List D).set 0 (.int (fu - 1)) = [.int (fu - 1)] := rfl
    rw [e0]
    have kp0 : Kp G (gup G f (.lst [.int (fu - 1)])) f (fu - 1) := Kp.put
    have tr0 : trs fu (fu - 1) 0 := ⟨by omega, by omega⟩
    walk_at "go"
    refine st_ix_lst gup_same at0 ?_
    walk_at "go"
    refine ifD (fun cfu => ?_) (fun cfu => ?_)
    · walk_at "go"
      exact st_fin (q0 _ _ tr0 kp0)
    walk_at "go"
    have hf := ok.fir
    have hc := ok.calls
    simp only [firOk, callsE] at hf hc
    exact ⟨f, fu - 1, g, e, z, a, rfl, gup_same, by omega, me, ⟨ok.wd, hf, hc⟩, ha, hlv, fun G' f2 t2 k2 => st_fin (q0 G' f2 (by simpa using tr0.add t2) (kp0.trans k2)), fun b ts G' f2 t2 k2 p2 => st_fin (q1 b ts G' f2 (by simpa using tr0.add t2) (kp0.trans k2) p2)⟩
  | call s =>
    rw [dE]; unfold t_law_match
    walk_at "go"
    refine st_ix_lst gf at0 ?_
    walk_at "go"
    refine st_setL gf (ix0 (by simp)) ?_
    have e0 : ([D.int fu] : List D).set 0 (.int (fu - 1)) = [.int (fu - 1)] := rfl
    rw [e0]
    have kp0 : Kp G (gup G f (.lst [.int (fu - 1)])) f (fu - 1) := Kp.put
    have tr0 : trs fu (fu - 1) 0 := ⟨by omega, by omega⟩
    walk_at "go"
    refine st_ix_lst gup_same at0 ?_
    walk_at "go"
    refine ifD (fun cfu => ?_) (fun cfu => ?_)
    · walk_at "go"
      exact st_fin (q0 _ _ tr0 kp0)
    walk_at "go"
    have hc := ok.calls s (by simp [callsE])
    refine ⟨g, s, rfl, hc, fun r hr er => ?_⟩
    walk_at "go"
    refine ⟨f, fu - 1, g, r.2, z, a, rfl, gup_same, by omega, me, ⟨me.wd r hr, me.fir r hr, me.calls r hr⟩, ha, hlv r hr er, fun G' f2 t2 k2 => st_fin (q0 G' f2 (by simpa using tr0.add t2) (kp0.trans k2)), fun b ts G' f2 t2 k2 p2 => st_fin (q1 b ts G' f2 (by simpa using tr0.add t2) (kp0.trans k2) ⟨p2.le, p2.len, fun h => ?_, fun h => ?_⟩)⟩
    · rw [mayE, ← er]; exact decide_eq_true (me.eme r hr (p2.emp h))
    · obtain ⟨c, h1, h2⟩ := p2.fir h
      exact ⟨c, h1, by rw [firE, ← er]; exact decide_eq_true (me.Se r hr c h2)⟩
  | opt e =>
    rw [dE]; unfold t_law_match
    walk_at "go"
    refine st_ix_lst gf at0 ?_
    walk_at "go"
    refine st_setL gf (ix0 (by simp)) ?_
    have e0 : ([D.int fu] : List D).set 0 (.int (fu - 1)) = [.int (fu - 1)] := rfl
    rw [e0]
    have kp0 : Kp G (gup G f (.lst [.int (fu - 1)])) f (fu - 1) := Kp.put
    have tr0 : trs fu (fu - 1) 0 := ⟨by omega, by omega⟩
    walk_at "go"
    refine st_ix_lst gup_same at0 ?_
    walk_at "go"
    refine ifD (fun cfu => ?_) (fun cfu => ?_)
    · walk_at "go"
      exact st_fin (q0 _ _ tr0 kp0)
    walk_at "go"
    refine st_ix_tup (d := dE e) (by rfl) ?_
    walk_at "go"
    have hf := ok.fir
    have hc := ok.calls
    simp only [firOk, callsE] at hf hc
    refine ⟨f, fu - 1, g, e, z, a, rfl, gup_same, by omega, me, ⟨ok.wd, hf, hc⟩, ha, hlv, fun G2 f2 t2 k2 => ?_, fun b ts G2 f2 t2 k2 p2 => ?_⟩
    · walk_at "go"
      exact st_fin (q1 a [] G2 f2 (by simpa using (tr0.add t2).z) (kp0.trans k2) ⟨Nat.le_refl _, ha, fun _ => by rw [mayE], fun h => absurd h (Nat.lt_irrefl _)⟩)
    · walk_at "go"
      exact st_fin (q1 b ts G2 f2 (by simpa using tr0.add t2) (kp0.trans k2) ⟨p2.le, p2.len, fun h => by rw [mayE], fun h => by
        obtain ⟨c, h1, h2⟩ := p2.fir h
        exact ⟨c, h1, by rw [firE]; exact h2⟩⟩)
  | nt e =>
    rw [dE]; unfold t_law_match
    walk_at "go"
    refine st_ix_lst gf at0 ?_
    walk_at "go"
    refine st_setL gf (ix0 (by simp)) ?_
    have e0 : ([D.int fu] : List D).set 0 (.int (fu - 1)) = [.int (fu - 1)] := rfl
    rw [e0]
    have kp0 : Kp G (gup G f (.lst [.int (fu - 1)])) f (fu - 1) := Kp.put
    have tr0 : trs fu (fu - 1) 0 := ⟨by omega, by omega⟩
    walk_at "go"
    refine st_ix_lst gup_same at0 ?_
    walk_at "go"
    refine ifD (fun cfu => ?_) (fun cfu => ?_)
    · walk_at "go"
      exact st_fin (q0 _ _ tr0 kp0)
    walk_at "go"
    refine st_ix_tup (d := dE e) (by rfl) ?_
    walk_at "go"
    have hf := ok.fir
    have hc := ok.calls
    simp only [firOk, callsE] at hf hc
    refine ⟨f, fu - 1, g, e, z, a, rfl, gup_same, by omega, me, ⟨ok.wd, hf, hc⟩, ha, hlv, fun G2 f2 t2 k2 => ?_, fun b ts G2 f2 t2 k2 p2 => ?_⟩
    · walk_at "go"
      exact st_fin (q1 a [] G2 f2 (by simpa using (tr0.add t2).z) (kp0.trans k2) ⟨Nat.le_refl _, ha, fun _ => by rw [mayE], fun h => absurd h (Nat.lt_irrefl _)⟩)
    · walk_at "go"
      exact st_fin (q0 G2 f2 (by simpa using (tr0.add t2).z) (kp0.trans k2))
  | an e =>
    rw [dE]; unfold t_law_match
    walk_at "go"
    refine st_ix_lst gf at0 ?_
    walk_at "go"
    refine st_setL gf (ix0 (by simp)) ?_
    have e0 : ([D.int fu] : List D).set 0 (.int (fu - 1)) = [.int (fu - 1)] := rfl
    rw [e0]
    have kp0 : Kp G (gup G f (.lst [.int (fu - 1)])) f (fu - 1) := Kp.put
    have tr0 : trs fu (fu - 1) 0 := ⟨by omega, by omega⟩
    walk_at "go"
    refine st_ix_lst gup_same at0 ?_
    walk_at "go"
    refine ifD (fun cfu => ?_) (fun cfu => ?_)
    · walk_at "go"
      exact st_fin (q0 _ _ tr0 kp0)
    walk_at "go"
    refine st_ix_tup (d := dE e) (by rfl) ?_
    walk_at "go"
    have hf := ok.fir
    have hc := ok.calls
    simp only [firOk, callsE] at hf hc
    refine ⟨f, fu - 1, g, e, z, a, rfl, gup_same, by omega, me, ⟨ok.wd, hf, hc⟩, ha, hlv, fun G2 f2 t2 k2 => ?_, fun b ts G2 f2 t2 k2 p2 => ?_⟩
    · walk_at "go"
      exact st_fin (q0 G2 f2 (by simpa using (tr0.add t2).z) (kp0.trans k2))
    · walk_at "go"
      exact st_fin (q1 a [] G2 f2 (by simpa using (tr0.add t2).z) (kp0.trans k2) ⟨Nat.le_refl _, ha, fun _ => by rw [mayE], fun h => absurd h (Nat.lt_irrefl _)⟩)
  | mark l e =>
    rw [dE]; unfold t_law_match
    walk_at "go"
    refine st_ix_lst gf at0 ?_
    walk_at "go"
    refine st_setL gf (ix0 (by simp)) ?_
    have e0 : ([D.int fu] : List D).set 0 (.int (fu - 1)) = [.int (fu - 1)] := rfl
    rw [e0]
    have kp0 : Kp G (gup G f (.lst [.int (fu - 1)])) f (fu - 1) := Kp.put
    have tr0 : trs fu (fu - 1) 0 := ⟨by omega, by omega⟩
    walk_at "go"
    refine st_ix_lst gup_same at0 ?_
    walk_at "go"
    refine ifD (fun cfu => ?_) (fun cfu => ?_)
    · walk_at "go"
      exact st_fin (q0 _ _ tr0 kp0)
    walk_at "go"
    refine st_ix_tup (d := dE e) (by rfl) ?_
    walk_at "go"
    have hf := ok.fir
    have hc := ok.calls
    simp only [firOk, callsE] at hf hc
    refine ⟨f, fu - 1, g, e, z, a, rfl, gup_same, by omega, me, ⟨ok.wd, hf, hc⟩, ha, hlv, fun G2 f2 t2 k2 => ?_, fun b ts G2 f2 t2 k2 p2 => ?_⟩
    · walk_at "go"
      exact st_fin (q0 G2 f2 (by simpa using (tr0.add t2).z) (kp0.trans k2))
    · walk_at "go"
      exact st_fin (q1 b [_] G2 f2 ⟨by have := t2.1; omega, by have := t2.2; have := t2.1; simp only [List.length_singleton]; omega⟩ (kp0.trans k2) ⟨p2.le, p2.len, fun h => by rw [mayE]; exact p2.emp h, fun h => by
        obtain ⟨c, h1, h2⟩ := p2.fir h
        exact ⟨c, h1, by rw [firE]; exact h2⟩⟩)

end LW
namespace LW
open PySem L2 DL GX
local macro_rules | `(tactic| walk_at "go1") => `(tactic| first
  | with_reducible refine st_seq ?_ | with_reducible refine st_asg ?_ | with_reducible refine st_name ?_
  | (with_reducible refine st_v ?_; refine ⟨_, rfl, ?_⟩) | with_reducible refine st_c ?_ | with_reducible refine st_op ?_ | with_reducible refine st_test ?_ | with_reducible refine st_tk ?_
  | with_reducible refine st_if ?_ | with_reducible refine st_rt ?_ | with_reducible refine st_nil ?_ | with_reducible refine st_cons ?_ | with_reducible refine st_tup ?_
  | with_reducible refine st_sz sm1 ?_ | with_reducible refine st_sz sm2 ?_ | with_reducible refine st_sz sm3 ?_ | with_reducible refine st_sz sm0 ?_ | with_reducible refine st_sz sm4 ?_ | with_reducible refine st_sz sm5 ?_
  | with_reducible refine st_eq_str ?_ | with_reducible refine st_eq_int ?_
  | with_reducible refine st_ix_tup at0 ?_ | with_reducible refine st_ix_tup at1 ?_ | with_reducible refine st_ix_tup at2 ?_
  | with_reducible refine ifDt (by decide +kernel) ?_ | with_reducible refine ifDf (by decide +kernel) ?_ | with_reducible refine ifT (by decide +kernel) ?_ | with_reducible refine ifF (by decide +kernel) ?_
  | with_reducible refine st_in_tup rfl rfl ?_ | with_reducible refine st_next ?_
  | with_reducible refine st_truth ?_ | with_reducible refine st_tr_bl ?_ | with_reducible refine st_tr_tup ?_ | with_reducible refine st_and ?_ | with_reducible refine st_or ?_ | with_reducible refine st_not ?_
  | with_reducible refine st_cb ?_ | with_reducible refine st_call ?_ | with_reducible refine st_app ?_ | with_reducible refine st_drop ?_ | with_reducible refine st_ml ?_
  | with_reducible refine st_lt ?_ | with_reducible refine st_le ?_ | with_reducible refine st_gt ?_ | with_reducible refine st_ge ?_ | with_reducible refine st_add ?_ | with_reducible refine st_sub ?_
  | with_reducible refine st_ne_bl ?_ | with_reducible refine st_eq_bl ?_ | with_reducible refine st_isi_blb ?_ | with_reducible refine st_ne_str ?_ | with_reducible refine st_ne_int ?_ | with_reducible refine st_lst ?_ | with_reducible refine st_len_tup ?_ | with_reducible refine st_int ?_ | with_reducible refine st_int_bl ?_ | with_reducible refine st_abs ?_
  | with_reducible refine st_for ?_ | with_reducible refine st_lc ?_ | with_reducible refine st_sseq ?_ | with_reducible refine st_it_tup ?_ | with_reducible refine st_it_str ?_ | with_reducible refine st_it_rol ?_
  | with_reducible refine st_rng1 ?_ | with_reducible refine st_rng2 ?_ | with_reducible refine st_slice ?_ | with_reducible refine st_nopart ?_ | with_reducible refine st_part ?_ | with_reducible refine st_pk ?_
  | with_reducible refine st_gtup rfl ?_ | with_reducible refine st_gcons ?_ | with_reducible refine st_gnil ?_ | with_reducible refine st_gsub ?_ | with_reducible refine st_ife ?_ | with_reducible refine st_andV ?_ | with_reducible refine st_orV ?_ | with_reducible refine st_notV ?_ | with_reducible refine st_bk ?_
  | with_reducible refine st_isN_non ?_ | with_reducible refine st_isN_tup ?_ | with_reducible refine st_notN_non ?_ | with_reducible refine st_notN_tup ?_ | with_reducible refine st_rtN ?_ | with_reducible refine st_brk ?_ | with_reducible refine st_cnt ?_ | with_reducible refine st_yes ?_
  | with_reducible refine st_join ?_ | with_reducible refine st_sk ?_ | with_reducible refine st_neg ?_ | with_reducible refine st_dc ?_ | with_reducible refine st_chain ?_ | with_reducible refine st_inS ?_ | with_reducible refine st_notInS ?_ | with_reducible refine st_listA_tup ?_)
local macro_rules | `(tactic| walk_at "go") => `(tactic| repeat walk_at "go1")
local macro_rules | `(tactic| walk_at "gn1") => `(tactic| first
  | with_reducible refine st_seq ?_ | with_reducible refine st_asg ?_ | with_reducible refine st_name ?_
  | (with_reducible refine st_v ?_; refine ⟨_, rfl, ?_⟩) | with_reducible refine st_c ?_ | with_reducible refine st_op ?_ | with_reducible refine st_test ?_ | with_reducible refine st_tk ?_
  | with_reducible refine st_if ?_ | with_reducible refine st_rt ?_ | with_reducible refine st_nil ?_ | with_reducible refine st_cons ?_ | with_reducible refine st_tup ?_
  | with_reducible refine st_sz sm1 ?_ | with_reducible refine st_sz sm2 ?_ | with_reducible refine st_sz sm3 ?_ | with_reducible refine st_sz sm0 ?_ | with_reducible refine st_sz sm4 ?_ | with_reducible refine st_sz sm5 ?_
  | with_reducible refine st_eq_str ?_ | with_reducible refine st_eq_int ?_
  | with_reducible refine st_ix_tup at0 ?_ | with_reducible refine st_ix_tup at1 ?_ | with_reducible refine st_ix_tup at2 ?_
  | with_reducible refine ifDt (by decide +kernel) ?_ | with_reducible refine ifDf (by decide +kernel) ?_ | with_reducible refine ifT (by decide +kernel) ?_ | with_reducible refine ifF (by decide +kernel) ?_
  | with_reducible refine st_in_tup rfl rfl ?_ | with_reducible refine st_next ?_
  | with_reducible refine st_truth ?_ | with_reducible refine st_tr_bl ?_ | with_reducible refine st_tr_tup ?_ | with_reducible refine st_not ?_
  | with_reducible refine st_cb ?_ | with_reducible refine st_call ?_ | with_reducible refine st_app ?_ | with_reducible refine st_drop ?_ | with_reducible refine st_ml ?_
  | with_reducible refine st_lt ?_ | with_reducible refine st_le ?_ | with_reducible refine st_gt ?_ | with_reducible refine st_ge ?_ | with_reducible refine st_add ?_ | with_reducible refine st_sub ?_
  | with_reducible refine st_ne_bl ?_ | with_reducible refine st_eq_bl ?_ | with_reducible refine st_isi_blb ?_ | with_reducible refine st_ne_str ?_ | with_reducible refine st_ne_int ?_ | with_reducible refine st_lst ?_ | with_reducible refine st_len_tup ?_ | with_reducible refine st_int ?_ | with_reducible refine st_int_bl ?_ | with_reducible refine st_abs ?_
  | with_reducible refine st_for ?_ | with_reducible refine st_lc ?_ | with_reducible refine st_sseq ?_ | with_reducible refine st_it_tup ?_ | with_reducible refine st_it_str ?_ | with_reducible refine st_it_rol ?_
  | with_reducible refine st_rng1 ?_ | with_reducible refine st_rng2 ?_ | with_reducible refine st_slice ?_ | with_reducible refine st_nopart ?_ | with_reducible refine st_part ?_ | with_reducible refine st_pk ?_
  | with_reducible refine st_gtup rfl ?_ | with_reducible refine st_gcons ?_ | with_reducible refine st_gnil ?_ | with_reducible refine st_gsub ?_ | with_reducible refine st_ife ?_ | with_reducible refine st_andV ?_ | with_reducible refine st_orV ?_ | with_reducible refine st_notV ?_ | with_reducible refine st_bk ?_
  | with_reducible refine st_isN_non ?_ | with_reducible refine st_isN_tup ?_ | with_reducible refine st_notN_non ?_ | with_reducible refine st_notN_tup ?_ | with_reducible refine st_rtN ?_ | with_reducible refine st_brk ?_ | with_reducible refine st_cnt ?_ | with_reducible refine st_yes ?_
  | with_reducible refine st_join ?_ | with_reducible refine st_sk ?_ | with_reducible refine st_neg ?_ | with_reducible refine st_dc ?_ | with_reducible refine st_chain ?_ | with_reducible refine st_inS ?_ | with_reducible refine st_notInS ?_ | with_reducible refine st_listA_tup ?_)
local macro_rules | `(tactic| walk_at "gn") => `(tactic| repeat walk_at "gn1")

theorem FnD.ex {ι : Type} {P : Program} {w : World} {K : PySem.W.Frag} {mg : Str → Option Value} {base : Heap} {k : Nat} {f : Addr} {fd : FuncData} {ps : List Str} {sp : ι → DSp} (F : ∀ i, FnD P w K mg base k f fd ps (sp i)) :
    FnD P w K mg base k f fd ps (fun ds G Q E => ∃ i, sp i ds G Q E) :=
  ⟨fun ds G Q E ⟨i, h⟩ => (F i).len ds G Q E h, fun A outer s H args us vs ds G Q E hr he hb hv hd hg ⟨i, h⟩ => (F i).run A outer s H args us vs ds G Q E hr he hb hv hd hg h⟩
def spLM (n : Nat) : DSp := fun ds G Q E => ∃ i : List Str × (Nat → List Str), spLMatch i.1 i.2 n ds G Q E
/-! ### drawn expressions -/
theorem tk_ok {e : Ex} (h : Tk e) : dep e = 1 ∧ wf e = true ∧ firOk e = true ∧ callsE e = [] ∧ takes e = true := by
  cases h with
  | any => exact ⟨by simp [dep], by simp [wf], by simp [firOk], by simp [callsE], rfl⟩
  | set h =>
    refine ⟨by simp [dep], ?_, ?_, by simp [callsE], rfl⟩
    · rcases h with rfl | rfl | rfl | rfl <;> decide +kernel
    · rcases h with rfl | rfl | rfl | rfl <;> decide +kernel
  | text h =>
    refine ⟨by simp [dep], ?_, ?_, by simp [callsE], rfl⟩
    · rcases h with rfl | rfl | rfl | rfl | rfl <;> decide +kernel
    · rcases h with rfl | rfl | rfl | rfl | rfl <;> decide +kernel
structure DrOk (m d : Nat) (e : Ex) : Prop where
  dep : dep e ≤ 2 * d + 1
  wf : wf e = true
  fir : firOk e = true
  calls : ∀ c ∈ callsE e, ∃ k, k < m ∧ c = nm5 k
theorem dr_ok {i m : Nat} : ∀ {d : Nat} {e : Ex}, Dr i m d e → DrOk m d e := by
  intro d e h
  induction h with
  | eps d => exact ⟨by simp [dep], by rw [wf], by simp [firOk], by simp [callsE]⟩
  | fail d => exact ⟨by simp [dep], by rw [wf], by simp [firOk], by simp [callsE]⟩
  | tk h => obtain ⟨h1, h2, h3, h4, _⟩ := tk_ok h; exact ⟨by omega, h2, h3, by rw [h4]; simp⟩
  | call k h h2 => exact ⟨by simp [dep], by rw [wf]; exact nm5_name k, by simp [firOk], fun c hc => ⟨k, h2, by simpa [callsE] using hc⟩⟩
  | front h k h2 =>
    obtain ⟨t1, t2, t3, t4, _⟩ := tk_ok h
    exact ⟨by simp [dep, deps, t1]; omega, by simp [wf, wfs, t2, nm5_name], by simp [firOk, firOks, t3], fun c hc => ⟨k, h2, by simpa [callsE, callsEs, t4] using hc⟩⟩
  | star h h2 ih =>
    obtain ⟨t1, t2, t3, t4, _⟩ := tk_ok h
    refine ⟨?_, by simp [wf, wfs, t2, ih.wf], by simp [firOk, firOks, t3, ih.fir], fun c hc => ih.calls c (by simpa [callsE, callsEs, t4] using hc)⟩
    have := ih.dep
    simp only [dep, deps, t1]; omega
  | opt h ih => exact ⟨by have := ih.dep; simp only [dep]; omega, by rw [wf]; exact ih.wf, by rw [firOk]; exact ih.fir, by rw [callsE]; exact ih.calls⟩
  | nt h ih => exact ⟨by have := ih.dep; simp only [dep]; omega, by rw [wf]; exact ih.wf, by rw [firOk]; exact ih.fir, by rw [callsE]; exact ih.calls⟩
  | an h ih => exact ⟨by have := ih.dep; simp only [dep]; omega, by rw [wf]; exact ih.wf, by rw [firOk]; exact ih.fir, by rw [callsE]; exact ih.calls⟩
  | mark hl h ih => exact ⟨by have := ih.dep; simp only [dep]; omega, by rw [wf, ih.wf]; rcases hl with rfl | rfl <;> decide +kernel, by rw [firOk]; exact ih.fir, by rw [callsE]; exact ih.calls⟩
  | seq2 h h2 ih ih2 => exact ⟨by have := ih.dep; have := ih2.dep; simp only [dep, deps]; omega, by simp [wf, wfs, ih.wf, ih2.wf], by simp [firOk, firOks, ih.fir, ih2.fir], fun c hc => by
      simp only [callsE, callsEs, List.append_nil, List.mem_append] at hc
      exact hc.elim (ih.calls c) (ih2.calls c)⟩
  | alt2 h h2 ih ih2 => exact ⟨by have := ih.dep; have := ih2.dep; simp only [dep, deps]; omega, by simp [wf, wfs, ih.wf, ih2.wf], by simp [firOk, firOks, ih.fir, ih2.fir], fun c hc => by
      simp only [callsE, callsEs, List.append_nil, List.mem_append] at hc
      exact hc.elim (ih.calls c) (ih2.calls c)⟩
  | seq3 h h2 h3 ih ih2 ih3 => exact ⟨by have := ih.dep; have := ih2.dep; have := ih3.dep; simp only [dep, deps]; omega, by simp [wf, wfs, ih.wf, ih2.wf, ih3.wf], by simp [firOk, firOks, ih.fir, ih2.fir, ih3.fir], fun c hc => by
      simp only [callsE, callsEs, List.append_nil, List.mem_append] at hc
      exact hc.elim (ih.calls c) fun hc => hc.elim (ih2.calls c) (ih3.calls c)⟩
  | alt3 h h2 h3 ih ih2 ih3 => exact ⟨by have := ih.dep; have := ih2.dep; have := ih3.dep; simp only [dep, deps]; omega, by simp [wf, wfs, ih.wf, ih2.wf, ih3.wf], by simp [firOk, firOks, ih.fir, ih2.fir, ih3.fir], fun c hc => by
      simp only [callsE, callsEs, List.append_nil, List.mem_append] at hc
      exact hc.elim (ih.calls c) fun hc => hc.elim (ih2.calls c) (ih3.calls c)⟩
theorem lv_tk {g : Gr} {n rem : Nat} {e : Ex} (h : Tk e) (hn : 1 ≤ n) : LvP g n rem e := by
  obtain ⟨n, rfl⟩ : ∃ k, n = k + 1 := ⟨n - 1, by omega⟩
  cases h <;> exact True.intro
theorem nm5_inj {j k : Nat} (hj : j < 4) (hk : k < 4) (h : nm5 j = nm5 k) : j = k := by
  have : ∀ j : Fin 4, ∀ k : Fin 4, nm5 j.1 = nm5 k.1 → j = k := by decide +kernel
  have := this ⟨j, hj⟩ ⟨k, hk⟩ h
  exact congrArg Fin.val this
theorem lv_dr {g : Gr} {D : Nat} (hg : GrDr D g) (hD : D ≤ 3) : ∀ (n rem j d : Nat) (e : Ex), Dr j g.length d e → rem * 25 + (g.length - j) * 5 + d + 2 ≤ n → LvP g n rem e := by
  intro n
  induction n using Nat.strongRecOn with
  | _ n ih0 =>
  intro rem j d e h hn
  cases n with
  | zero => omega
  | succ n =>
    have ih := ih0 n (by omega)
    have hl := hg.len
    have call : ∀ (m rem k : Nat), m < n + 1 → k < g.length → rem * 25 + (g.length - k) * 5 + D + 3 ≤ m + 1 → LvP g (m + 1) rem (.call (nm5 k)) := by
      intro m rem k hm hk hn r hr er
      obtain ⟨jj, hjj⟩ := List.getElem?_of_mem hr
      obtain ⟨e1, e2⟩ := hg.at' jj r hjj
      have hlt : jj < g.length := (List.getElem?_eq_some_iff.mp hjj).1
      have : jj = k := nm5_inj (by omega) (by omega) (by rw [← e1, er])
      subst this
      exact ih0 m hm rem jj D r.2 e2 (by omega)
    cases h with
    | eps d => exact True.intro
    | fail d => exact True.intro
    | tk h => exact lv_tk h (by omega)
    | call k h1 h2 =>
      have h5 : (g.length - k) * 5 + 5 ≤ (g.length - j) * 5 := by omega
      exact call n rem k (by omega) h2 (by omega)
    | front ht k h2 =>
      refine ⟨lv_tk ht (by omega), fun r' hr' hlt => ⟨?_, fun _ _ _ => True.intro⟩⟩
      have h6 := hlt (tk_ok ht).2.2.2.2
      have h5 : (g.length - k) * 5 ≤ 20 := by omega
      obtain ⟨n, rfl⟩ : ∃ k, n = k + 1 := ⟨n - 1, by omega⟩
      exact call n r' k (by omega) h2 (by omega)
    | star ht h2 =>
      intro r0 hr0
      rcases Nat.eq_zero_or_pos r0 with z | z
      · subst z
        obtain ⟨n, rfl⟩ : ∃ k, n = k + 1 := ⟨n - 1, by omega⟩
        exact ⟨lv_tk ht (by omega), fun r1 h1 hlt => absurd (hlt (tk_ok ht).2.2.2.2) (by omega)⟩
      · obtain ⟨n, rfl⟩ : ∃ k, n = k + 1 := ⟨n - 1, by omega⟩
        refine ⟨lv_tk ht (by omega), fun r1 h1 hlt => ⟨?_, fun _ _ _ => True.intro⟩⟩
        have h6 := hlt (tk_ok ht).2.2.2.2
        exact ih0 n (by omega) r1 j _ _ h2 (by omega)
    | opt h1 => exact ih rem j _ _ h1 (by omega)
    | nt h1 => exact ih rem j _ _ h1 (by omega)
    | an h1 => exact ih rem j _ _ h1 (by omega)
    | mark hl h1 => exact ih rem j _ _ h1 (by omega)
    | seq2 h1 h2 => exact ⟨ih rem j _ _ h1 (by omega), fun r1 l1 _ => ⟨ih r1 j _ _ h2 (by omega), fun _ _ _ => True.intro⟩⟩
    | seq3 h1 h2 h3 => exact ⟨ih rem j _ _ h1 (by omega), fun r1 l1 _ => ⟨ih r1 j _ _ h2 (by omega), fun r2 l2 _ => ⟨ih r2 j _ _ h3 (by omega), fun _ _ _ => True.intro⟩⟩⟩
    | alt2 h1 h2 =>
      intro x hx
      simp only [List.mem_cons, List.not_mem_nil, or_false] at hx
      rcases hx with rfl | rfl
      · exact ih rem j _ _ h1 (by omega)
      · exact ih rem j _ _ h2 (by omega)
    | alt3 h1 h2 h3 =>
      intro x hx
      simp only [List.mem_cons, List.not_mem_nil, or_false] at hx
      rcases hx with rfl | rfl | rfl
      · exact ih rem j _ _ h1 (by omega)
      · exact ih rem j _ _ h2 (by omega)
      · exact ih rem j _ _ h3 (by omega)

end LW
namespace LW
open PySem L2 DL GX
def t_law (sp_law_stream : DSp) (sp_law_grammar : DSp) (sp_law_take : DSp) (sp_law_empties : DSp) (sp_law_firsts : DSp) (sp_law_text : DSp) (sp_firsts : DSp) (sp_law_match : DSp) : DTS :=
 dSeq (dAsg (dCall sp_law_stream [] (dCons (dVar 0) (dNil))) (dgName 1))
 (dSeq (dAsg (dCall sp_law_grammar [] (dCons (dVar 1) (dCons (dOp rAdd (dC (.int 1)) (dCall sp_law_take [] (dCons (dVar 1) (dCons (dC (.int 3)) (dNil))))) (dNil)))) (dgName 2))
 (dSeq (dAsg (dCall sp_law_empties [] (dCons (dVar 2) (dNil))) (dgName 3))
 (dSeq (dAsg (dNewK) (dgName 4))
 (dSeq (dFor (sSeq (dVar 2)) (dgName 5)
 (dAsg (dLst (dNil)) (dgSub (dVar 4) (dOp rIxD (dVar 5) (dC (.int 0))) sPutD)))
 (dSeq (dFor (sRng1 (dCons (dOp rAdd (dCB cLen (dCons (dVar 2) (dNil))) (dC (.int 1))) (dNil))) (dgName 6)
 (dSeq (dAsg (dNewK) (dgName 7))
 (dSeq (dFor (sSeq (dVar 2)) (dgName 5)
 (dAsg (dCall sp_law_firsts [] (dCons (dOp rIxD (dVar 5) (dC (.int 1))) (dCons (dVar 4) (dCons (dVar 3) (dNil))))) (dgSub (dVar 7) (dOp rIxD (dVar 5) (dC (.int 0))) sPutD)))
 (dAsg (dVar 7) (dgName 4)))))
 (dSeq (dAsg (dCall sp_law_text [] (dCons (dVar 1) (dNil))) (dgName 8))
 (dSeq (dAsg (dCall sp_law_take [] (dCons (dVar 1) (dCons (dOp rAdd (dCB cLen (dCons (dVar 8) (dNil))) (dC (.int 1))) (dNil)))) (dgName 9))
 (dSeq (dFor (sSeq (dVar 2)) (dgName 5)
 (dSeq (dAsg (dJoin (dC (.str "")) (dLc (sSeq (dC (.str " !\"#$&'()*+,-./0123456789:;<=>?@ABCDEFGHIJKLMNOPQRSTUVWXYZ[\\]^_`abcdefghijklmnopqrstuvwxyz{|}~"))) 13 (dTest (dOp (rInSeq false) (dVar 13) (dOp rDget (dVar 4) (dOp rIxD (dVar 5) (dC (.int 0)))))) (dVar 13))) (dgName 10))
 (dSeq (dIfS (dOr (dTest (dOp rNe (dCall sp_firsts [] (dCons (dVar 2) (dCons (dOp rIxD (dVar 5) (dC (.int 1))) (dNil)))) (dVar 10))) (dTest (dOp rNe (dCall sp_firsts [] (dCons (dVar 2) (dCons (dTup (dCons (dC (.str "call")) (dCons (dOp rIxD (dVar 5) (dC (.int 0))) (dNil)))) (dNil)))) (dVar 10))))
 (dRet (dC (.bl false)))
 (dNext))
 (dSeq (dAsg (dLst (dCons (dC (.int 3000)) (dNil))) (dgName 11))
 (dSeq (dAsg (dCall sp_law_match [] (dCons (dVar 11) (dCons (dVar 2) (dCons (dOp rIxD (dVar 5) (dC (.int 1))) (dCons (dVar 8) (dCons (dVar 9) (dNil))))))) (dgName 12))
 (dIfS (dAnd (dTest (dOp rGe (dOp rIxD (dVar 11) (dC (.int 0))) (dC (.int 0)))) (dAnd (dTest (dOp (rIsN true) (dVar 12) (dC .non))) (dAnd (dTest (dOp rGt (dOp rIxD (dVar 12) (dC (.int 0))) (dVar 9))) (dTest (dOp (rInStr true) (dOp rIxD (dVar 8) (dVar 9)) (dVar 10))))))
 (dRet (dC (.bl false)))
 (dNext)))))))
 (dRet (dC (.bl true)))))))))))
abbrev N_law : List Str := ["_law_script", "_law_row_here", "_law_grammar_here", "_law_empty_here", "_law_table", "_law_rule", "_law_turn", "_law_more", "_law_text_here", "_law_at", "_law_due", "_law_fuel", "_law_told", "_law_char"]

local macro_rules | `(tactic| walk_at "go1") => `(tactic| first
  | with_reducible refine st_seq ?_ | with_reducible refine st_asg ?_ | with_reducible refine st_name ?_
  | (with_reducible refine st_v ?_; refine ⟨_, rfl, ?_⟩) | with_reducible refine st_c ?_ | with_reducible refine st_op ?_ | with_reducible refine st_test ?_ | with_reducible refine st_tk ?_
  | with_reducible refine st_if ?_ | with_reducible refine st_rt ?_ | with_reducible refine st_nil ?_ | with_reducible refine st_cons ?_ | with_reducible refine st_tup ?_
  | with_reducible refine st_sz sm1 ?_ | with_reducible refine st_sz sm2 ?_ | with_reducible refine st_sz sm3 ?_ | with_reducible refine st_sz sm0 ?_ | with_reducible refine st_sz sm4 ?_ | with_reducible refine st_sz sm5 ?_
  | with_reducible refine st_eq_str ?_ | with_reducible refine st_eq_int ?_
  | with_reducible refine st_ix_tup at0 ?_ | with_reducible refine st_ix_tup at1 ?_ | with_reducible refine st_ix_tup at2 ?_
  | with_reducible refine ifDt (by decide +kernel) ?_ | with_reducible refine ifDf (by decide +kernel) ?_ | with_reducible refine ifT (by decide +kernel) ?_ | with_reducible refine ifF (by decide +kernel) ?_
  | with_reducible refine st_in_tup rfl rfl ?_ | with_reducible refine st_next ?_
  | with_reducible refine st_truth ?_ | with_reducible refine st_tr_bl ?_ | with_reducible refine st_tr_tup ?_ | with_reducible refine st_and ?_ | with_reducible refine st_or ?_ | with_reducible refine st_not ?_
  | with_reducible refine st_cb ?_ | with_reducible refine st_call ?_ | with_reducible refine st_app ?_ | with_reducible refine st_drop ?_ | with_reducible refine st_ml ?_
  | with_reducible refine st_lt ?_ | with_reducible refine st_le ?_ | with_reducible refine st_gt ?_ | with_reducible refine st_ge ?_ | with_reducible refine st_add ?_ | with_reducible refine st_sub ?_
  | with_reducible refine st_ne_bl ?_ | with_reducible refine st_eq_bl ?_ | with_reducible refine st_isi_blb ?_ | with_reducible refine st_ne_str ?_ | with_reducible refine st_ne_int ?_ | with_reducible refine st_lst ?_ | with_reducible refine st_len_tup ?_ | with_reducible refine st_int ?_ | with_reducible refine st_int_bl ?_ | with_reducible refine st_abs ?_
  | with_reducible refine st_for ?_ | with_reducible refine st_lc ?_ | with_reducible refine st_sseq ?_ | with_reducible refine st_it_tup ?_ | with_reducible refine st_it_str ?_ | with_reducible refine st_it_rol ?_
  | with_reducible refine st_rng1 ?_ | with_reducible refine st_rng2 ?_ | with_reducible refine st_slice ?_ | with_reducible refine st_nopart ?_ | with_reducible refine st_part ?_ | with_reducible refine st_pk ?_
  | with_reducible refine st_gtup rfl ?_ | with_reducible refine st_gcons ?_ | with_reducible refine st_gnil ?_ | with_reducible refine st_gsub ?_ | with_reducible refine st_ife ?_ | with_reducible refine st_andV ?_ | with_reducible refine st_orV ?_ | with_reducible refine st_notV ?_ | with_reducible refine st_bk ?_
  | with_reducible refine st_isN_non ?_ | with_reducible refine st_isN_tup ?_ | with_reducible refine st_notN_non ?_ | with_reducible refine st_notN_tup ?_ | with_reducible refine st_rtN ?_ | with_reducible refine st_brk ?_ | with_reducible refine st_cnt ?_ | with_reducible refine st_yes ?_
  | with_reducible refine st_join ?_ | with_reducible refine st_sk ?_ | with_reducible refine st_neg ?_ | with_reducible refine st_dc ?_ | with_reducible refine st_chain ?_ | with_reducible refine st_inS ?_ | with_reducible refine st_notInS ?_ | with_reducible refine st_listA_tup ?_)
local macro_rules | `(tactic| walk_at "go") => `(tactic| repeat walk_at "go1")
local macro_rules | `(tactic| walk_at "gn1") => `(tactic| first
  | with_reducible refine st_seq ?_ | with_reducible refine st_asg ?_ | with_reducible refine st_name ?_
  | (with_reducible refine st_v ?_; refine ⟨_, rfl, ?_⟩) | with_reducible refine st_c ?_ | with_reducible refine st_op ?_ | with_reducible refine st_test ?_ | with_reducible refine st_tk ?_
  | with_reducible refine st_if ?_ | with_reducible refine st_rt ?_ | with_reducible refine st_nil ?_ | with_reducible refine st_cons ?_ | with_reducible refine st_tup ?_
  | with_reducible refine st_sz sm1 ?_ | with_reducible refine st_sz sm2 ?_ | with_reducible refine st_sz sm3 ?_ | with_reducible refine st_sz sm0 ?_ | with_reducible refine st_sz sm4 ?_ | with_reducible refine st_sz sm5 ?_
  | with_reducible refine st_eq_str ?_ | with_reducible refine st_eq_int ?_
  | with_reducible refine st_ix_tup at0 ?_ | with_reducible refine st_ix_tup at1 ?_ | with_reducible refine st_ix_tup at2 ?_
  | with_reducible refine ifDt (by decide +kernel) ?_ | with_reducible refine ifDf (by decide +kernel) ?_ | with_reducible refine ifT (by decide +kernel) ?_ | with_reducible refine ifF (by decide +kernel) ?_
  | with_reducible refine st_in_tup rfl rfl ?_ | with_reducible refine st_next ?_
  | with_reducible refine st_truth ?_ | with_reducible refine st_tr_bl ?_ | with_reducible refine st_tr_tup ?_ | with_reducible refine st_not ?_
  | with_reducible refine st_cb ?_ | with_reducible refine st_call ?_ | with_reducible refine st_app ?_ | with_reducible refine st_drop ?_ | with_reducible refine st_ml ?_
  | with_reducible refine st_lt ?_ | with_reducible refine st_le ?_ | with_reducible refine st_gt ?_ | with_reducible refine st_ge ?_ | with_reducible refine st_add ?_ | with_reducible refine st_sub ?_
  | with_reducible refine st_ne_bl ?_ | with_reducible refine st_eq_bl ?_ | with_reducible refine st_isi_blb ?_ | with_reducible refine st_ne_str ?_ | with_reducible refine st_ne_int ?_ | with_reducible refine st_lst ?_ | with_reducible refine st_len_tup ?_ | with_reducible refine st_int ?_ | with_reducible refine st_int_bl ?_ | with_reducible refine st_abs ?_
  | with_reducible refine st_for ?_ | with_reducible refine st_lc ?_ | with_reducible refine st_sseq ?_ | with_reducible refine st_it_tup ?_ | with_reducible refine st_it_str ?_ | with_reducible refine st_it_rol ?_
  | with_reducible refine st_rng1 ?_ | with_reducible refine st_rng2 ?_ | with_reducible refine st_slice ?_ | with_reducible refine st_nopart ?_ | with_reducible refine st_part ?_ | with_reducible refine st_pk ?_
  | with_reducible refine st_gtup rfl ?_ | with_reducible refine st_gcons ?_ | with_reducible refine st_gnil ?_ | with_reducible refine st_gsub ?_ | with_reducible refine st_ife ?_ | with_reducible refine st_andV ?_ | with_reducible refine st_orV ?_ | with_reducible refine st_notV ?_ | with_reducible refine st_bk ?_
  | with_reducible refine st_isN_non ?_ | with_reducible refine st_isN_tup ?_ | with_reducible refine st_notN_non ?_ | with_reducible refine st_notN_tup ?_ | with_reducible refine st_rtN ?_ | with_reducible refine st_brk ?_ | with_reducible refine st_cnt ?_ | with_reducible refine st_yes ?_
  | with_reducible refine st_join ?_ | with_reducible refine st_sk ?_ | with_reducible refine st_neg ?_ | with_reducible refine st_dc ?_ | with_reducible refine st_chain ?_ | with_reducible refine st_inS ?_ | with_reducible refine st_notInS ?_ | with_reducible refine st_listA_tup ?_)
local macro_rules | `(tactic| walk_at "gn") => `(tactic| repeat walk_at "gn1")

theorem valD_pos {κ : Type} [DecidableEq κ] {p : κ × D} {r : List (κ × D)} {k : κ} (e : p.1 = k) : valD (p :: r) k = some p.2 := by simp [valD, List.find?_cons, e]
theorem valD_neg {κ : Type} [DecidableEq κ] {p : κ × D} {r : List (κ × D)} {k : κ} (e : ¬ p.1 = k) : valD (p :: r) k = valD r k := by simp [valD, List.find?_cons, e]
theorem valD_any {κ : Type} [DecidableEq κ] (k : κ) : ∀ kvs : List (κ × D), (kvs.any fun kv => decide (kv.1 = k)) = (valD kvs k).isSome
  | [] => rfl
  | p :: r => by
    rw [List.any_cons]
    by_cases e : p.1 = k
    · simp only [valD_pos e, decide_eq_true e, Bool.true_or, Option.isSome_some]
    · rw [valD_neg e, decide_eq_false e, Bool.false_or]; exact valD_any k r
theorem valD_map {κ : Type} [DecidableEq κ] (k j : κ) (y : D) : ∀ kvs : List (κ × D), valD (kvs.map fun kv => if kv.1 = k then (kv.1, y) else kv) j = (valD kvs j).map fun x => if j = k then y else x
  | [] => rfl
  | p :: r => by
    have ih := valD_map k j y r
    rw [List.map_cons]
    by_cases h : p.1 = k
    · rw [if_pos h]
      by_cases e : p.1 = j
      · rw [valD_pos (p := (p.1, y)) e, valD_pos e, Option.map_some, if_pos (e.symm.trans h)]
      · rw [valD_neg (p := (p.1, y)) e, valD_neg e, ih]
    · rw [if_neg h]
      by_cases e : p.1 = j
      · rw [valD_pos (p := p) e, valD_pos e, Option.map_some, if_neg (fun z => h (e.trans z))]
      · rw [valD_neg (p := p) e, valD_neg e, ih]
theorem valD_snoc {κ : Type} [DecidableEq κ] (k j : κ) (y : D) : ∀ kvs : List (κ × D), valD kvs k = none → valD (kvs ++ [(k, y)]) j = if j = k then some y else valD kvs j
  | [], _ => by
    by_cases e : k = j
    · rw [if_pos e.symm]; exact valD_pos (p := (k, y)) e
    · rw [if_neg (fun z => e z.symm)]; exact valD_neg (p := (k, y)) e
  | p :: r, hn => by
    rw [List.cons_append]
    have hk : ¬ p.1 = k := fun z => by rw [valD_pos z] at hn; cases hn
    rw [valD_neg hk] at hn
    have ih := valD_snoc k j y r hn
    by_cases e : p.1 = j
    · rw [valD_pos e, valD_pos e, if_neg (fun z => hk (e.trans z))]
    · rw [valD_neg e, valD_neg e, ih]
theorem valD_put {κ : Type} [DecidableEq κ] (kvs : List (κ × D)) (k j : κ) (y : D) : valD (putD kvs k y) j = if j = k then some y else valD kvs j := by
  unfold putD
  by_cases a : (kvs.any fun kv => decide (kv.1 = k)) = true
  · rw [if_pos a, valD_map]
    rw [valD_any] at a
    by_cases e : j = k
    · obtain ⟨x, hx⟩ := Option.isSome_iff_exists.mp a
      rw [if_pos e, e, hx, Option.map_some, if_pos rfl]
    · rw [if_neg e]
      cases valD kvs j with
      | none => rfl
      | some x => rw [Option.map_some, if_neg e]
  · rw [if_neg a]
    refine valD_snoc k j y kvs ?_
    rw [valD_any] at a
    cases q : valD kvs k with
    | none => rfl
    | some x => rw [q] at a; exact (a rfl).elim
theorem putD_len {κ : Type} [DecidableEq κ] (kvs : List (κ × D)) (k : κ) (v : D) : (putD kvs k v).length ≤ kvs.length + 1 := by
  unfold putD
  split
  · rw [List.length_map]; omega
  · rw [List.length_append, List.length_cons, List.length_nil]; omega
/-- the law's table, a part of it -/
def LT (G : Gp) (kvs : List (Key × D)) (ns : List Str) (S : Nat → List Str) : Prop := ∀ n ∈ ns, ∃ a cs, valD kvs (.inr n) = some (.ref a) ∧ G a = some (.lst (sgn cs)) ∧ FirL cs fun c => decide (n ∈ S c)
theorem LT.put {G : Gp} {t b : Addr} {kvs : List (Key × D)} {ns : List Str} {S : Nat → List Str} {n0 : Str} {cs : List Nat} (h : LT G kvs ns S) (gt : G t = some (.dK kvs)) (gb : G b = some (.lst (sgn cs))) (f : FirL cs fun c => decide (n0 ∈ S c)) :
    LT (gup G t (.dK (putD kvs (.inr n0) (.ref b)))) (putD kvs (.inr n0) (.ref b)) (ns ++ [n0]) S := by
  have ne : ∀ {a : Addr} {cs : List Nat}, G a = some (.lst (sgn cs)) → a ≠ t := by
    rintro a cs e rfl
    rw [gt] at e; cases e
  intro n hn
  by_cases c : n = n0
  · subst c
    exact ⟨b, cs, by rw [valD_put, if_pos rfl], by rw [gup_ne (ne gb)]; exact gb, f⟩
  · have hn' : n ∈ ns := by
      rcases List.mem_append.mp hn with h | h
      · exact h
      · exact absurd (List.mem_singleton.mp h) c
    obtain ⟨a, ds, h1, h2, h3⟩ := h n hn'
    exact ⟨a, ds, by rw [valD_put, if_neg (fun z => c (Sum.inr.inj z))]; exact h1, by rw [gup_ne (ne h2)]; exact h2, h3⟩
theorem LT.sub {G G' : Gp} {kvs : List (Key × D)} {ns : List Str} {S : Nat → List Str} (h : LT G kvs ns S) (s : DL.Sub G G') : LT G' kvs ns S := fun n hn => let ⟨a, cs, h1, h2, h3⟩ := h n hn; ⟨a, cs, h1, s _ _ h2, h3⟩
theorem sub_put {G G' : Gp} {t : Addr} {o : DO} (s : DL.Sub G G') (h : G t = none) : DL.Sub G (gup G' t o) := fun b u e => by
  rw [gup_ne]
  · exact s b u e
  · rintro rfl
    rw [h] at e; cases e
theorem mem_names {f : List Str → Ex → Bool} {g : Gr} {ns : List Str} {r : Str × Ex} (hn : (g.map (·.1)).Nodup) (hr : r ∈ g) : r.1 ∈ rnd f g ns ↔ f ns r.2 = true := by
  rw [mem_rnd]
  constructor
  · rintro ⟨r', hr', h, e⟩
    have : r' = r := by
      have hnd : ∀ (l : Gr), (l.map (·.1)).Nodup → r ∈ l → r' ∈ l → r' = r := by
        intro l
        induction l with
        | nil => intro _ h _; cases h
        | cons a l ih =>
          intro hn h1 h2
          rw [List.map_cons, List.nodup_cons] at hn
          rcases List.mem_cons.mp h1 with e1 | m1 <;> rcases List.mem_cons.mp h2 with e2 | m2
          · rw [e1, e2]
          · subst e1; exact absurd (by rw [← e]; exact List.mem_map_of_mem m2) hn.1
          · subst e2; exact absurd (by rw [e]; exact List.mem_map_of_mem m1) hn.1
          · exact ih hn.2 m1 m2
      exact hnd g hn hr hr'
    subst this; exact h
  · intro h; exact ⟨r, hr, h, rfl⟩
theorem gr_names {d : Nat} {g : Gr} (h : GrDr d g) : g.map (·.1) = (List.range g.length).map nm5 := by
  refine List.ext_getElem (by simp) fun j h1 h2 => ?_
  have hj : j < g.length := by simpa using h1
  have := (h.at' j g[j] (List.getElem?_eq_getElem hj)).1
  simp [this]
theorem gr_nodup {d : Nat} {g : Gr} (h : GrDr d g) : (g.map (·.1)).Nodup := by
  rw [gr_names h]
  have hl := h.len
  generalize g.length = m at hl
  have : ∀ m : Fin 5, ((List.range m.1).map nm5).Nodup := by decide +kernel
  exact this ⟨m, by omega⟩
theorem gr_at {d : Nat} {g : Gr} (h : GrDr d g) {r : Str × Ex} (hr : r ∈ g) : ∃ j, j < g.length ∧ r.1 = nm5 j ∧ Dr j g.length d r.2 := by
  obtain ⟨j, hj⟩ := List.getElem?_of_mem hr
  obtain ⟨e1, e2⟩ := h.at' j r hj
  exact ⟨j, (List.getElem?_eq_some_iff.mp hj).1, e1, e2⟩
theorem gr_calls {d : Nat} {g : Gr} (h : GrDr d g) {r : Str × Ex} (hr : r ∈ g) : ∀ c ∈ callsE r.2, c ∈ g.map (·.1) := fun c hc => by
  obtain ⟨j, _, _, hd⟩ := gr_at h hr
  obtain ⟨k, hk, e⟩ := (dr_ok hd).calls c hc
  rw [gr_names h, e]
  exact List.mem_map_of_mem (List.mem_range.mpr hk)
theorem gr_fir {d : Nat} {g : Gr} (hd : d ≤ 3) (h : GrDr d g) : GrFir 7 g := by
  refine ⟨⟨by have := h.len; omega, fun r hr => ?_, fun r hr => ?_, fun r hr => ?_⟩, fun r hr => ?_, fun r hr => gr_calls h hr, gr_nodup h⟩
  · obtain ⟨j, _, _, hd'⟩ := gr_at h hr
    have := (dr_ok hd').dep
    omega
  · obtain ⟨j, _, _, hd'⟩ := gr_at h hr
    exact wide_of _ (dr_ok hd').wf
  · obtain ⟨j, _, e, _⟩ := gr_at h hr
    rw [e]; exact okS_name (nm5_name j)
  · obtain ⟨j, _, _, hd'⟩ := gr_at h hr
    exact (dr_ok hd').fir
theorem abc_ch {z : Str} (h : z.cps.toList.all abcB = true) : ∀ c ∈ z.cps.toList, c ∈ CH := fun c hc => by
  have := List.all_eq_true.mp h c hc
  simp only [abcB, Bool.or_eq_true, decide_eq_true_eq] at this
  rcases this with (rfl | rfl) | rfl <;> decide +kernel
theorem fix_em {g : Gr} {r : Str × Ex} (hr : r ∈ g) (h : mayE (emp g) r.2 = true) : r.1 ∈ emp g := by
  rw [← round_emp]
  unfold round
  exact List.mem_map.mpr ⟨r, List.mem_filter.mpr ⟨hr, h⟩, rfl⟩
theorem fix_fir {g : Gr} {r : Str × Ex} {c : Nat} (hr : r ∈ g) (h : firE (emp g) c (lstF g c) r.2 = true) : r.1 ∈ lstF g c := by
  show r.1 ∈ lst _ g
  rw [← lst_fix (firE_mon _ _)]
  exact mem_rnd.mpr ⟨r, hr, h, rfl⟩
theorem gr_env {d : Nat} {g : Gr} {z : Str} (hd : d ≤ 3) (h : GrDr d g) (hz : z.length ≤ 9) (ha : z.cps.toList.all abcB = true) : MEnv g (emp g) (lstF g) z :=
  have f := gr_fir hd h
  ⟨f.ok.wide, f.fir, f.calls, fun r hr hm => fix_em hr hm, fun r hr c hc => fix_fir hr hc, by omega, abc_ch ha⟩
theorem firS_rule {g : Gr} {r : Str × Ex} (hn : (g.map (·.1)).Nodup) (hr : r ∈ g) : firS (emp g) (lstF g) r.2 = canon fun c => decide (r.1 ∈ lstF g c) := by
  unfold firS
  rw [canon_eq]
  intro c _
  rw [Bool.eq_iff_iff, decide_eq_true_eq]
  show _ ↔ r.1 ∈ lst _ g
  rw [← lst_fix (firE_mon _ _), mem_names hn hr]
  rfl
theorem firS_call {g : Gr} {n : Str} : firS (emp g) (lstF g) (.call n) = canon fun c => decide (n ∈ lstF g c) := by
  unfold firS
  rw [canon_eq]
  intro c _
  rw [firE]
theorem join_sgn (pr : Nat → Bool) : Txt.join (Str.ofString "") ((CH.filter pr).map fun c => (⟨#[c]⟩ : Str)) = canon pr := join_signs _
theorem join_sz (pr : Nat → Bool) : (((CH.filter pr).map fun c => (⟨#[c]⟩ : Str)).map (·.length)).sum + ((CH.filter pr).map fun c => (⟨#[c]⟩ : Str)).length * (Str.ofString "").length ≤ 16777216 := by
  rw [sum_ones]
  have := List.length_filter_le pr CH
  rw [CH_len] at this
  show _ + _ * 0 ≤ _
  omega
theorem row_ne {G : Gp} {a x : Addr} {cs : List Nat} (h : RowAt G a) (e : G x = some (.lst (sgn cs))) : x ≠ a := by
  rintro rfl
  obtain ⟨p, xs, g, _⟩ := h
  rw [e] at g
  have q := congrArg (fun o => match o with | some (DO.lst (.int _ :: _)) => true | _ => false) g
  cases cs with
  | nil => simp at q
  | cons c r => simp at q
theorem row_neK {G : Gp} {a x : Addr} {kvs : List (Key × D)} (h : RowAt G a) (e : G x = some (.dK kvs)) : x ≠ a := by
  rintro rfl
  obtain ⟨p, xs, g, _⟩ := h
  rw [e] at g; cases g
theorem LT.row {G G' : Gp} {a : Addr} {kvs : List (Key × D)} {ns : List Str} {S : Nat → List Str} (h : LT G kvs ns S) (hr : RowAt G a) (u : RowUp G G' a) : LT G' kvs ns S :=
  fun n hn => let ⟨x, cs, h1, h2, h3⟩ := h n hn; ⟨x, cs, h1, u.at h2 (row_ne hr h2), h3⟩
theorem pure_law (ds : List D) (G : Gp) (Q : DK) (E : DX) (h : spLaw ds G Q E) : t_law spStream (spGram 4) spTake (spEmp 7) (spLFir 7) spText (spFirsts 7) (spLM 250) (fnEnds Q) (dstart N_law ds) G := by
  obtain ⟨ns, rfl, hn, q⟩ := h
  unfold t_law
  walk_at "gn"
  refine ⟨ns, rfl, hn, fun a G1 ha hrow hs => ?_⟩
  walk_at "gn"
  refine ⟨a, 3, rfl, hrow, by decide, fun d0 G2 d00 d03 u2 => ?_⟩
  walk_at "gn"
  obtain ⟨d, rfl⟩ : ∃ d : Nat, d0 = (d : Int) := ⟨d0.toNat, by omega⟩
  have em : (1 : Int) + (d : Nat) = ((d + 1 : Nat) : Int) := by omega
  rw [em]
  refine ⟨a, d + 1, rfl, u2.row, by omega, fun g G3 hg u3 => ?_⟩
  have hgf := gr_fir (by omega) hg
  have hnd := hgf.nodup
  have hlen := hg.len
  have edG : dG g = .tup (g.map dR) := rfl
  rw [edG]
  walk_at "gn"
  refine ⟨g, rfl, hgf.ok, fun b hb => ?_⟩
  walk_at "gn"
  refine st_newK fun t0 ht0 => ?_
  walk_at "gn"
  have hrow3 := u3.row.gup hb (o := .lst ((emp g).map .str))
  refine for_go (fun xs ρ G' => ∃ (pre l : Gr) (kvs : List (Key × D)) (o5 : Option D), xs = l.map dR ∧ g = pre ++ l ∧ G' t0 = some (.dK kvs) ∧ kvs.length ≤ pre.length ∧ LT G' kvs (pre.map (·.1)) (itF g 0) ∧ DL.Sub (gup G3 b (.lst ((emp g).map .str))) G' ∧
    ρ = [some (.rol (ns.map .int)), some (.ref a), some (.tup (g.map dR)), some (.ref b), some (.ref t0), o5, none, none, none, none, none, none, none, none])
    ⟨[], g, [], none, rfl, rfl, gup_same, Nat.le_refl _, (fun _ h => by cases h), Sub.new ht0, rfl⟩ (fun _ _ _ _ => trivial) ?_ ?_
  · rintro y ys ρ G' ⟨pre, l, kvs, o5, hl, hgl, gt, hkl, hlt, hsub, rfl⟩ N hN
    cases l with
    | nil => cases hl
    | cons r l =>
      injection hl with h1 h2
      subst h1 h2
      unfold dR
      walk_at "gn"
      intro p hp
      walk_at "gn"
      have hpl : pre.length ≤ 4 := by have := congrArg List.length hgl; rw [List.length_append] at this; omega
      refine st_putD (k := .inr r.1) rfl (gup_at gt hp) (by rw [sizeLine_eq]; omega) ?_
      have hlt2 := (hlt.sub (Sub.new hp (o := .lst []))).put (b := p) (n0 := r.1) (cs := []) (gup_at gt hp) gup_same (FirL.nil fun c => by
        show decide (r.1 ∈ ([] : List Str)) = false
        simp)
      refine hN _ _ ⟨pre ++ [r], l, _, _, rfl, by rw [hgl]; simp, gup_same, ?_, by rw [List.map_append]; exact hlt2, sub_put (sub_gup hsub hp) ht0, rfl⟩
      have := putD_len kvs (Sum.inr r.1 : Key) (.ref p)
      rw [List.length_append, List.length_singleton]
      omega
  rintro ρ G' ⟨pre, l, kvs, o5, hl, hgl, gt, hkl, hlt, hsub, rfl⟩
  cases l with
  | cons r l => cases hl
  | nil =>
  rw [List.append_nil] at hgl
  subst hgl
  walk_at "gn"
  refine ⟨_, rfl, by rw [List.length_map]; exact ⟨by omega, by omega⟩, ?_⟩
  refine for_go (fun xs ρ G' => ∃ (k : Nat) (t : Addr) (kvs : List (Key × D)) (o5 o6 o7 : Option D), xs.length + k = g.length + 1 ∧ G' t = some (.dK kvs) ∧ LT G' kvs (g.map (·.1)) (itF g k) ∧ DL.Sub (gup G3 b (.lst ((emp g).map .str))) G' ∧
    ρ = [some (.rol (ns.map .int)), some (.ref a), some (.tup (g.map dR)), some (.ref b), some (.ref t), o5, o6, o7, none, none, none, none, none, none])
    ⟨0, t0, kvs, _, _, _, by simp [rangeD], gt, hlt, hsub, rfl⟩ (fun _ _ _ _ => trivial) ?_ ?_
  · clear gt hkl hlt hsub hl
    rintro y ys ρ G' ⟨k, t, kvs, o5, o6, o7, hk, gt, hlt, hsub, rfl⟩ N hN
    walk_at "gn"
    refine st_newK fun m hm => ?_
    walk_at "gn"
    refine for_go (fun xs ρ G'' => ∃ (pre l : Gr) (kvs2 : List (Key × D)) (o5 : Option D), xs = l.map dR ∧ g = pre ++ l ∧ G'' m = some (.dK kvs2) ∧ kvs2.length ≤ pre.length ∧ LT G'' kvs2 (pre.map (·.1)) (itF g (k + 1)) ∧ DL.Sub G' G'' ∧
      ρ = [some (.rol (ns.map .int)), some (.ref a), some (.tup (g.map dR)), some (.ref b), some (.ref t), o5, some y, some (.ref m), none, none, none, none, none, none])
      ⟨[], g, [], _, rfl, rfl, gup_same, Nat.le_refl _, (fun _ h => by cases h), Sub.new hm, rfl⟩ (fun _ _ _ _ => trivial) ?_ ?_
    · rintro x xs ρ G4 ⟨pre, l, kvs2, o5, hl, hgl, gm, hkl, hlt2, hs4, rfl⟩ N2 hN2
      cases l with
      | nil => cases hl
      | cons r l =>
        injection hl with h1 h2
        subst h1 h2
        have hr : r ∈ g := by rw [hgl]; simp
        unfold dR
        walk_at "gn"
        refine ⟨r.2, .ref b, t, emp g, g, itF g k, rfl, itemsD_ref (hs4 _ _ (hsub _ _ gup_same)), ⟨kvs, hs4 _ _ gt, hlt.sub hs4⟩, hgf.ok.dep r hr, hgf.ok.wide r hr, hgf.fir r hr, hgf.calls r hr, fun a2 cs G5 s5 ga fl => ?_⟩
        walk_at "gn"
        have hpl : pre.length ≤ 4 := by have := congrArg List.length hgl; rw [List.length_append] at this; omega
        refine st_putD (k := .inr r.1) rfl (s5 _ _ gm) (by rw [sizeLine_eq]; omega) ?_
        have hlt3 := (hlt2.sub s5).put (n0 := r.1) (s5 _ _ gm) ga (fl.imp fun c _ => by
          rw [Bool.eq_iff_iff, decide_eq_true_eq]
          exact (mem_names (f := firE (emp g) c) hnd hr).symm)
        refine hN2 _ _ ⟨pre ++ [r], l, _, _, rfl, by rw [hgl]; simp, gup_same, ?_, by rw [List.map_append]; exact hlt3, sub_put (hs4.trans s5) hm, rfl⟩
        have := putD_len kvs2 (Sum.inr r.1 : Key) (.ref a2)
        rw [List.length_append, List.length_singleton]
        omega
    · rintro ρ G4 ⟨pre, l, kvs2, o5, hl, hgl, gm, hkl, hlt2, hs4, rfl⟩
      cases l with
      | cons r l => cases hl
      | nil =>
      rw [List.append_nil] at hgl
      subst hgl
      walk_at "gn"
      exact hN _ _ ⟨k + 1, m, kvs2, _, _, _, by simp at hk; omega, gm, hlt2, hsub.trans hs4, rfl⟩
  clear gt hkl hlt hsub hl
  rintro ρ G' ⟨k, t, kvs, o5, o6, o7, hk, gt, hlt, hsub, rfl⟩
  have hk' : k = g.length + 1 := by simpa using hk
  subst hk'
  have eS : itF g (g.length + 1) = lstF g := by
    funext c
    exact itf_stab (firE_mon _ _) _ (by omega)
  rw [eS] at hlt
  walk_at "gn"
  have hrow4 := hrow3.sub hsub
  refine ⟨a, rfl, hrow4, fun z G5 hz hab u5 => ?_⟩
  walk_at "gn"
  refine st_len_str (by rw [sizeLine_eq]; omega) ?_
  walk_at "gn"
  refine ⟨a, (z.length : Int) + 1, rfl, u5.row, by omega, fun at0 G6 at00 at01 u6 => ?_⟩
  walk_at "gn"
  obtain ⟨i, rfl⟩ : ∃ i : Nat, at0 = (i : Int) := ⟨at0.toNat, by omega⟩
  have u46 := u5.trans u6
  have gt6 := u46.at gt (row_neK hrow4 gt)
  have lt6 := hlt.row hrow4 u46
  clear hlt gt
  have env := gr_env (by omega) hg hz hab
  have hzl : z.cps.toList.length = z.length := by simp [Str.length]
  refine for_go (fun xs ρ G' => ∃ (l : Gr) (o5 o10 o11 o12 : Option D), xs = l.map dR ∧ (∀ r ∈ l, r ∈ g) ∧ DL.Sub G6 G' ∧
    ρ = [some (.rol (ns.map .int)), some (.ref a), some (.tup (g.map dR)), some (.ref b), some (.ref t), o5, o6, o7, some (.str z), some (.int i), o10, o11, o12, none])
    ⟨g, _, _, _, _, rfl, fun _ h => h, DL.Sub.refl _, rfl⟩ (fun _ _ _ _ => trivial) ?_ ?_
  · rintro y ys ρ G7 ⟨l, o5, o10, o11, o12, hl, hm, hs7, rfl⟩ N hN
    cases l with
    | nil => cases hl
    | cons r l =>
      injection hl with h1 h2
      subst h1 h2
      have hr := hm r List.mem_cons_self
      have hm' : ∀ r' ∈ l, r' ∈ g := fun r' h' => hm r' (List.mem_cons_of_mem _ h')
      have edr : dR r = .tup [.str r.1, dE r.2] := rfl
      rw [edr]
      walk_at "go"
      intro p hp
      obtain ⟨x, cs, hv, gx, fl⟩ := lt6 r.1 (List.mem_map_of_mem hr)
      refine lc_signs hp _ (fun _ => trivial) (fun c => decide (r.1 ∈ lstF g c)) CH (by rw [CH_len]; decide) (fun c hc acc R h => ?_) (fun c acc R h => ?_) ?_
      · walk_at "go"
        refine st_dget (k := .inr r.1) rfl (gup_at (hs7 _ _ gt6) hp) hv ?_
        refine st_in_lst (gup_at (hs7 _ _ gx) hp) rfl (sgn_flat cs) ?_
        rw [in_sgn]
        walk_at "go"
        have e1 : decide (c ∈ cs) = decide (r.1 ∈ lstF g c) := by
          rw [Bool.eq_iff_iff, decide_eq_true_eq]
          exact fl.mem c hc
        rw [e1]; exact h
      · walk_at "go"
        exact h
      have gS : gup G7 p (.lst ((CH.filter fun c => decide (r.1 ∈ lstF g c)).map fun c => .str ⟨#[c]⟩)) p = some (.lst (((CH.filter fun c => decide (r.1 ∈ lstF g c)).map fun c => (⟨#[c]⟩ : Str)).map .str)) := by
        rw [← signs_str]; exact gup_same
      refine ⟨_, _, itemsD_ref gS, strs_mapD _, join_sz _, ?_⟩
      rw [join_sgn]
      have hs8 := sub_gup hs7 hp (o := .lst ((CH.filter fun c => decide (r.1 ∈ lstF g c)).map fun c => .str ⟨#[c]⟩))
      walk_at "go"
      refine ⟨g, r.2, rfl, hgf, hgf.ok.dep r hr, hgf.ok.wide r hr, hgf.fir r hr, hgf.calls r hr, ?_⟩
      rw [firS_rule hnd hr]
      walk_at "go"
      refine ifF (by simp) ?_
      walk_at "go"
      refine ⟨g, .call r.1, by rw [dE]; rfl, hgf, by simp [dep], True.intro, by simp [firOk], (fun c hc => by rw [callsE, List.mem_singleton] at hc; rw [hc]; exact List.mem_map_of_mem hr), ?_⟩
      rw [firS_call]
      walk_at "go"
      refine ifF (by simp) ?_
      walk_at "go"
      intro f hf
      walk_at "go"
      obtain ⟨j, hj, _, hdr⟩ := gr_at hg hr
      have hsub9 : ∀ {G9 : Gp} {fu : Int}, Kp (gup (gup G7 p (.lst ((CH.filter fun c => decide (r.1 ∈ lstF g c)).map fun c => .str ⟨#[c]⟩))) f (.lst [.int 3000])) G9 f fu → DL.Sub G6 G9 := fun kp c o e => by
        have e1 := sub_gup hs8 hf (o := .lst [.int 3000]) c o e
        refine kp.keep c o ?_ e1
        rintro rfl
        rw [hs8.free' hf] at e; cases e
      refine ⟨(emp g, lstF g), f, 3000, g, r.2, z, i, rfl, gup_same, by decide, env, ⟨hgf.ok.wide r hr, hgf.fir r hr, hgf.calls r hr⟩, by omega, lv_dr hg (by omega) 250 _ j (d + 1) r.2 hdr (by omega), fun G9 f2 t2 k2 => ?_, fun b2 ts G9 f2 t2 k2 p2 => ?_⟩
      · walk_at "go"
        refine st_ix_lst k2.at' at0 ?_
        walk_at "go"
        refine ifD (fun c1 => ?_) (fun c1 => ?_)
        · walk_at "go"
          exact hN _ _ ⟨l, _, _, _, _, rfl, hm', hsub9 k2, rfl⟩
        · walk_at "go"
          exact hN _ _ ⟨l, _, _, _, _, rfl, hm', hsub9 k2, rfl⟩
      · walk_at "go"
        refine st_ix_lst k2.at' at0 ?_
        walk_at "go"
        refine ifD (fun c1 => ?_) (fun c1 => ?_)
        · walk_at "go"
          refine ifD (fun c2 => ?_) (fun c2 => ?_)
          · have hlt : i < z.cps.toList.length := by have := p2.len; omega
            walk_at "go"
            refine st_ix_str (by rw [sizeLine_eq]; omega) (at_lt hlt) ?_
            walk_at "go"
            obtain ⟨c, hc1, hc2⟩ := p2.fir (by omega)
            have ec : z.cps.toList[i] = c := by
              rw [List.getElem?_eq_getElem hlt] at hc1
              exact Option.some.inj hc1
            have hcm : z.cps.toList[i] ∈ (canon fun c => decide (r.1 ∈ lstF g c)).cps.toList := by
              rw [mem_canon]
              refine ⟨env.zc _ (List.getElem_mem hlt), decide_eq_true ?_⟩
              rw [ec]; exact fix_fir hr hc2
            refine ifF (by rw [decide_eq_true hcm]; rfl) ?_
            walk_at "go"
            exact hN _ _ ⟨l, _, _, _, _, rfl, hm', hsub9 k2, rfl⟩
          · walk_at "go"
            exact hN _ _ ⟨l, _, _, _, _, rfl, hm', hsub9 k2, rfl⟩
        · walk_at "go"
          exact hN _ _ ⟨l, _, _, _, _, rfl, hm', hsub9 k2, rfl⟩
  · rintro ρ G7 ⟨l, o5, o10, o11, o12, hl, hm, hs7, rfl⟩
    walk_at "go"
    exact st_fin (q _)

end LW
namespace LV
open PySem L2 DL GX LW
def topS (i : Nat) : Stmt := PySem.Challenge.pw_graft_k06_first_characters.main.body.getD i (.Pass ⟨0, 0, 0, 0⟩)
structure Bl (K : PySem.W.Frag) (mg : Str → Option Value) : Prop where
  b_list : mg "list" = none
  b_all : mg "all" = none
  b_any : mg "any" = none
  b_abs : mg "abs" = none
  b_int : mg "int" = none
  b_range : mg "range" = none
  b_len : mg "len" = none
  b_tuple : mg "tuple" = none
  c_ONES : CTup K mg "ONES" [.str "star", .str "opt", .str "not", .str "and"]
  c_CHARS : CStr mg "CHARS" " !\"#$&'()*+,-./0123456789:;<=>?@ABCDEFGHIJKLMNOPQRSTUVWXYZ[\\]^_`abcdefghijklmnopqrstuvwxyz{|}~"
  tt : True
structure Def (K : PySem.W.Frag) (mg : Str → Option Value) (x : Str) (st : Stmt) (f : Addr) (fd : FuncData) (ps : List Str) : Prop where
  F : L2.Fun K x x st f fd
  b : Binds K fd ps []
  m : mg x = some (.ref f)
abbrev s_parts_of : Stmt := topS 3
abbrev N_parts_of : List Str := ["expression", "head"]
theorem sc_parts_of : FnScope N_parts_of ["expression"] (defScope s_parts_of) := ⟨rfl, rfl, rfl, by decide +kernel, rfl, by decide +kernel, by decide +kernel⟩
abbrev s_may_be_empty : Stmt := topS 5
abbrev N_may_be_empty : List Str := ["expression", "names", "head", "part"]
theorem sc_may_be_empty : FnScope N_may_be_empty ["expression", "names"] (defScope s_may_be_empty) := ⟨rfl, rfl, rfl, by decide +kernel, rfl, by decide +kernel, by decide +kernel⟩
abbrev s_empty_rules : Stmt := topS 6
abbrev N_empty_rules : List Str := ["grammar", "names", "more", "found", "rule"]
theorem sc_empty_rules : FnScope N_empty_rules ["grammar"] (defScope s_empty_rules) := ⟨rfl, rfl, rfl, by decide +kernel, rfl, by decide +kernel, by decide +kernel⟩
abbrev s_joined : Stmt := topS 7
abbrev N_joined : List Str := ["one", "two", "char"]
theorem sc_joined : FnScope N_joined ["one", "two"] (defScope s_joined) := ⟨rfl, rfl, rfl, by decide +kernel, rfl, by decide +kernel, by decide +kernel⟩
abbrev s_firsts_in : Stmt := topS 8
abbrev N_firsts_in : List Str := ["expression", "empty", "table", "head", "found", "part"]
theorem sc_firsts_in : FnScope N_firsts_in ["expression", "empty", "table"] (defScope s_firsts_in) := ⟨rfl, rfl, rfl, by decide +kernel, rfl, by decide +kernel, by decide +kernel⟩
abbrev s_first_table : Stmt := topS 9
abbrev N_first_table : List Str := ["grammar", "empty", "table", "more", "found", "rule"]
theorem sc_first_table : FnScope N_first_table ["grammar"] (defScope s_first_table) := ⟨rfl, rfl, rfl, by decide +kernel, rfl, by decide +kernel, by decide +kernel⟩
abbrev s_firsts : Stmt := topS 10
abbrev N_firsts : List Str := ["grammar", "expression"]
theorem sc_firsts : FnScope N_firsts ["grammar", "expression"] (defScope s_firsts) := ⟨rfl, rfl, rfl, by decide +kernel, rfl, by decide +kernel, by decide +kernel⟩
abbrev s_law_stream : Stmt := topS 12
abbrev N_law_stream : List Str := ["_law_script", "_law_row_here", "_law_cell", "_law_left", "_law_k", "_law_seed"]
theorem sc_law_stream : FnScope N_law_stream ["_law_script"] (defScope s_law_stream) := ⟨rfl, rfl, rfl, by decide +kernel, rfl, by decide +kernel, by decide +kernel⟩
abbrev s_law_take : Stmt := topS 13
abbrev N_law_take : List Str := ["_law_row_here", "_law_many"]
theorem sc_law_take : FnScope N_law_take ["_law_row_here", "_law_many"] (defScope s_law_take) := ⟨rfl, rfl, rfl, by decide +kernel, rfl, by decide +kernel, by decide +kernel⟩
abbrev s_law_taker : Stmt := topS 14
abbrev N_law_taker : List Str := ["_law_row_here", "_law_kind"]
theorem sc_law_taker : FnScope N_law_taker ["_law_row_here"] (defScope s_law_taker) := ⟨rfl, rfl, rfl, by decide +kernel, rfl, by decide +kernel, by decide +kernel⟩
abbrev s_law_expression : Stmt := topS 15
abbrev N_law_expression : List Str := ["_law_row_here", "_law_depth", "_law_rule", "_law_many", "_law_kind", "_law_one", "_law_two", "_law_three"]
theorem sc_law_expression : FnScope N_law_expression ["_law_row_here", "_law_depth", "_law_rule", "_law_many"] (defScope s_law_expression) := ⟨rfl, rfl, rfl, by decide +kernel, rfl, by decide +kernel, by decide +kernel⟩
abbrev s_law_grammar : Stmt := topS 16
abbrev N_law_grammar : List Str := ["_law_row_here", "_law_depth", "_law_many", "_law_k"]
theorem sc_law_grammar : FnScope N_law_grammar ["_law_row_here", "_law_depth"] (defScope s_law_grammar) := ⟨rfl, rfl, rfl, by decide +kernel, rfl, by decide +kernel, by decide +kernel⟩
abbrev s_law_text : Stmt := topS 17
abbrev N_law_text : List Str := ["_law_row_here", "_law_k"]
theorem sc_law_text : FnScope N_law_text ["_law_row_here"] (defScope s_law_text) := ⟨rfl, rfl, rfl, by decide +kernel, rfl, by decide +kernel, by decide +kernel⟩
abbrev s_law_row : Stmt := topS 18
abbrev N_law_row : List Str := ["_law_fuel", "_law_grammar_here", "_law_parts_here", "_law_text_here", "_law_at", "_law_trees", "_law_part", "_law_told"]
theorem sc_law_row : FnScope N_law_row ["_law_fuel", "_law_grammar_here", "_law_parts_here", "_law_text_here", "_law_at"] (defScope s_law_row) := ⟨rfl, rfl, rfl, by decide +kernel, rfl, by decide +kernel, by decide +kernel⟩
abbrev s_law_star : Stmt := topS 19
abbrev N_law_star : List Str := ["_law_fuel", "_law_grammar_here", "_law_inner", "_law_text_here", "_law_at", "_law_trees", "_law_turn", "_law_told"]
theorem sc_law_star : FnScope N_law_star ["_law_fuel", "_law_grammar_here", "_law_inner", "_law_text_here", "_law_at"] (defScope s_law_star) := ⟨rfl, rfl, rfl, by decide +kernel, rfl, by decide +kernel, by decide +kernel⟩
abbrev s_law_body : Stmt := topS 20
abbrev N_law_body : List Str := ["_law_grammar_here", "_law_name", "_law_rule"]
theorem sc_law_body : FnScope N_law_body ["_law_grammar_here", "_law_name"] (defScope s_law_body) := ⟨rfl, rfl, rfl, by decide +kernel, rfl, by decide +kernel, by decide +kernel⟩
abbrev s_law_match : Stmt := topS 21
abbrev N_law_match : List Str := ["_law_fuel", "_law_grammar_here", "_law_expression_here", "_law_text_here", "_law_at", "_law_head", "_law_size", "_law_fits", "_law_part", "_law_told"]
theorem sc_law_match : FnScope N_law_match ["_law_fuel", "_law_grammar_here", "_law_expression_here", "_law_text_here", "_law_at"] (defScope s_law_match) := ⟨rfl, rfl, rfl, by decide +kernel, rfl, by decide +kernel, by decide +kernel⟩
abbrev s_law_empty : Stmt := topS 22
abbrev N_law_empty : List Str := ["_law_expression_here", "_law_names", "_law_head", "_law_part"]
theorem sc_law_empty : FnScope N_law_empty ["_law_expression_here", "_law_names"] (defScope s_law_empty) := ⟨rfl, rfl, rfl, by decide +kernel, rfl, by decide +kernel, by decide +kernel⟩
abbrev s_law_empties : Stmt := topS 23
abbrev N_law_empties : List Str := ["_law_grammar_here", "_law_names", "_law_turn", "_law_rule"]
theorem sc_law_empties : FnScope N_law_empties ["_law_grammar_here"] (defScope s_law_empties) := ⟨rfl, rfl, rfl, by decide +kernel, rfl, by decide +kernel, by decide +kernel⟩
abbrev s_law_parts : Stmt := topS 24
abbrev N_law_parts : List Str := ["_law_expression_here"]
theorem sc_law_parts : FnScope N_law_parts ["_law_expression_here"] (defScope s_law_parts) := ⟨rfl, rfl, rfl, by decide +kernel, rfl, by decide +kernel, by decide +kernel⟩
abbrev s_law_firsts : Stmt := topS 25
abbrev N_law_firsts : List Str := ["_law_expression_here", "_law_table", "_law_empty_here", "_law_head", "_law_found", "_law_part", "_law_char"]
theorem sc_law_firsts : FnScope N_law_firsts ["_law_expression_here", "_law_table", "_law_empty_here"] (defScope s_law_firsts) := ⟨rfl, rfl, rfl, by decide +kernel, rfl, by decide +kernel, by decide +kernel⟩
abbrev s_law : Stmt := topS 26
abbrev N_law : List Str := ["_law_script", "_law_row_here", "_law_grammar_here", "_law_empty_here", "_law_table", "_law_rule", "_law_turn", "_law_more", "_law_text_here", "_law_at", "_law_due", "_law_fuel", "_law_told", "_law_char"]
theorem sc_law : FnScope N_law ["_law_script"] (defScope s_law) := ⟨rfl, rfl, rfl, by decide +kernel, rfl, by decide +kernel, by decide +kernel⟩
section
variable {P : Program} {w : World} {K : PySem.W.Frag} {mg : Str → Option Value} {base : Heap} {k : Nat}
theorem ok_parts_of {f_parts_of : Addr} {d_parts_of : FuncData} (M : Bl K mg) (D_parts_of : Def K mg "parts_of" s_parts_of f_parts_of d_parts_of ["expression"]) {sp : DSp} (len : ∀ ds G Q E, sp ds G Q E → ds.length = 1) (pure : ∀ ds G Q E, sp ds G Q E → (t_parts_of) (fnEnds Q) (dstart N_parts_of ds) G) : FnD P w K mg base (k + 1) f_parts_of d_parts_of ["expression"] sp := by
  refine fnD_ok D_parts_of.F sc_parts_of len ?_ pure
  intro cdv A outer s H E hr
  exact (
 dss_cons (ds_set (i := 1) sc_parts_of.nd rfl (by first | exact .inl rfl | exact .inr rfl) (de_ix (de_v 0) (de_int) (fun _ _ => rfl)))
 (dss_cons (ds_if (dt_w (dw_or (dt_cmp (op_eqV hr.big) up_eq (de_v 1) (de_str) (nomark _)) (dw_or1 (dt_cmp (op_eqV hr.big) up_eq (de_v 1) (de_str) (nomark _)))))
 (dss_one (ds_ret (de_callTy (call_listA rfl) up_listA rfl M.b_list (by decide +kernel) (da_cons (de_ix (de_v 0) (de_int) (fun _ _ => rfl)) (da_nil)))))
 (dss_nil))
 (dss_cons (ds_if (dt_cmp op_in_seq (up_inSeq false) (de_v 1) (M.c_ONES.e rfl) rfl)
 (dss_one (ds_ret (de_lst (da_cons (de_ix (de_v 0) (de_int) (fun _ _ => rfl)) (da_nil)))))
 (dss_nil))
 (dss_cons (ds_if (dt_cmp (op_eqV hr.big) up_eq (de_v 1) (de_str) (nomark _))
 (dss_one (ds_ret (de_lst (da_cons (de_ix (de_v 0) (de_int) (fun _ _ => rfl)) (da_nil)))))
 (dss_nil))
 (dss_one (ds_ret (de_lst (da_nil))))))))
theorem ok_may_be_empty {f_may_be_empty : Addr} {d_may_be_empty : FuncData} {sp_may_be_empty : DSp} (M : Bl K mg) (D_may_be_empty : Def K mg "may_be_empty" s_may_be_empty f_may_be_empty d_may_be_empty ["expression", "names"]) (G_may_be_empty : FnD P w K mg base k f_may_be_empty d_may_be_empty ["expression", "names"] sp_may_be_empty) {sp : DSp} (len : ∀ ds G Q E, sp ds G Q E → ds.length = 2) (pure : ∀ ds G Q E, sp ds G Q E → (t_may_be_empty sp_may_be_empty) (fnEnds Q) (dstart N_may_be_empty ds) G) : FnD P w K mg base (k + 1) f_may_be_empty d_may_be_empty ["expression", "names"] sp := by
  refine fnD_ok D_may_be_empty.F sc_may_be_empty len ?_ pure
  intro cdv A outer s H E hr
  exact (
 dss_cons (ds_set (i := 2) sc_may_be_empty.nd rfl (by first | exact .inl rfl | exact .inr rfl) (de_ix (de_v 0) (de_int) (fun _ _ => rfl)))
 (dss_cons (ds_if (dt_cmp op_in_seq (up_inSeq false) (de_v 2) (de_tup (da_cons (de_str) (da_cons (de_str) (da_cons (de_str) (da_cons (de_str) (da_cons (de_str) (da_nil))))))) rfl)
 (dss_one (ds_ret (de_bl)))
 (dss_nil))
 (dss_cons (ds_if (dt_cmp (op_eqV hr.big) up_eq (de_v 2) (de_str) (nomark _))
 (dss_one (ds_ret (de_cmp op_in_seq (up_inSeq false) (de_ix (de_v 0) (de_int) (fun _ _ => rfl)) (de_v 1) rfl)))
 (dss_nil))
 (dss_cons (ds_if (dt_cmp (op_eqV hr.big) up_eq (de_v 2) (de_str) (nomark _))
 (dss_one (ds_ret (de_callB (cr_all rfl) up_all rfl M.b_all (by decide +kernel) (da_cons (de_lc rfl sc_may_be_empty.nd (di_seq (de_ix (de_v 0) (de_int) (fun _ _ => rfl))) (blkOk_by (N := N_may_be_empty) (sc := defScope s_may_be_empty) (own := [("part", 3)]) (by decide +kernel)) (fun _ _ _ _ _ => pg_name (i := 3) sc_may_be_empty.nd rfl (Or.inl rfl)) (fun _ _ _ _ _ => dts_nil) (fun _ _ _ _ _ => de_call G_may_be_empty hr rfl D_may_be_empty.m D_may_be_empty.F.kp D_may_be_empty.b .nil (fun _ => .nil) (da_cons (de_v 3) (da_cons (de_v 1) (da_nil))))) (da_nil)))))
 (dss_nil))
 (dss_cons (ds_if (dt_cmp (op_eqV hr.big) up_eq (de_v 2) (de_str) (nomark _))
 (dss_one (ds_ret (de_callB (cr_any rfl) up_any rfl M.b_any (by decide +kernel) (da_cons (de_lc rfl sc_may_be_empty.nd (di_seq (de_ix (de_v 0) (de_int) (fun _ _ => rfl))) (blkOk_by (N := N_may_be_empty) (sc := defScope s_may_be_empty) (own := [("part", 3)]) (by decide +kernel)) (fun _ _ _ _ _ => pg_name (i := 3) sc_may_be_empty.nd rfl (Or.inl rfl)) (fun _ _ _ _ _ => dts_nil) (fun _ _ _ _ _ => de_call G_may_be_empty hr rfl D_may_be_empty.m D_may_be_empty.F.kp D_may_be_empty.b .nil (fun _ => .nil) (da_cons (de_v 3) (da_cons (de_v 1) (da_nil))))) (da_nil)))))
 (dss_nil))
 (dss_cons (ds_if (dt_cmp (op_eqV hr.big) up_eq (de_v 2) (de_str) (nomark _))
 (dss_one (ds_ret (de_call G_may_be_empty hr rfl D_may_be_empty.m D_may_be_empty.F.kp D_may_be_empty.b .nil (fun _ => .nil) (da_cons (de_ix (de_v 0) (de_int) (fun _ _ => rfl)) (da_cons (de_v 1) (da_nil))))))
 (dss_nil))
 (dss_one (ds_ret (de_bl)))))))))
theorem ok_empty_rules {f_empty_rules f_may_be_empty : Addr} {d_empty_rules d_may_be_empty : FuncData} {sp_may_be_empty : DSp} (M : Bl K mg) (D_may_be_empty : Def K mg "may_be_empty" s_may_be_empty f_may_be_empty d_may_be_empty ["expression", "names"]) (G_may_be_empty : FnD P w K mg base k f_may_be_empty d_may_be_empty ["expression", "names"] sp_may_be_empty) (D_empty_rules : Def K mg "empty_rules" s_empty_rules f_empty_rules d_empty_rules ["grammar"]) {sp : DSp} (len : ∀ ds G Q E, sp ds G Q E → ds.length = 1) (pure : ∀ ds G Q E, sp ds G Q E → (t_empty_rules sp_may_be_empty) (fnEnds Q) (dstart N_empty_rules ds) G) : FnD P w K mg base (k + 1) f_empty_rules d_empty_rules ["grammar"] sp := by
  refine fnD_ok D_empty_rules.F sc_empty_rules len ?_ pure
  intro cdv A outer s H E hr
  exact (
 dss_cons (ds_set (i := 1) sc_empty_rules.nd rfl (by first | exact .inl rfl | exact .inr rfl) (de_lst (da_nil)))
 (dss_cons (ds_set (i := 2) sc_empty_rules.nd rfl (by first | exact .inl rfl | exact .inr rfl) (de_bl))
 (dss_cons (ds_while PassesOwn.never (dt_truth (de_v 2))
 (dss_cons (ds_setLc (j := 3) rfl sc_empty_rules.nd rfl rfl (sw_true rfl rfl rfl (by decide +kernel)) (di_seq (de_v 0)) (blkOk_by (N := N_empty_rules) (sc := defScope s_empty_rules) (own := [("rule", 4)]) (by decide +kernel)) (fun _ _ _ _ _ => pg_name (i := 4) sc_empty_rules.nd rfl (Or.inl rfl)) (fun _ _ _ _ _ => dts_one (dt_truth (de_call G_may_be_empty hr rfl D_may_be_empty.m D_may_be_empty.F.kp D_may_be_empty.b .nil (fun _ => .nil) (da_cons (de_ix (de_v 4) (de_int) (fun _ _ => rfl)) (da_cons (de_v 1) (da_nil)))))) (fun _ _ _ _ _ => de_ix (de_v 4) (de_int) (fun _ _ => rfl)))
 (dss_cons (ds_set (i := 2) sc_empty_rules.nd rfl (by first | exact .inl rfl | exact .inr rfl) (de_cmp (op_neV hr.big) up_ne (de_v 3) (de_v 1) (nomark _)))
 (dss_one (ds_set (i := 1) sc_empty_rules.nd rfl (by first | exact .inl rfl | exact .inr rfl) (de_v 3))))))
 (dss_one (ds_ret (de_v 1))))))
theorem ok_joined {f_joined : Addr} {d_joined : FuncData} (M : Bl K mg) (D_joined : Def K mg "joined" s_joined f_joined d_joined ["one", "two"]) {sp : DSp} (len : ∀ ds G Q E, sp ds G Q E → ds.length = 2) (pure : ∀ ds G Q E, sp ds G Q E → (t_joined) (fnEnds Q) (dstart N_joined ds) G) : FnD P w K mg base (k + 1) f_joined d_joined ["one", "two"] sp := by
  refine fnD_ok D_joined.F sc_joined len ?_ pure
  intro cdv A outer s H E hr
  exact (
 dss_one (ds_ret (de_join (de_str) (de_lc rfl sc_joined.nd (di_seq (M.c_CHARS.e rfl)) (blkOk_by (N := N_joined) (sc := defScope s_joined) (own := [("char", 2)]) (by decide +kernel)) (fun _ _ _ _ _ => pg_name (i := 2) sc_joined.nd rfl (Or.inl rfl)) (fun _ _ _ _ _ => dts_one (dt_w (dw_or (dt_cmp op_in_sign up_inStr (de_v 2) (de_v 0) rfl) (dw_or1 (dt_cmp op_in_sign up_inStr (de_v 2) (de_v 1) rfl))))) (fun _ _ _ _ _ => de_v 2)))))
theorem ok_firsts_in {f_firsts_in f_parts_of f_joined f_may_be_empty : Addr} {d_firsts_in d_parts_of d_joined d_may_be_empty : FuncData} {sp_parts_of : DSp} {sp_joined : DSp} {sp_firsts_in : DSp} {sp_may_be_empty : DSp} (M : Bl K mg) (D_parts_of : Def K mg "parts_of" s_parts_of f_parts_of d_parts_of ["expression"]) (G_parts_of : FnD P w K mg base k f_parts_of d_parts_of ["expression"] sp_parts_of) (D_joined : Def K mg "joined" s_joined f_joined d_joined ["one", "two"]) (G_joined : FnD P w K mg base k f_joined d_joined ["one", "two"] sp_joined) (D_firsts_in : Def K mg "firsts_in" s_firsts_in f_firsts_in d_firsts_in ["expression", "empty", "table"]) (G_firsts_in : FnD P w K mg base k f_firsts_in d_firsts_in ["expression", "empty", "table"] sp_firsts_in) (D_may_be_empty : Def K mg "may_be_empty" s_may_be_empty f_may_be_empty d_may_be_empty ["expression", "names"]) (G_may_be_empty : FnD P w K mg base k f_may_be_empty d_may_be_empty ["expression", "names"] sp_may_be_empty) {sp : DSp} (len : ∀ ds G Q E, sp ds G Q E → ds.length = 3) (pure : ∀ ds G Q E, sp ds G Q E → (t_firsts_in sp_parts_of sp_joined sp_firsts_in sp_may_be_empty) (fnEnds Q) (dstart N_firsts_in ds) G) : FnD P w K mg base (k + 1) f_firsts_in d_firsts_in ["expression", "empty", "table"] sp := by
  refine fnD_ok D_firsts_in.F sc_firsts_in len ?_ pure
  intro cdv A outer s H E hr
  exact (
 dss_cons (ds_set (i := 3) sc_firsts_in.nd rfl (by first | exact .inl rfl | exact .inr rfl) (de_ix (de_v 0) (de_int) (fun _ _ => rfl)))
 (dss_cons (ds_if (dt_cmp (op_eqV hr.big) up_eq (de_v 3) (de_str) (nomark _))
 (dss_one (ds_ret (M.c_CHARS.e rfl)))
 (dss_nil))
 (dss_cons (ds_if (dt_cmp (op_eqV hr.big) up_eq (de_v 3) (de_str) (nomark _))
 (dss_one (ds_ret (de_ix (de_v 0) (de_int) (fun _ _ => rfl))))
 (dss_nil))
 (dss_cons (ds_if (dt_cmp (op_eqV hr.big) up_eq (de_v 3) (de_str) (nomark _))
 (dss_one (ds_ret (de_ix (de_ix (de_v 0) (de_int) (fun _ _ => rfl)) (de_int) (fun _ _ => rfl))))
 (dss_nil))
 (dss_cons (ds_if (dt_cmp op_in_seq (up_inSeq false) (de_v 3) (de_tup (da_cons (de_str) (da_cons (de_str) (da_cons (de_str) (da_cons (de_str) (da_nil)))))) rfl)
 (dss_one (ds_ret (de_str)))
 (dss_nil))
 (dss_cons (ds_if (dt_cmp (op_eqV hr.big) up_eq (de_v 3) (de_str) (nomark _))
 (dss_one (ds_ret (de_dget hr.hu (de_v 2) (de_ix (de_v 0) (de_int) (fun _ _ => rfl)) (fun _ _ => rfl))))
 (dss_nil))
 (dss_cons (ds_set (i := 4) sc_firsts_in.nd rfl (by first | exact .inl rfl | exact .inr rfl) (de_str))
 (dss_cons (ds_for PassesOwn.never rfl (di_seq (de_call G_parts_of hr rfl D_parts_of.m D_parts_of.F.kp D_parts_of.b .nil (fun _ => .nil) (da_cons (de_v 0) (da_nil)))) (dg_name (i := 5) sc_firsts_in.nd rfl (by first | exact .inl rfl | exact .inr rfl))
 (dss_cons (ds_set (i := 4) sc_firsts_in.nd rfl (by first | exact .inl rfl | exact .inr rfl) (de_call G_joined hr rfl D_joined.m D_joined.F.kp D_joined.b .nil (fun _ => .nil) (da_cons (de_v 4) (da_cons (de_call G_firsts_in hr rfl D_firsts_in.m D_firsts_in.F.kp D_firsts_in.b .nil (fun _ => .nil) (da_cons (de_v 5) (da_cons (de_v 1) (da_cons (de_v 2) (da_nil))))) (da_nil)))))
 (dss_one (ds_if (dt_w (dw_and (dt_cmp (op_eqV hr.big) up_eq (de_v 3) (de_str) (nomark _)) (dw_and1 (dt_not (dt_truth (de_call G_may_be_empty hr rfl D_may_be_empty.m D_may_be_empty.F.kp D_may_be_empty.b .nil (fun _ => .nil) (da_cons (de_v 5) (da_cons (de_v 1) (da_nil)))))))))
 (dss_one (ds_break))
 (dss_nil)))))
 (dss_one (ds_ret (de_v 4)))))))))))
theorem ok_first_table {f_first_table f_empty_rules f_firsts_in : Addr} {d_first_table d_empty_rules d_firsts_in : FuncData} {sp_empty_rules : DSp} {sp_firsts_in : DSp} (M : Bl K mg) (D_empty_rules : Def K mg "empty_rules" s_empty_rules f_empty_rules d_empty_rules ["grammar"]) (G_empty_rules : FnD P w K mg base k f_empty_rules d_empty_rules ["grammar"] sp_empty_rules) (D_firsts_in : Def K mg "firsts_in" s_firsts_in f_firsts_in d_firsts_in ["expression", "empty", "table"]) (G_firsts_in : FnD P w K mg base k f_firsts_in d_firsts_in ["expression", "empty", "table"] sp_firsts_in) (D_first_table : Def K mg "first_table" s_first_table f_first_table d_first_table ["grammar"]) {sp : DSp} (len : ∀ ds G Q E, sp ds G Q E → ds.length = 1) (pure : ∀ ds G Q E, sp ds G Q E → (t_first_table sp_empty_rules sp_firsts_in) (fnEnds Q) (dstart N_first_table ds) G) : FnD P w K mg base (k + 1) f_first_table d_first_table ["grammar"] sp := by
  refine fnD_ok D_first_table.F sc_first_table len ?_ pure
  intro cdv A outer s H E hr
  exact (
 dss_cons (ds_set (i := 1) sc_first_table.nd rfl (by first | exact .inl rfl | exact .inr rfl) (de_call G_empty_rules hr rfl D_empty_rules.m D_empty_rules.F.kp D_empty_rules.b .nil (fun _ => .nil) (da_cons (de_v 0) (da_nil))))
 (dss_cons (ds_set (i := 2) sc_first_table.nd rfl (by first | exact .inl rfl | exact .inr rfl) (de_dc rfl sc_first_table.nd (di_seq (de_v 0)) (blkOk_by (N := N_first_table) (sc := defScope s_first_table) (own := [("rule", 5)]) (by decide +kernel)) (fun _ _ _ _ _ => pg_name (i := 5) sc_first_table.nd rfl (Or.inl rfl)) (fun _ _ _ _ _ => dts_nil) (fun _ _ _ _ _ => de_ix (de_v 5) (de_int) (fun _ _ => rfl)) (fun _ _ _ _ _ => de_str)))
 (dss_cons (ds_set (i := 3) sc_first_table.nd rfl (by first | exact .inl rfl | exact .inr rfl) (de_bl))
 (dss_cons (ds_while PassesOwn.never (dt_truth (de_v 3))
 (dss_cons (ds_setDc (j := 4) rfl sc_first_table.nd rfl rfl (swd_true rfl rfl rfl (by decide +kernel)) (di_seq (de_v 0)) (blkOk_by (N := N_first_table) (sc := defScope s_first_table) (own := [("rule", 5)]) (by decide +kernel)) (fun _ _ _ _ _ => pg_name (i := 5) sc_first_table.nd rfl (Or.inl rfl)) (fun _ _ _ _ _ => dts_nil) (fun _ _ _ _ _ => de_ix (de_v 5) (de_int) (fun _ _ => rfl)) (fun _ _ _ _ _ => de_call G_firsts_in hr rfl D_firsts_in.m D_firsts_in.F.kp D_firsts_in.b .nil (fun _ => .nil) (da_cons (de_ix (de_v 5) (de_int) (fun _ _ => rfl)) (da_cons (de_v 1) (da_cons (de_v 2) (da_nil))))))
 (dss_cons (ds_set (i := 3) sc_first_table.nd rfl (by first | exact .inl rfl | exact .inr rfl) (de_cmp (op_ne_dictC hr.hu0) (up_dictE true) (de_v 4) (de_v 2) (nomark _)))
 (dss_one (ds_set (i := 2) sc_first_table.nd rfl (by first | exact .inl rfl | exact .inr rfl) (de_v 4))))))
 (dss_one (ds_ret (de_v 2)))))))
theorem ok_firsts {f_firsts f_firsts_in f_first_table f_empty_rules : Addr} {d_firsts d_firsts_in d_first_table d_empty_rules : FuncData} {sp_firsts_in : DSp} {sp_first_table : DSp} {sp_empty_rules : DSp} (M : Bl K mg) (D_firsts_in : Def K mg "firsts_in" s_firsts_in f_firsts_in d_firsts_in ["expression", "empty", "table"]) (G_firsts_in : FnD P w K mg base k f_firsts_in d_firsts_in ["expression", "empty", "table"] sp_firsts_in) (D_first_table : Def K mg "first_table" s_first_table f_first_table d_first_table ["grammar"]) (G_first_table : FnD P w K mg base k f_first_table d_first_table ["grammar"] sp_first_table) (D_empty_rules : Def K mg "empty_rules" s_empty_rules f_empty_rules d_empty_rules ["grammar"]) (G_empty_rules : FnD P w K mg base k f_empty_rules d_empty_rules ["grammar"] sp_empty_rules) (D_firsts : Def K mg "firsts" s_firsts f_firsts d_firsts ["grammar", "expression"]) {sp : DSp} (len : ∀ ds G Q E, sp ds G Q E → ds.length = 2) (pure : ∀ ds G Q E, sp ds G Q E → (t_firsts sp_firsts_in sp_first_table sp_empty_rules) (fnEnds Q) (dstart N_firsts ds) G) : FnD P w K mg base (k + 1) f_firsts d_firsts ["grammar", "expression"] sp := by
  refine fnD_ok D_firsts.F sc_firsts len ?_ pure
  intro cdv A outer s H E hr
  exact (
 dss_one (ds_ret (de_call G_firsts_in hr rfl D_firsts_in.m D_firsts_in.F.kp D_firsts_in.b .nil (fun _ => .nil) (da_cons (de_v 1) (da_cons (de_call G_empty_rules hr rfl D_empty_rules.m D_empty_rules.F.kp D_empty_rules.b .nil (fun _ => .nil) (da_cons (de_v 0) (da_nil))) (da_cons (de_call G_first_table hr rfl D_first_table.m D_first_table.F.kp D_first_table.b .nil (fun _ => .nil) (da_cons (de_v 0) (da_nil))) (da_nil)))))))
theorem ok_law_stream {f_law_stream : Addr} {d_law_stream : FuncData} (M : Bl K mg) (D_law_stream : Def K mg "_law_stream" s_law_stream f_law_stream d_law_stream ["_law_script"]) {sp : DSp} (len : ∀ ds G Q E, sp ds G Q E → ds.length = 1) (pure : ∀ ds G Q E, sp ds G Q E → (t_law_stream) (fnEnds Q) (dstart N_law_stream ds) G) : FnD P w K mg base (k + 1) f_law_stream d_law_stream ["_law_script"] sp := by
  refine fnD_ok D_law_stream.F sc_law_stream len ?_ pure
  intro cdv A outer s H E hr
  exact (
 dss_cons (ds_set (i := 1) sc_law_stream.nd rfl (by first | exact .inl rfl | exact .inr rfl) (de_lst (da_cons (de_int) (da_nil))))
 (dss_cons (ds_for PassesOwn.never rfl (di_seq (de_slice (de_v 0) (do_none) (do_some (de_int)))) (dg_name (i := 2) sc_law_stream.nd rfl (by first | exact .inl rfl | exact .inr rfl))
 (dss_cons (ds_set (i := 3) sc_law_stream.nd rfl (by first | exact .inl rfl | exact .inr rfl) (de_callB call_abs up_abs rfl M.b_abs (by decide +kernel) (da_cons (de_callTy call_int1 up_int1 rfl M.b_int (by decide +kernel) (da_cons (de_v 2) (da_nil))) (da_nil))))
 (dss_one (ds_for PassesOwn.never rfl (di_rng1 rfl M.b_range (da_cons (de_int) (da_nil))) (dg_name (i := 4) sc_law_stream.nd rfl (by first | exact .inl rfl | exact .inr rfl))
 (dss_cons (ds_expr (de_ml PySem.F.slot_list_append PySem.F.type_list_append (mt_append) up_append (de_v 1) (da_cons (de_op op_mod up_mod (de_v 3) (de_int)) (da_nil))))
 (dss_cons (ds_set (i := 3) sc_law_stream.nd rfl (by first | exact .inl rfl | exact .inr rfl) (de_op op_fdiv up_fdiv (de_v 3) (de_int)))
 (dss_one (ds_if (dt_cmp (op_eqV hr.big) up_eq (de_v 3) (de_int) (nomark _))
 (dss_one (ds_break))
 (dss_nil)))))))))
 (dss_cons (ds_set (i := 5) sc_law_stream.nd rfl (by first | exact .inl rfl | exact .inr rfl) (de_int))
 (dss_cons (ds_for PassesOwn.never rfl (di_seq (de_slice (de_v 0) (do_none) (do_some (de_int)))) (dg_name (i := 2) sc_law_stream.nd rfl (by first | exact .inl rfl | exact .inr rfl))
 (dss_one (ds_set (i := 5) sc_law_stream.nd rfl (by first | exact .inl rfl | exact .inr rfl) (de_op op_mod up_mod (de_callTy call_int1 up_int1 rfl M.b_int (by decide +kernel) (da_cons (de_op op_addV up_add (de_op op_addV up_add (de_op op_mul up_mul (de_v 5) (de_int)) (de_v 2)) (de_int)) (da_nil))) (de_int)))))
 (dss_cons (ds_for PassesOwn.never rfl (di_rng1 rfl M.b_range (da_cons (de_int) (da_nil))) (dg_name (i := 4) sc_law_stream.nd rfl (by first | exact .inl rfl | exact .inr rfl))
 (dss_cons (ds_set (i := 5) sc_law_stream.nd rfl (by first | exact .inl rfl | exact .inr rfl) (de_op op_mod up_mod (de_callTy call_int1 up_int1 rfl M.b_int (by decide +kernel) (da_cons (de_op op_addV up_add (de_op op_addV up_add (de_op op_mul up_mul (de_v 5) (de_int)) (de_op op_mul up_mul (de_v 4) (de_int))) (de_int)) (da_nil))) (de_int)))
 (dss_one (ds_expr (de_ml PySem.F.slot_list_append PySem.F.type_list_append (mt_append) up_append (de_v 1) (da_cons (de_op op_mod up_mod (de_op op_fdiv up_fdiv (de_v 5) (de_int)) (de_int)) (da_nil)))))))
 (dss_one (ds_ret (de_v 1))))))))
theorem ok_law_take {f_law_take : Addr} {d_law_take : FuncData} (M : Bl K mg) (D_law_take : Def K mg "_law_take" s_law_take f_law_take d_law_take ["_law_row_here", "_law_many"]) {sp : DSp} (len : ∀ ds G Q E, sp ds G Q E → ds.length = 2) (pure : ∀ ds G Q E, sp ds G Q E → (t_law_take) (fnEnds Q) (dstart N_law_take ds) G) : FnD P w K mg base (k + 1) f_law_take d_law_take ["_law_row_here", "_law_many"] sp := by
  refine fnD_ok D_law_take.F sc_law_take len ?_ pure
  intro cdv A outer s H E hr
  exact (
 dss_cons (ds_if (dt_cmp op_ltV up_lt (de_ix (de_v 0) (de_int) (fun _ _ => rfl)) (de_callB call_lenV up_len rfl M.b_len PySem.boot_len (da_cons (de_v 0) (da_nil))) (nomark _))
 (dss_cons (ds_asg (de_op op_addV up_add (de_ix (de_v 0) (de_int) (fun _ _ => rfl)) (de_int)) (dg_sub (de_v 0) (de_int) set_list up_setL))
 (dss_one (ds_ret (de_op op_mod up_mod (de_callTy call_int1 up_int1 rfl M.b_int (by decide +kernel) (da_cons (de_ix (de_v 0) (de_op op_sub up_sub (de_ix (de_v 0) (de_int) (fun _ _ => rfl)) (de_int)) (fun _ _ => rfl)) (da_nil))) (de_v 1)))))
 (dss_nil))
 (dss_one (ds_ret (de_int))))
theorem ok_law_taker {f_law_taker f_law_take : Addr} {d_law_taker d_law_take : FuncData} {sp_law_take : DSp} (M : Bl K mg) (D_law_take : Def K mg "_law_take" s_law_take f_law_take d_law_take ["_law_row_here", "_law_many"]) (G_law_take : FnD P w K mg base k f_law_take d_law_take ["_law_row_here", "_law_many"] sp_law_take) (D_law_taker : Def K mg "_law_taker" s_law_taker f_law_taker d_law_taker ["_law_row_here"]) {sp : DSp} (len : ∀ ds G Q E, sp ds G Q E → ds.length = 1) (pure : ∀ ds G Q E, sp ds G Q E → (t_law_taker sp_law_take) (fnEnds Q) (dstart N_law_taker ds) G) : FnD P w K mg base (k + 1) f_law_taker d_law_taker ["_law_row_here"] sp := by
  refine fnD_ok D_law_taker.F sc_law_taker len ?_ pure
  intro cdv A outer s H E hr
  exact (
 dss_cons (ds_set (i := 1) sc_law_taker.nd rfl (by first | exact .inl rfl | exact .inr rfl) (de_call G_law_take hr rfl D_law_take.m D_law_take.F.kp D_law_take.b .nil (fun _ => .nil) (da_cons (de_v 0) (da_cons (de_int) (da_nil)))))
 (dss_cons (ds_if (dt_cmp (op_eqV hr.big) up_eq (de_v 1) (de_int) (nomark _))
 (dss_one (ds_ret (de_tup (da_cons (de_str) (da_cons (de_ix (de_lst (da_cons (de_str) (da_cons (de_str) (da_cons (de_str) (da_cons (de_str) (da_nil)))))) (de_call G_law_take hr rfl D_law_take.m D_law_take.F.kp D_law_take.b .nil (fun _ => .nil) (da_cons (de_v 0) (da_cons (de_int) (da_nil)))) (fun _ _ => rfl)) (da_nil))))))
 (dss_nil))
 (dss_cons (ds_if (dt_cmp (op_eqV hr.big) up_eq (de_v 1) (de_int) (nomark _))
 (dss_one (ds_ret (de_tup (da_cons (de_str) (da_nil)))))
 (dss_nil))
 (dss_one (ds_ret (de_tup (da_cons (de_str) (da_cons (de_ix (de_lst (da_cons (de_str) (da_cons (de_str) (da_cons (de_str) (da_cons (de_str) (da_cons (de_str) (da_nil))))))) (de_call G_law_take hr rfl D_law_take.m D_law_take.F.kp D_law_take.b .nil (fun _ => .nil) (da_cons (de_v 0) (da_cons (de_int) (da_nil)))) (fun _ _ => rfl)) (da_nil)))))))))
theorem ok_law_expression {f_law_expression f_law_take f_law_taker : Addr} {d_law_expression d_law_take d_law_taker : FuncData} {sp_law_take : DSp} {sp_law_taker : DSp} {sp_law_expression : DSp} (M : Bl K mg) (D_law_take : Def K mg "_law_take" s_law_take f_law_take d_law_take ["_law_row_here", "_law_many"]) (G_law_take : FnD P w K mg base k f_law_take d_law_take ["_law_row_here", "_law_many"] sp_law_take) (D_law_taker : Def K mg "_law_taker" s_law_taker f_law_taker d_law_taker ["_law_row_here"]) (G_law_taker : FnD P w K mg base k f_law_taker d_law_taker ["_law_row_here"] sp_law_taker) (D_law_expression : Def K mg "_law_expression" s_law_expression f_law_expression d_law_expression ["_law_row_here", "_law_depth", "_law_rule", "_law_many"]) (G_law_expression : FnD P w K mg base k f_law_expression d_law_expression ["_law_row_here", "_law_depth", "_law_rule", "_law_many"] sp_law_expression) {sp : DSp} (len : ∀ ds G Q E, sp ds G Q E → ds.length = 4) (pure : ∀ ds G Q E, sp ds G Q E → (t_law_expression sp_law_take sp_law_taker sp_law_expression) (fnEnds Q) (dstart N_law_expression ds) G) : FnD P w K mg base (k + 1) f_law_expression d_law_expression ["_law_row_here", "_law_depth", "_law_rule", "_law_many"] sp := by
  refine fnD_ok D_law_expression.F sc_law_expression len ?_ pure
  intro cdv A outer s H E hr
  exact (
 dss_cons (ds_set (i := 4) sc_law_expression.nd rfl (by first | exact .inl rfl | exact .inr rfl) (de_call G_law_take hr rfl D_law_take.m D_law_take.F.kp D_law_take.b .nil (fun _ => .nil) (da_cons (de_v 0) (da_cons (de_int) (da_nil)))))
 (dss_cons (ds_if (dt_w (dw_or (dt_cmp (op_eqV hr.big) up_eq (de_v 1) (de_int) (nomark _)) (dw_or1 (dt_cmp op_ltV up_lt (de_v 4) (de_int) (nomark _)))))
 (dss_cons (ds_if (dt_cmp (op_eqV hr.big) up_eq (de_call G_law_take hr rfl D_law_take.m D_law_take.F.kp D_law_take.b .nil (fun _ => .nil) (da_cons (de_v 0) (da_cons (de_int) (da_nil)))) (de_int) (nomark _))
 (dss_one (ds_ret (de_ix (de_lst (da_cons (de_tup (da_cons (de_str) (da_nil))) (da_cons (de_tup (da_cons (de_str) (da_nil))) (da_nil)))) (de_call G_law_take hr rfl D_law_take.m D_law_take.F.kp D_law_take.b .nil (fun _ => .nil) (da_cons (de_v 0) (da_cons (de_int) (da_nil)))) (fun _ _ => rfl))))
 (dss_nil))
 (dss_one (ds_ret (de_call G_law_taker hr rfl D_law_taker.m D_law_taker.F.kp D_law_taker.b .nil (fun _ => .nil) (da_cons (de_v 0) (da_nil))))))
 (dss_nil))
 (dss_cons (ds_if (dt_w (dw_and (dt_cmp (op_eqV hr.big) up_eq (de_v 4) (de_int) (nomark _)) (dw_and1 (dt_cmp op_ltV up_lt (de_op op_addV up_add (de_v 2) (de_int)) (de_v 3) (nomark _)))))
 (dss_one (ds_ret (de_tup (da_cons (de_str) (da_cons (de_ix (de_str) (de_op op_addV up_add (de_op op_addV up_add (de_v 2) (de_int)) (de_call G_law_take hr rfl D_law_take.m D_law_take.F.kp D_law_take.b .nil (fun _ => .nil) (da_cons (de_v 0) (da_cons (de_op op_sub up_sub (de_op op_sub up_sub (de_v 3) (de_v 2)) (de_int)) (da_nil))))) (fun _ _ => rfl)) (da_nil))))))
 (dss_nil))
 (dss_cons (ds_if (dt_cmp (op_eqV hr.big) up_eq (de_v 4) (de_int) (nomark _))
 (dss_one (ds_ret (de_tup (da_cons (de_str) (da_cons (de_tup (da_cons (de_call G_law_taker hr rfl D_law_taker.m D_law_taker.F.kp D_law_taker.b .nil (fun _ => .nil) (da_cons (de_v 0) (da_nil))) (da_cons (de_tup (da_cons (de_str) (da_cons (de_ix (de_str) (de_call G_law_take hr rfl D_law_take.m D_law_take.F.kp D_law_take.b .nil (fun _ => .nil) (da_cons (de_v 0) (da_cons (de_v 3) (da_nil)))) (fun _ _ => rfl)) (da_nil)))) (da_nil)))) (da_nil))))))
 (dss_nil))
 (dss_cons (ds_set (i := 5) sc_law_expression.nd rfl (by first | exact .inl rfl | exact .inr rfl) (de_call G_law_expression hr rfl D_law_expression.m D_law_expression.F.kp D_law_expression.b .nil (fun _ => .nil) (da_cons (de_v 0) (da_cons (de_op op_sub up_sub (de_v 1) (de_int)) (da_cons (de_v 2) (da_cons (de_v 3) (da_nil)))))))
 (dss_cons (ds_if (dt_cmp (op_eqV hr.big) up_eq (de_v 4) (de_int) (nomark _))
 (dss_one (ds_ret (de_tup (da_cons (de_str) (da_cons (de_tup (da_cons (de_str) (da_cons (de_tup (da_cons (de_call G_law_taker hr rfl D_law_taker.m D_law_taker.F.kp D_law_taker.b .nil (fun _ => .nil) (da_cons (de_v 0) (da_nil))) (da_cons (de_v 5) (da_nil)))) (da_nil)))) (da_nil))))))
 (dss_nil))
 (dss_cons (ds_if (dt_cmp op_ltV up_lt (de_v 4) (de_int) (nomark _))
 (dss_one (ds_ret (de_tup (da_cons (de_ix (de_lst (da_cons (de_str) (da_cons (de_str) (da_cons (de_str) (da_nil))))) (de_op op_sub up_sub (de_v 4) (de_int)) (fun _ _ => rfl)) (da_cons (de_v 5) (da_nil))))))
 (dss_nil))
 (dss_cons (ds_if (dt_cmp (op_eqV hr.big) up_eq (de_v 4) (de_int) (nomark _))
 (dss_one (ds_ret (de_tup (da_cons (de_str) (da_cons (de_ix (de_lst (da_cons (de_str) (da_cons (de_str) (da_nil)))) (de_call G_law_take hr rfl D_law_take.m D_law_take.F.kp D_law_take.b .nil (fun _ => .nil) (da_cons (de_v 0) (da_cons (de_int) (da_nil)))) (fun _ _ => rfl)) (da_cons (de_v 5) (da_nil)))))))
 (dss_nil))
 (dss_cons (ds_set (i := 6) sc_law_expression.nd rfl (by first | exact .inl rfl | exact .inr rfl) (de_call G_law_expression hr rfl D_law_expression.m D_law_expression.F.kp D_law_expression.b .nil (fun _ => .nil) (da_cons (de_v 0) (da_cons (de_op op_sub up_sub (de_v 1) (de_int)) (da_cons (de_v 2) (da_cons (de_v 3) (da_nil)))))))
 (dss_cons (ds_if (dt_cmp (op_eqV hr.big) up_eq (de_v 4) (de_int) (nomark _))
 (dss_cons (ds_set (i := 7) sc_law_expression.nd rfl (by first | exact .inl rfl | exact .inr rfl) (de_call G_law_expression hr rfl D_law_expression.m D_law_expression.F.kp D_law_expression.b .nil (fun _ => .nil) (da_cons (de_v 0) (da_cons (de_op op_sub up_sub (de_v 1) (de_int)) (da_cons (de_v 2) (da_cons (de_v 3) (da_nil)))))))
 (dss_one (ds_ret (de_tup (da_cons (de_ix (de_lst (da_cons (de_str) (da_cons (de_str) (da_nil)))) (de_call G_law_take hr rfl D_law_take.m D_law_take.F.kp D_law_take.b .nil (fun _ => .nil) (da_cons (de_v 0) (da_cons (de_int) (da_nil)))) (fun _ _ => rfl)) (da_cons (de_tup (da_cons (de_v 5) (da_cons (de_v 6) (da_cons (de_v 7) (da_nil))))) (da_nil)))))))
 (dss_nil))
 (dss_one (ds_ret (de_tup (da_cons (de_ix (de_lst (da_cons (de_str) (da_cons (de_str) (da_cons (de_str) (da_nil))))) (de_op op_sub up_sub (de_v 4) (de_int)) (fun _ _ => rfl)) (da_cons (de_tup (da_cons (de_v 5) (da_cons (de_v 6) (da_nil)))) (da_nil))))))))))))))))
theorem ok_law_grammar {f_law_grammar f_law_take f_law_expression : Addr} {d_law_grammar d_law_take d_law_expression : FuncData} {sp_law_take : DSp} {sp_law_expression : DSp} (M : Bl K mg) (D_law_take : Def K mg "_law_take" s_law_take f_law_take d_law_take ["_law_row_here", "_law_many"]) (G_law_take : FnD P w K mg base k f_law_take d_law_take ["_law_row_here", "_law_many"] sp_law_take) (D_law_expression : Def K mg "_law_expression" s_law_expression f_law_expression d_law_expression ["_law_row_here", "_law_depth", "_law_rule", "_law_many"]) (G_law_expression : FnD P w K mg base k f_law_expression d_law_expression ["_law_row_here", "_law_depth", "_law_rule", "_law_many"] sp_law_expression) (D_law_grammar : Def K mg "_law_grammar" s_law_grammar f_law_grammar d_law_grammar ["_law_row_here", "_law_depth"]) {sp : DSp} (len : ∀ ds G Q E, sp ds G Q E → ds.length = 2) (pure : ∀ ds G Q E, sp ds G Q E → (t_law_grammar sp_law_take sp_law_expression) (fnEnds Q) (dstart N_law_grammar ds) G) : FnD P w K mg base (k + 1) f_law_grammar d_law_grammar ["_law_row_here", "_law_depth"] sp := by
  refine fnD_ok D_law_grammar.F sc_law_grammar len ?_ pure
  intro cdv A outer s H E hr
  exact (
 dss_cons (ds_set (i := 2) sc_law_grammar.nd rfl (by first | exact .inl rfl | exact .inr rfl) (de_op op_addV up_add (de_int) (de_call G_law_take hr rfl D_law_take.m D_law_take.F.kp D_law_take.b .nil (fun _ => .nil) (da_cons (de_v 0) (da_cons (de_int) (da_nil))))))
 (dss_one (ds_ret (de_callTy call_tuple_of up_tuple rfl M.b_tuple (by decide +kernel) (da_cons (de_lc rfl sc_law_grammar.nd (di_rng1 rfl M.b_range (da_cons (de_v 2) (da_nil))) (blkOk_by (N := N_law_grammar) (sc := defScope s_law_grammar) (own := [("_law_k", 3)]) (by decide +kernel)) (fun _ _ _ _ _ => pg_name (i := 3) sc_law_grammar.nd rfl (Or.inl rfl)) (fun _ _ _ _ _ => dts_nil) (fun _ _ _ _ _ => de_tup (da_cons (de_ix (de_str) (de_v 3) (fun _ _ => rfl)) (da_cons (de_call G_law_expression hr rfl D_law_expression.m D_law_expression.F.kp D_law_expression.b .nil (fun _ => .nil) (da_cons (de_v 0) (da_cons (de_v 1) (da_cons (de_v 3) (da_cons (de_v 2) (da_nil)))))) (da_nil))))) (da_nil))))))
theorem ok_law_text {f_law_text f_law_take : Addr} {d_law_text d_law_take : FuncData} {sp_law_take : DSp} (M : Bl K mg) (D_law_take : Def K mg "_law_take" s_law_take f_law_take d_law_take ["_law_row_here", "_law_many"]) (G_law_take : FnD P w K mg base k f_law_take d_law_take ["_law_row_here", "_law_many"] sp_law_take) (D_law_text : Def K mg "_law_text" s_law_text f_law_text d_law_text ["_law_row_here"]) {sp : DSp} (len : ∀ ds G Q E, sp ds G Q E → ds.length = 1) (pure : ∀ ds G Q E, sp ds G Q E → (t_law_text sp_law_take) (fnEnds Q) (dstart N_law_text ds) G) : FnD P w K mg base (k + 1) f_law_text d_law_text ["_law_row_here"] sp := by
  refine fnD_ok D_law_text.F sc_law_text len ?_ pure
  intro cdv A outer s H E hr
  exact (
 dss_one (ds_ret (de_join (de_str) (de_lc rfl sc_law_text.nd (di_rng1 rfl M.b_range (da_cons (de_call G_law_take hr rfl D_law_take.m D_law_take.F.kp D_law_take.b .nil (fun _ => .nil) (da_cons (de_v 0) (da_cons (de_int) (da_nil)))) (da_nil))) (blkOk_by (N := N_law_text) (sc := defScope s_law_text) (own := [("_law_k", 1)]) (by decide +kernel)) (fun _ _ _ _ _ => pg_name (i := 1) sc_law_text.nd rfl (Or.inl rfl)) (fun _ _ _ _ _ => dts_nil) (fun _ _ _ _ _ => de_ix (de_str) (de_call G_law_take hr rfl D_law_take.m D_law_take.F.kp D_law_take.b .nil (fun _ => .nil) (da_cons (de_v 0) (da_cons (de_int) (da_nil)))) (fun _ _ => rfl))))))
theorem ok_law_row {f_law_row f_law_match : Addr} {d_law_row d_law_match : FuncData} {sp_law_match : DSp} (M : Bl K mg) (D_law_match : Def K mg "_law_match" s_law_match f_law_match d_law_match ["_law_fuel", "_law_grammar_here", "_law_expression_here", "_law_text_here", "_law_at"]) (G_law_match : FnD P w K mg base k f_law_match d_law_match ["_law_fuel", "_law_grammar_here", "_law_expression_here", "_law_text_here", "_law_at"] sp_law_match) (D_law_row : Def K mg "_law_row" s_law_row f_law_row d_law_row ["_law_fuel", "_law_grammar_here", "_law_parts_here", "_law_text_here", "_law_at"]) {sp : DSp} (len : ∀ ds G Q E, sp ds G Q E → ds.length = 5) (pure : ∀ ds G Q E, sp ds G Q E → (t_law_row sp_law_match) (fnEnds Q) (dstart N_law_row ds) G) : FnD P w K mg base (k + 1) f_law_row d_law_row ["_law_fuel", "_law_grammar_here", "_law_parts_here", "_law_text_here", "_law_at"] sp := by
  refine fnD_ok D_law_row.F sc_law_row len ?_ pure
  intro cdv A outer s H E hr
  exact (
 dss_cons (ds_set (i := 5) sc_law_row.nd rfl (by first | exact .inl rfl | exact .inr rfl) (de_tup (da_nil)))
 (dss_cons (ds_for PassesOwn.never rfl (di_seq (de_v 2)) (dg_name (i := 6) sc_law_row.nd rfl (by first | exact .inl rfl | exact .inr rfl))
 (dss_cons (ds_set (i := 7) sc_law_row.nd rfl (by first | exact .inl rfl | exact .inr rfl) (de_call G_law_match hr rfl D_law_match.m D_law_match.F.kp D_law_match.b .nil (fun _ => .nil) (da_cons (de_v 0) (da_cons (de_v 1) (da_cons (de_v 6) (da_cons (de_v 3) (da_cons (de_v 4) (da_nil))))))))
 (dss_cons (ds_if (dt_cmp op_isN up_isN (de_v 7) (de_non) (nomark _))
 (dss_one (ds_ret (de_non)))
 (dss_nil))
 (dss_cons (ds_set (i := 4) sc_law_row.nd rfl (by first | exact .inl rfl | exact .inr rfl) (de_ix (de_v 7) (de_int) (fun _ _ => rfl)))
 (dss_one (ds_set (i := 5) sc_law_row.nd rfl (by first | exact .inl rfl | exact .inr rfl) (de_op op_addV up_add (de_v 5) (de_ix (de_v 7) (de_int) (fun _ _ => rfl)))))))))
 (dss_one (ds_ret (de_tup (da_cons (de_v 4) (da_cons (de_v 5) (da_nil))))))))
theorem ok_law_star {f_law_star f_law_match : Addr} {d_law_star d_law_match : FuncData} {sp_law_match : DSp} (M : Bl K mg) (D_law_match : Def K mg "_law_match" s_law_match f_law_match d_law_match ["_law_fuel", "_law_grammar_here", "_law_expression_here", "_law_text_here", "_law_at"]) (G_law_match : FnD P w K mg base k f_law_match d_law_match ["_law_fuel", "_law_grammar_here", "_law_expression_here", "_law_text_here", "_law_at"] sp_law_match) (D_law_star : Def K mg "_law_star" s_law_star f_law_star d_law_star ["_law_fuel", "_law_grammar_here", "_law_inner", "_law_text_here", "_law_at"]) {sp : DSp} (len : ∀ ds G Q E, sp ds G Q E → ds.length = 5) (pure : ∀ ds G Q E, sp ds G Q E → (t_law_star sp_law_match) (fnEnds Q) (dstart N_law_star ds) G) : FnD P w K mg base (k + 1) f_law_star d_law_star ["_law_fuel", "_law_grammar_here", "_law_inner", "_law_text_here", "_law_at"] sp := by
  refine fnD_ok D_law_star.F sc_law_star len ?_ pure
  intro cdv A outer s H E hr
  exact (
 dss_cons (ds_set (i := 5) sc_law_star.nd rfl (by first | exact .inl rfl | exact .inr rfl) (de_tup (da_nil)))
 (dss_cons (ds_for PassesOwn.never rfl (di_rng1 rfl M.b_range (da_cons (de_op op_addV up_add (de_callB call_lenV up_len rfl M.b_len PySem.boot_len (da_cons (de_v 3) (da_nil))) (de_int)) (da_nil))) (dg_name (i := 6) sc_law_star.nd rfl (by first | exact .inl rfl | exact .inr rfl))
 (dss_cons (ds_set (i := 7) sc_law_star.nd rfl (by first | exact .inl rfl | exact .inr rfl) (de_call G_law_match hr rfl D_law_match.m D_law_match.F.kp D_law_match.b .nil (fun _ => .nil) (da_cons (de_v 0) (da_cons (de_v 1) (da_cons (de_v 2) (da_cons (de_v 3) (da_cons (de_v 4) (da_nil))))))))
 (dss_cons (ds_if (dt_cmp op_isN up_isN (de_v 7) (de_non) (nomark _))
 (dss_one (ds_ret (de_tup (da_cons (de_v 4) (da_cons (de_v 5) (da_nil))))))
 (dss_nil))
 (dss_cons (ds_set (i := 4) sc_law_star.nd rfl (by first | exact .inl rfl | exact .inr rfl) (de_ix (de_v 7) (de_int) (fun _ _ => rfl)))
 (dss_one (ds_set (i := 5) sc_law_star.nd rfl (by first | exact .inl rfl | exact .inr rfl) (de_op op_addV up_add (de_v 5) (de_ix (de_v 7) (de_int) (fun _ _ => rfl)))))))))
 (dss_one (ds_ret (de_tup (da_cons (de_v 4) (da_cons (de_v 5) (da_nil))))))))
theorem ok_law_body {f_law_body : Addr} {d_law_body : FuncData} (M : Bl K mg) (D_law_body : Def K mg "_law_body" s_law_body f_law_body d_law_body ["_law_grammar_here", "_law_name"]) {sp : DSp} (len : ∀ ds G Q E, sp ds G Q E → ds.length = 2) (pure : ∀ ds G Q E, sp ds G Q E → (t_law_body) (fnEnds Q) (dstart N_law_body ds) G) : FnD P w K mg base (k + 1) f_law_body d_law_body ["_law_grammar_here", "_law_name"] sp := by
  refine fnD_ok D_law_body.F sc_law_body len ?_ pure
  intro cdv A outer s H E hr
  exact (
 dss_cons (ds_for PassesOwn.never rfl (di_seq (de_v 0)) (dg_name (i := 2) sc_law_body.nd rfl (by first | exact .inl rfl | exact .inr rfl))
 (dss_one (ds_if (dt_cmp (op_eqV hr.big) up_eq (de_ix (de_v 2) (de_int) (fun _ _ => rfl)) (de_v 1) (nomark _))
 (dss_one (ds_ret (de_ix (de_v 2) (de_int) (fun _ _ => rfl))))
 (dss_nil))))
 (dss_one (ds_ret (de_tup (da_cons (de_str) (da_nil))))))
theorem ok_law_match {f_law_match f_law_row f_law_star f_law_body : Addr} {d_law_match d_law_row d_law_star d_law_body : FuncData} {sp_law_row : DSp} {sp_law_match : DSp} {sp_law_star : DSp} {sp_law_body : DSp} (M : Bl K mg) (D_law_row : Def K mg "_law_row" s_law_row f_law_row d_law_row ["_law_fuel", "_law_grammar_here", "_law_parts_here", "_law_text_here", "_law_at"]) (G_law_row : FnD P w K mg base k f_law_row d_law_row ["_law_fuel", "_law_grammar_here", "_law_parts_here", "_law_text_here", "_law_at"] sp_law_row) (D_law_match : Def K mg "_law_match" s_law_match f_law_match d_law_match ["_law_fuel", "_law_grammar_here", "_law_expression_here", "_law_text_here", "_law_at"]) (G_law_match : FnD P w K mg base k f_law_match d_law_match ["_law_fuel", "_law_grammar_here", "_law_expression_here", "_law_text_here", "_law_at"] sp_law_match) (D_law_star : Def K mg "_law_star" s_law_star f_law_star d_law_star ["_law_fuel", "_law_grammar_here", "_law_inner", "_law_text_here", "_law_at"]) (G_law_star : FnD P w K mg base k f_law_star d_law_star ["_law_fuel", "_law_grammar_here", "_law_inner", "_law_text_here", "_law_at"] sp_law_star) (D_law_body : Def K mg "_law_body" s_law_body f_law_body d_law_body ["_law_grammar_here", "_law_name"]) (G_law_body : FnD P w K mg base k f_law_body d_law_body ["_law_grammar_here", "_law_name"] sp_law_body) {sp : DSp} (len : ∀ ds G Q E, sp ds G Q E → ds.length = 5) (pure : ∀ ds G Q E, sp ds G Q E → (t_law_match sp_law_row sp_law_match sp_law_star sp_law_body) (fnEnds Q) (dstart N_law_match ds) G) : FnD P w K mg base (k + 1) f_law_match d_law_match ["_law_fuel", "_law_grammar_here", "_law_expression_here", "_law_text_here", "_law_at"] sp := by
  refine fnD_ok D_law_match.F sc_law_match len ?_ pure
  intro cdv A outer s H E hr
  exact (
 dss_cons (ds_asg (de_op op_sub up_sub (de_ix (de_v 0) (de_int) (fun _ _ => rfl)) (de_int)) (dg_sub (de_v 0) (de_int) set_list up_setL))
 (dss_cons (ds_set (i := 5) sc_law_match.nd rfl (by first | exact .inl rfl | exact .inr rfl) (de_ix (de_v 2) (de_int) (fun _ _ => rfl)))
 (dss_cons (ds_if (dt_cmp (op_eqV hr.big) up_eq (de_v 5) (de_str) (nomark _))
 (dss_one (ds_ret (de_tup (da_cons (de_v 4) (da_cons (de_tup (da_nil)) (da_nil))))))
 (dss_nil))
 (dss_cons (ds_if (dt_w (dw_or (dt_cmp (op_eqV hr.big) up_eq (de_v 5) (de_str) (nomark _)) (dw_or1 (dt_cmp op_ltV up_lt (de_ix (de_v 0) (de_int) (fun _ _ => rfl)) (de_int) (nomark _)))))
 (dss_one (ds_ret (de_non)))
 (dss_nil))
 (dss_cons (ds_if (dt_cmp (op_eqV hr.big) up_eq (de_v 5) (de_str) (nomark _))
 (dss_cons (ds_set (i := 6) sc_law_match.nd rfl (by first | exact .inl rfl | exact .inr rfl) (de_callB call_lenV up_len rfl M.b_len PySem.boot_len (da_cons (de_ix (de_v 2) (de_int) (fun _ _ => rfl)) (da_nil))))
 (dss_one (ds_ret (de_if (dt_cmp (op_eqV hr.big) up_eq (de_slice (de_v 3) (do_some (de_v 4)) (do_some (de_op op_addV up_add (de_v 4) (de_v 6)))) (de_ix (de_v 2) (de_int) (fun _ _ => rfl)) (nomark _)) (de_tup (da_cons (de_op op_addV up_add (de_v 4) (de_v 6)) (da_cons (de_tup (da_nil)) (da_nil)))) (de_non)))))
 (dss_nil))
 (dss_cons (ds_if (dt_w (dw_or (dt_cmp (op_eqV hr.big) up_eq (de_v 5) (de_str) (nomark _)) (dw_or1 (dt_cmp (op_eqV hr.big) up_eq (de_v 5) (de_str) (nomark _)))))
 (dss_cons (ds_set (i := 7) sc_law_match.nd rfl (by first | exact .inl rfl | exact .inr rfl) (de_and (de_cmp op_ltV up_lt (de_v 4) (de_callB call_lenV up_len rfl M.b_len PySem.boot_len (da_cons (de_v 3) (da_nil))) (nomark _)) (de_one (de_or (de_cmp (op_eqV hr.big) up_eq (de_v 5) (de_str) (nomark _)) (de_one (de_cmp op_in_sign up_inStr (de_ix (de_v 3) (de_v 4) (fun _ _ => rfl)) (de_ix (de_v 2) (de_int) (fun _ _ => rfl)) rfl))))))
 (dss_one (ds_ret (de_if (dt_truth (de_v 7)) (de_tup (da_cons (de_op op_addV up_add (de_v 4) (de_int)) (da_cons (de_tup (da_nil)) (da_nil)))) (de_non)))))
 (dss_nil))
 (dss_cons (ds_if (dt_cmp (op_eqV hr.big) up_eq (de_v 5) (de_str) (nomark _))
 (dss_one (ds_ret (de_call G_law_row hr rfl D_law_row.m D_law_row.F.kp D_law_row.b .nil (fun _ => .nil) (da_cons (de_v 0) (da_cons (de_v 1) (da_cons (de_ix (de_v 2) (de_int) (fun _ _ => rfl)) (da_cons (de_v 3) (da_cons (de_v 4) (da_nil)))))))))
 (dss_nil))
 (dss_cons (ds_if (dt_cmp (op_eqV hr.big) up_eq (de_v 5) (de_str) (nomark _))
 (dss_cons (ds_for PassesOwn.never rfl (di_seq (de_ix (de_v 2) (de_int) (fun _ _ => rfl))) (dg_name (i := 8) sc_law_match.nd rfl (by first | exact .inl rfl | exact .inr rfl))
 (dss_cons (ds_set (i := 9) sc_law_match.nd rfl (by first | exact .inl rfl | exact .inr rfl) (de_call G_law_match hr rfl D_law_match.m D_law_match.F.kp D_law_match.b .nil (fun _ => .nil) (da_cons (de_v 0) (da_cons (de_v 1) (da_cons (de_v 8) (da_cons (de_v 3) (da_cons (de_v 4) (da_nil))))))))
 (dss_one (ds_if (dt_cmp op_notN up_notN (de_v 9) (de_non) (nomark _))
 (dss_one (ds_ret (de_v 9)))
 (dss_nil)))))
 (dss_one (ds_ret (de_non))))
 (dss_nil))
 (dss_cons (ds_if (dt_cmp (op_eqV hr.big) up_eq (de_v 5) (de_str) (nomark _))
 (dss_one (ds_ret (de_call G_law_star hr rfl D_law_star.m D_law_star.F.kp D_law_star.b .nil (fun _ => .nil) (da_cons (de_v 0) (da_cons (de_v 1) (da_cons (de_ix (de_v 2) (de_int) (fun _ _ => rfl)) (da_cons (de_v 3) (da_cons (de_v 4) (da_nil)))))))))
 (dss_nil))
 (dss_cons (ds_if (dt_cmp (op_eqV hr.big) up_eq (de_v 5) (de_str) (nomark _))
 (dss_one (ds_ret (de_call G_law_match hr rfl D_law_match.m D_law_match.F.kp D_law_match.b .nil (fun _ => .nil) (da_cons (de_v 0) (da_cons (de_v 1) (da_cons (de_call G_law_body hr rfl D_law_body.m D_law_body.F.kp D_law_body.b .nil (fun _ => .nil) (da_cons (de_v 1) (da_cons (de_ix (de_v 2) (de_int) (fun _ _ => rfl)) (da_nil)))) (da_cons (de_v 3) (da_cons (de_v 4) (da_nil)))))))))
 (dss_nil))
 (dss_cons (ds_set (i := 9) sc_law_match.nd rfl (by first | exact .inl rfl | exact .inr rfl) (de_call G_law_match hr rfl D_law_match.m D_law_match.F.kp D_law_match.b .nil (fun _ => .nil) (da_cons (de_v 0) (da_cons (de_v 1) (da_cons (de_ix (de_v 2) (de_neg (de_int)) (fun _ _ => rfl)) (da_cons (de_v 3) (da_cons (de_v 4) (da_nil))))))))
 (dss_cons (ds_if (dt_cmp (op_eqV hr.big) up_eq (de_v 5) (de_str) (nomark _))
 (dss_one (ds_ret (de_if (dt_cmp op_isN up_isN (de_v 9) (de_non) (nomark _)) (de_tup (da_cons (de_v 4) (da_cons (de_tup (da_nil)) (da_nil)))) (de_v 9))))
 (dss_nil))
 (dss_cons (ds_if (dt_cmp (op_eqV hr.big) up_eq (de_v 5) (de_str) (nomark _))
 (dss_one (ds_ret (de_if (dt_cmp op_isN up_isN (de_v 9) (de_non) (nomark _)) (de_tup (da_cons (de_v 4) (da_cons (de_tup (da_nil)) (da_nil)))) (de_non))))
 (dss_nil))
 (dss_cons (ds_if (dt_w (dw_or (dt_cmp (op_eqV hr.big) up_eq (de_v 5) (de_str) (nomark _)) (dw_or1 (dt_cmp op_isN up_isN (de_v 9) (de_non) (nomark _)))))
 (dss_one (ds_ret (de_if (dt_cmp op_isN up_isN (de_v 9) (de_non) (nomark _)) (de_non) (de_tup (da_cons (de_v 4) (da_cons (de_tup (da_nil)) (da_nil)))))))
 (dss_nil))
 (dss_one (ds_ret (de_tup (da_cons (de_ix (de_v 9) (de_int) (fun _ _ => rfl)) (da_cons (de_tup (da_cons (de_tup (da_cons (de_ix (de_v 2) (de_int) (fun _ _ => rfl)) (da_cons (de_v 4) (da_cons (de_ix (de_v 9) (de_int) (fun _ _ => rfl)) (da_cons (de_ix (de_v 9) (de_int) (fun _ _ => rfl)) (da_nil)))))) (da_nil))) (da_nil))))))))))))))))))))
theorem ok_law_empty {f_law_empty : Addr} {d_law_empty : FuncData} {sp_law_empty : DSp} (M : Bl K mg) (D_law_empty : Def K mg "_law_empty" s_law_empty f_law_empty d_law_empty ["_law_expression_here", "_law_names"]) (G_law_empty : FnD P w K mg base k f_law_empty d_law_empty ["_law_expression_here", "_law_names"] sp_law_empty) {sp : DSp} (len : ∀ ds G Q E, sp ds G Q E → ds.length = 2) (pure : ∀ ds G Q E, sp ds G Q E → (t_law_empty sp_law_empty) (fnEnds Q) (dstart N_law_empty ds) G) : FnD P w K mg base (k + 1) f_law_empty d_law_empty ["_law_expression_here", "_law_names"] sp := by
  refine fnD_ok D_law_empty.F sc_law_empty len ?_ pure
  intro cdv A outer s H E hr
  exact (
 dss_cons (ds_set (i := 2) sc_law_empty.nd rfl (by first | exact .inl rfl | exact .inr rfl) (de_ix (de_v 0) (de_int) (fun _ _ => rfl)))
 (dss_cons (ds_if (dt_cmp op_in_seq (up_inSeq false) (de_v 2) (de_tup (da_cons (de_str) (da_cons (de_str) (da_cons (de_str) (da_cons (de_str) (da_cons (de_str) (da_nil))))))) rfl)
 (dss_one (ds_ret (de_bl)))
 (dss_nil))
 (dss_cons (ds_if (dt_cmp (op_eqV hr.big) up_eq (de_v 2) (de_str) (nomark _))
 (dss_one (ds_ret (de_cmp op_in_seq (up_inSeq false) (de_ix (de_v 0) (de_int) (fun _ _ => rfl)) (de_v 1) rfl)))
 (dss_nil))
 (dss_cons (ds_if (dt_cmp (op_eqV hr.big) up_eq (de_v 2) (de_str) (nomark _))
 (dss_one (ds_ret (de_cmp (op_eqV hr.big) up_eq (de_callB call_lenV up_len rfl M.b_len PySem.boot_len (da_cons (de_lc rfl sc_law_empty.nd (di_seq (de_ix (de_v 0) (de_int) (fun _ _ => rfl))) (blkOk_by (N := N_law_empty) (sc := defScope s_law_empty) (own := [("_law_part", 3)]) (by decide +kernel)) (fun _ _ _ _ _ => pg_name (i := 3) sc_law_empty.nd rfl (Or.inl rfl)) (fun _ _ _ _ _ => dts_one (dt_not (dt_truth (de_call G_law_empty hr rfl D_law_empty.m D_law_empty.F.kp D_law_empty.b .nil (fun _ => .nil) (da_cons (de_v 3) (da_cons (de_v 1) (da_nil))))))) (fun _ _ _ _ _ => de_v 3)) (da_nil))) (de_int) (nomark _))))
 (dss_nil))
 (dss_cons (ds_if (dt_cmp (op_eqV hr.big) up_eq (de_v 2) (de_str) (nomark _))
 (dss_one (ds_ret (de_cmp op_gt up_gt (de_callB call_lenV up_len rfl M.b_len PySem.boot_len (da_cons (de_lc rfl sc_law_empty.nd (di_seq (de_ix (de_v 0) (de_int) (fun _ _ => rfl))) (blkOk_by (N := N_law_empty) (sc := defScope s_law_empty) (own := [("_law_part", 3)]) (by decide +kernel)) (fun _ _ _ _ _ => pg_name (i := 3) sc_law_empty.nd rfl (Or.inl rfl)) (fun _ _ _ _ _ => dts_one (dt_truth (de_call G_law_empty hr rfl D_law_empty.m D_law_empty.F.kp D_law_empty.b .nil (fun _ => .nil) (da_cons (de_v 3) (da_cons (de_v 1) (da_nil)))))) (fun _ _ _ _ _ => de_v 3)) (da_nil))) (de_int) (nomark _))))
 (dss_nil))
 (dss_cons (ds_if (dt_cmp (op_eqV hr.big) up_eq (de_v 2) (de_str) (nomark _))
 (dss_one (ds_ret (de_call G_law_empty hr rfl D_law_empty.m D_law_empty.F.kp D_law_empty.b .nil (fun _ => .nil) (da_cons (de_ix (de_v 0) (de_int) (fun _ _ => rfl)) (da_cons (de_v 1) (da_nil))))))
 (dss_nil))
 (dss_one (ds_ret (de_bl)))))))))
theorem ok_law_empties {f_law_empties f_law_empty : Addr} {d_law_empties d_law_empty : FuncData} {sp_law_empty : DSp} (M : Bl K mg) (D_law_empty : Def K mg "_law_empty" s_law_empty f_law_empty d_law_empty ["_law_expression_here", "_law_names"]) (G_law_empty : FnD P w K mg base k f_law_empty d_law_empty ["_law_expression_here", "_law_names"] sp_law_empty) (D_law_empties : Def K mg "_law_empties" s_law_empties f_law_empties d_law_empties ["_law_grammar_here"]) {sp : DSp} (len : ∀ ds G Q E, sp ds G Q E → ds.length = 1) (pure : ∀ ds G Q E, sp ds G Q E → (t_law_empties sp_law_empty) (fnEnds Q) (dstart N_law_empties ds) G) : FnD P w K mg base (k + 1) f_law_empties d_law_empties ["_law_grammar_here"] sp := by
  refine fnD_ok D_law_empties.F sc_law_empties len ?_ pure
  intro cdv A outer s H E hr
  exact (
 dss_cons (ds_set (i := 1) sc_law_empties.nd rfl (by first | exact .inl rfl | exact .inr rfl) (de_lst (da_nil)))
 (dss_cons (ds_for PassesOwn.never rfl (di_rng1 rfl M.b_range (da_cons (de_op op_addV up_add (de_callB call_lenV up_len rfl M.b_len PySem.boot_len (da_cons (de_v 0) (da_nil))) (de_int)) (da_nil))) (dg_name (i := 2) sc_law_empties.nd rfl (by first | exact .inl rfl | exact .inr rfl))
 (dss_one (ds_set (i := 1) sc_law_empties.nd rfl (by first | exact .inl rfl | exact .inr rfl) (de_lc rfl sc_law_empties.nd (di_seq (de_v 0)) (blkOk_by (N := N_law_empties) (sc := defScope s_law_empties) (own := [("_law_rule", 3)]) (by decide +kernel)) (fun _ _ _ _ _ => pg_name (i := 3) sc_law_empties.nd rfl (Or.inl rfl)) (fun _ _ _ _ _ => dts_one (dt_truth (de_call G_law_empty hr rfl D_law_empty.m D_law_empty.F.kp D_law_empty.b .nil (fun _ => .nil) (da_cons (de_ix (de_v 3) (de_int) (fun _ _ => rfl)) (da_cons (de_v 1) (da_nil)))))) (fun _ _ _ _ _ => de_ix (de_v 3) (de_int) (fun _ _ => rfl))))))
 (dss_one (ds_ret (de_v 1)))))
theorem ok_law_parts {f_law_parts : Addr} {d_law_parts : FuncData} (M : Bl K mg) (D_law_parts : Def K mg "_law_parts" s_law_parts f_law_parts d_law_parts ["_law_expression_here"]) {sp : DSp} (len : ∀ ds G Q E, sp ds G Q E → ds.length = 1) (pure : ∀ ds G Q E, sp ds G Q E → (t_law_parts) (fnEnds Q) (dstart N_law_parts ds) G) : FnD P w K mg base (k + 1) f_law_parts d_law_parts ["_law_expression_here"] sp := by
  refine fnD_ok D_law_parts.F sc_law_parts len ?_ pure
  intro cdv A outer s H E hr
  exact (
 dss_cons (ds_if (dt_w (dw_or (dt_cmp (op_eqV hr.big) up_eq (de_ix (de_v 0) (de_int) (fun _ _ => rfl)) (de_str) (nomark _)) (dw_or1 (dt_cmp (op_eqV hr.big) up_eq (de_ix (de_v 0) (de_int) (fun _ _ => rfl)) (de_str) (nomark _)))))
 (dss_one (ds_ret (de_callTy (call_listA rfl) up_listA rfl M.b_list (by decide +kernel) (da_cons (de_ix (de_v 0) (de_int) (fun _ _ => rfl)) (da_nil)))))
 (dss_nil))
 (dss_one (ds_ret (de_lst (da_cons (de_ix (de_v 0) (de_neg (de_int)) (fun _ _ => rfl)) (da_nil))))))
theorem ok_law_firsts {f_law_firsts f_law_parts f_law_empty : Addr} {d_law_firsts d_law_parts d_law_empty : FuncData} {sp_law_parts : DSp} {sp_law_firsts : DSp} {sp_law_empty : DSp} (M : Bl K mg) (D_law_parts : Def K mg "_law_parts" s_law_parts f_law_parts d_law_parts ["_law_expression_here"]) (G_law_parts : FnD P w K mg base k f_law_parts d_law_parts ["_law_expression_here"] sp_law_parts) (D_law_firsts : Def K mg "_law_firsts" s_law_firsts f_law_firsts d_law_firsts ["_law_expression_here", "_law_table", "_law_empty_here"]) (G_law_firsts : FnD P w K mg base k f_law_firsts d_law_firsts ["_law_expression_here", "_law_table", "_law_empty_here"] sp_law_firsts) (D_law_empty : Def K mg "_law_empty" s_law_empty f_law_empty d_law_empty ["_law_expression_here", "_law_names"]) (G_law_empty : FnD P w K mg base k f_law_empty d_law_empty ["_law_expression_here", "_law_names"] sp_law_empty) {sp : DSp} (len : ∀ ds G Q E, sp ds G Q E → ds.length = 3) (pure : ∀ ds G Q E, sp ds G Q E → (t_law_firsts sp_law_parts sp_law_firsts sp_law_empty) (fnEnds Q) (dstart N_law_firsts ds) G) : FnD P w K mg base (k + 1) f_law_firsts d_law_firsts ["_law_expression_here", "_law_table", "_law_empty_here"] sp := by
  refine fnD_ok D_law_firsts.F sc_law_firsts len ?_ pure
  intro cdv A outer s H E hr
  exact (
 dss_cons (ds_set (i := 3) sc_law_firsts.nd rfl (by first | exact .inl rfl | exact .inr rfl) (de_ix (de_v 0) (de_int) (fun _ _ => rfl)))
 (dss_cons (ds_if (dt_cmp (op_eqV hr.big) up_eq (de_v 3) (de_str) (nomark _))
 (dss_one (ds_ret (de_callTy (call_listA rfl) up_listA rfl M.b_list (by decide +kernel) (da_cons (M.c_CHARS.e rfl) (da_nil)))))
 (dss_nil))
 (dss_cons (ds_if (dt_cmp (op_eqV hr.big) up_eq (de_v 3) (de_str) (nomark _))
 (dss_one (ds_ret (de_callTy (call_listA rfl) up_listA rfl M.b_list (by decide +kernel) (da_cons (de_ix (de_v 0) (de_int) (fun _ _ => rfl)) (da_nil)))))
 (dss_nil))
 (dss_cons (ds_if (dt_cmp (op_eqV hr.big) up_eq (de_v 3) (de_str) (nomark _))
 (dss_one (ds_ret (de_lst (da_cons (de_ix (de_ix (de_v 0) (de_int) (fun _ _ => rfl)) (de_int) (fun _ _ => rfl)) (da_nil)))))
 (dss_nil))
 (dss_cons (ds_if (dt_cmp (op_eqV hr.big) up_eq (de_v 3) (de_str) (nomark _))
 (dss_one (ds_ret (de_dget hr.hu (de_v 1) (de_ix (de_v 0) (de_int) (fun _ _ => rfl)) (fun _ _ => rfl))))
 (dss_nil))
 (dss_cons (ds_if (dt_cmp op_in_seq (up_inSeq false) (de_v 3) (de_tup (da_cons (de_str) (da_cons (de_str) (da_cons (de_str) (da_cons (de_str) (da_nil)))))) rfl)
 (dss_one (ds_ret (de_lst (da_nil))))
 (dss_nil))
 (dss_cons (ds_set (i := 4) sc_law_firsts.nd rfl (by first | exact .inl rfl | exact .inr rfl) (de_lst (da_nil)))
 (dss_cons (ds_for PassesOwn.never rfl (di_seq (de_call G_law_parts hr rfl D_law_parts.m D_law_parts.F.kp D_law_parts.b .nil (fun _ => .nil) (da_cons (de_v 0) (da_nil)))) (dg_name (i := 5) sc_law_firsts.nd rfl (by first | exact .inl rfl | exact .inr rfl))
 (dss_cons (ds_set (i := 4) sc_law_firsts.nd rfl (by first | exact .inl rfl | exact .inr rfl) (de_op op_addV up_add (de_v 4) (de_lc rfl sc_law_firsts.nd (di_seq (de_call G_law_firsts hr rfl D_law_firsts.m D_law_firsts.F.kp D_law_firsts.b .nil (fun _ => .nil) (da_cons (de_v 5) (da_cons (de_v 1) (da_cons (de_v 2) (da_nil)))))) (blkOk_by (N := N_law_firsts) (sc := defScope s_law_firsts) (own := [("_law_char", 6)]) (by decide +kernel)) (fun _ _ _ _ _ => pg_name (i := 6) sc_law_firsts.nd rfl (Or.inl rfl)) (fun _ _ _ _ _ => dts_one (dt_cmp op_notIn_seq (up_inSeq true) (de_v 6) (de_v 4) rfl)) (fun _ _ _ _ _ => de_v 6))))
 (dss_one (ds_if (dt_w (dw_and (dt_cmp (op_eqV hr.big) up_eq (de_v 3) (de_str) (nomark _)) (dw_and1 (dt_not (dt_truth (de_call G_law_empty hr rfl D_law_empty.m D_law_empty.F.kp D_law_empty.b .nil (fun _ => .nil) (da_cons (de_v 5) (da_cons (de_v 2) (da_nil)))))))))
 (dss_one (ds_ret (de_v 4)))
 (dss_nil)))))
 (dss_one (ds_ret (de_v 4)))))))))))
theorem ok_law {f_law f_law_stream f_law_grammar f_law_take f_law_empties f_law_firsts f_law_text f_firsts f_law_match : Addr} {d_law d_law_stream d_law_grammar d_law_take d_law_empties d_law_firsts d_law_text d_firsts d_law_match : FuncData} {sp_law_stream : DSp} {sp_law_grammar : DSp} {sp_law_take : DSp} {sp_law_empties : DSp} {sp_law_firsts : DSp} {sp_law_text : DSp} {sp_firsts : DSp} {sp_law_match : DSp} (M : Bl K mg) (D_law_stream : Def K mg "_law_stream" s_law_stream f_law_stream d_law_stream ["_law_script"]) (G_law_stream : FnD P w K mg base k f_law_stream d_law_stream ["_law_script"] sp_law_stream) (D_law_grammar : Def K mg "_law_grammar" s_law_grammar f_law_grammar d_law_grammar ["_law_row_here", "_law_depth"]) (G_law_grammar : FnD P w K mg base k f_law_grammar d_law_grammar ["_law_row_here", "_law_depth"] sp_law_grammar) (D_law_take : Def K mg "_law_take" s_law_take f_law_take d_law_take ["_law_row_here", "_law_many"]) (G_law_take : FnD P w K mg base k f_law_take d_law_take ["_law_row_here", "_law_many"] sp_law_take) (D_law_empties : Def K mg "_law_empties" s_law_empties f_law_empties d_law_empties ["_law_grammar_here"]) (G_law_empties : FnD P w K mg base k f_law_empties d_law_empties ["_law_grammar_here"] sp_law_empties) (D_law_firsts : Def K mg "_law_firsts" s_law_firsts f_law_firsts d_law_firsts ["_law_expression_here", "_law_table", "_law_empty_here"]) (G_law_firsts : FnD P w K mg base k f_law_firsts d_law_firsts ["_law_expression_here", "_law_table", "_law_empty_here"] sp_law_firsts) (D_law_text : Def K mg "_law_text" s_law_text f_law_text d_law_text ["_law_row_here"]) (G_law_text : FnD P w K mg base k f_law_text d_law_text ["_law_row_here"] sp_law_text) (D_firsts : Def K mg "firsts" s_firsts f_firsts d_firsts ["grammar", "expression"]) (G_firsts : FnD P w K mg base k f_firsts d_firsts ["grammar", "expression"] sp_firsts) (D_law_match : Def K mg "_law_match" s_law_match f_law_match d_law_match ["_law_fuel", "_law_grammar_here", "_law_expression_here", "_law_text_here", "_law_at"]) (G_law_match : FnD P w K mg base k f_law_match d_law_match ["_law_fuel", "_law_grammar_here", "_law_expression_here", "_law_text_here", "_law_at"] sp_law_match) (D_law : Def K mg "law" s_law f_law d_law ["_law_script"]) {sp : DSp} (len : ∀ ds G Q E, sp ds G Q E → ds.length = 1) (pure : ∀ ds G Q E, sp ds G Q E → (t_law sp_law_stream sp_law_grammar sp_law_take sp_law_empties sp_law_firsts sp_law_text sp_firsts sp_law_match) (fnEnds Q) (dstart N_law ds) G) : FnD P w K mg base (k + 1) f_law d_law ["_law_script"] sp := by
  refine fnD_ok D_law.F sc_law len ?_ pure
  intro cdv A outer s H E hr
  exact (
 dss_cons (ds_set (i := 1) sc_law.nd rfl (by first | exact .inl rfl | exact .inr rfl) (de_call G_law_stream hr rfl D_law_stream.m D_law_stream.F.kp D_law_stream.b .nil (fun _ => .nil) (da_cons (de_v 0) (da_nil))))
 (dss_cons (ds_set (i := 2) sc_law.nd rfl (by first | exact .inl rfl | exact .inr rfl) (de_call G_law_grammar hr rfl D_law_grammar.m D_law_grammar.F.kp D_law_grammar.b .nil (fun _ => .nil) (da_cons (de_v 1) (da_cons (de_op op_addV up_add (de_int) (de_call G_law_take hr rfl D_law_take.m D_law_take.F.kp D_law_take.b .nil (fun _ => .nil) (da_cons (de_v 1) (da_cons (de_int) (da_nil))))) (da_nil)))))
 (dss_cons (ds_set (i := 3) sc_law.nd rfl (by first | exact .inl rfl | exact .inr rfl) (de_call G_law_empties hr rfl D_law_empties.m D_law_empties.F.kp D_law_empties.b .nil (fun _ => .nil) (da_cons (de_v 2) (da_nil))))
 (dss_cons (ds_set (i := 4) sc_law.nd rfl (by first | exact .inl rfl | exact .inr rfl) (de_newK))
 (dss_cons (ds_for PassesOwn.never rfl (di_seq (de_v 2)) (dg_name (i := 5) sc_law.nd rfl (by first | exact .inl rfl | exact .inr rfl))
 (dss_one (ds_asg (de_lst (da_nil)) (dg_subD hr.hu (de_v 4) (de_ix (de_v 5) (de_int) (fun _ _ => rfl))))))
 (dss_cons (ds_for PassesOwn.never rfl (di_rng1 rfl M.b_range (da_cons (de_op op_addV up_add (de_callB call_lenV up_len rfl M.b_len PySem.boot_len (da_cons (de_v 2) (da_nil))) (de_int)) (da_nil))) (dg_name (i := 6) sc_law.nd rfl (by first | exact .inl rfl | exact .inr rfl))
 (dss_cons (ds_set (i := 7) sc_law.nd rfl (by first | exact .inl rfl | exact .inr rfl) (de_newK))
 (dss_cons (ds_for PassesOwn.never rfl (di_seq (de_v 2)) (dg_name (i := 5) sc_law.nd rfl (by first | exact .inl rfl | exact .inr rfl))
 (dss_one (ds_asg (de_call G_law_firsts hr rfl D_law_firsts.m D_law_firsts.F.kp D_law_firsts.b .nil (fun _ => .nil) (da_cons (de_ix (de_v 5) (de_int) (fun _ _ => rfl)) (da_cons (de_v 4) (da_cons (de_v 3) (da_nil))))) (dg_subD hr.hu (de_v 7) (de_ix (de_v 5) (de_int) (fun _ _ => rfl))))))
 (dss_one (ds_set (i := 4) sc_law.nd rfl (by first | exact .inl rfl | exact .inr rfl) (de_v 7))))))
 (dss_cons (ds_set (i := 8) sc_law.nd rfl (by first | exact .inl rfl | exact .inr rfl) (de_call G_law_text hr rfl D_law_text.m D_law_text.F.kp D_law_text.b .nil (fun _ => .nil) (da_cons (de_v 1) (da_nil))))
 (dss_cons (ds_set (i := 9) sc_law.nd rfl (by first | exact .inl rfl | exact .inr rfl) (de_call G_law_take hr rfl D_law_take.m D_law_take.F.kp D_law_take.b .nil (fun _ => .nil) (da_cons (de_v 1) (da_cons (de_op op_addV up_add (de_callB call_lenV up_len rfl M.b_len PySem.boot_len (da_cons (de_v 8) (da_nil))) (de_int)) (da_nil)))))
 (dss_cons (ds_for PassesOwn.never rfl (di_seq (de_v 2)) (dg_name (i := 5) sc_law.nd rfl (by first | exact .inl rfl | exact .inr rfl))
 (dss_cons (ds_set (i := 10) sc_law.nd rfl (by first | exact .inl rfl | exact .inr rfl) (de_join (de_str) (de_lc rfl sc_law.nd (di_seq (M.c_CHARS.e rfl)) (blkOk_by (N := N_law) (sc := defScope s_law) (own := [("_law_char", 13)]) (by decide +kernel)) (fun _ _ _ _ _ => pg_name (i := 13) sc_law.nd rfl (Or.inl rfl)) (fun _ _ _ _ _ => dts_one (dt_cmp op_in_seq (up_inSeq false) (de_v 13) (de_dget hr.hu (de_v 4) (de_ix (de_v 5) (de_int) (fun _ _ => rfl)) (fun _ _ => rfl)) rfl)) (fun _ _ _ _ _ => de_v 13))))
 (dss_cons (ds_if (dt_w (dw_or (dt_cmp (op_neV hr.big) up_ne (de_call G_firsts hr rfl D_firsts.m D_firsts.F.kp D_firsts.b .nil (fun _ => .nil) (da_cons (de_v 2) (da_cons (de_ix (de_v 5) (de_int) (fun _ _ => rfl)) (da_nil)))) (de_v 10) (nomark _)) (dw_or1 (dt_cmp (op_neV hr.big) up_ne (de_call G_firsts hr rfl D_firsts.m D_firsts.F.kp D_firsts.b .nil (fun _ => .nil) (da_cons (de_v 2) (da_cons (de_tup (da_cons (de_str) (da_cons (de_ix (de_v 5) (de_int) (fun _ _ => rfl)) (da_nil)))) (da_nil)))) (de_v 10) (nomark _)))))
 (dss_one (ds_ret (de_bl)))
 (dss_nil))
 (dss_cons (ds_set (i := 11) sc_law.nd rfl (by first | exact .inl rfl | exact .inr rfl) (de_lst (da_cons (de_int) (da_nil))))
 (dss_cons (ds_set (i := 12) sc_law.nd rfl (by first | exact .inl rfl | exact .inr rfl) (de_call G_law_match hr rfl D_law_match.m D_law_match.F.kp D_law_match.b .nil (fun _ => .nil) (da_cons (de_v 11) (da_cons (de_v 2) (da_cons (de_ix (de_v 5) (de_int) (fun _ _ => rfl)) (da_cons (de_v 8) (da_cons (de_v 9) (da_nil))))))))
 (dss_one (ds_if (dt_w (dw_and (dt_cmp op_ge up_ge (de_ix (de_v 11) (de_int) (fun _ _ => rfl)) (de_int) (nomark _)) (dw_and (dt_cmp op_notN up_notN (de_v 12) (de_non) (nomark _)) (dw_and (dt_cmp op_gt up_gt (de_ix (de_v 12) (de_int) (fun _ _ => rfl)) (de_v 9) (nomark _)) (dw_and1 (dt_cmp op_notIn_sign up_notInStr (de_ix (de_v 8) (de_v 9) (fun _ _ => rfl)) (de_v 10) rfl))))))
 (dss_one (ds_ret (de_bl)))
 (dss_nil))))))))
 (dss_one (ds_ret (de_bl))))))))))))
end
theorem all_mk {l : PySem.W.OpenLaw} {w : World} {K : PySem.W.Frag} {h : Heap} {mg : Str → Option Value} {fa f_parts_of f_may_be_empty f_empty_rules f_joined f_firsts_in f_first_table f_firsts f_law_stream f_law_take f_law_taker f_law_expression f_law_grammar f_law_text f_law_row f_law_star f_law_body f_law_match f_law_empty f_law_empties f_law_parts f_law_firsts f_law : Addr} (X : K.In h) (G : h.Ns mainGlobals mg) (hfa : mg "law" = some (.ref fa))
    {od1 an1 od2 an2 od3 an3 od4 an4 od5 an5 od6 an6 od7 an7 od8 an8 od9 an9 od10 an10 od11 an11 od12 an12 od13 an13 od14 an14 od15 an15 od16 an16 od17 an17 od18 an18 od19 an19 od20 an20 od21 an21 od22 an22 : Option Addr} {sl1 sl2 sl3 sl4 sl5 sl6 sl7 sl8 sl9 sl10 sl11 sl12 sl13 sl14 sl15 sl16 sl17 sl18 sl19 sl20 sl21 sl22 : Array (Option Value)} {oc1 kV1 dc1 pm1 cd1 ct1 oc2 kV2 dc2 pm2 cd2 ct2 oc3 kV3 dc3 pm3 cd3 ct3 oc4 kV4 dc4 pm4 cd4 ct4 oc5 kV5 dc5 pm5 cd5 ct5 oc6 kV6 dc6 pm6 cd6 ct6 oc7 kV7 dc7 pm7 cd7 ct7 oc8 kV8 dc8 pm8 cd8 ct8 oc9 kV9 dc9 pm9 cd9 ct9 oc10 kV10 dc10 pm10 cd10 ct10 oc11 kV11 dc11 pm11 cd11 ct11 oc12 kV12 dc12 pm12 cd12 ct12 oc13 kV13 dc13 pm13 cd13 ct13 oc14 kV14 dc14 pm14 cd14 ct14 oc15 kV15 dc15 pm15 cd15 ct15 oc16 kV16 dc16 pm16 cd16 ct16 oc17 kV17 dc17 pm17 cd17 ct17 oc18 kV18 dc18 pm18 cd18 ct18 oc19 kV19 dc19 pm19 cd19 ct19 oc20 kV20 dc20 pm20 cd20 ct20 oc21 kV21 dc21 pm21 cd21 ct21 oc22 kV22 dc22 pm22 cd22 ct22 : Value} {a_ONES : Addr} {od_ONES : Option Addr} {n_ONES : Nat} {sl_ONES : Array (Option Value)} {tk_ONES_0 tk_ONES_1 tk_ONES_2 tk_ONES_3 : Tok} {tk_CHARS : Tok}
    (a1 : PySem.W.nsIn K mainGlobals "parts_of" = some (some (.ref f_parts_of))) (l1 : K.lookup f_parts_of = some ⟨oc1, od1, .func (PySem.W.fnOf "parts_of" "parts_of" (defArgs s_parts_of) (defBody s_parts_of) (defScope s_parts_of) .none kV1 dc1 pm1 an1 cd1 ct1), sl1⟩) (c1 : PySem.W.codeIn K cd1 "parts_of" = true) (k1 : PySem.W.keepIn K (.ref f_parts_of) = true)
    (a2 : PySem.W.nsIn K mainGlobals "may_be_empty" = some (some (.ref f_may_be_empty))) (l2 : K.lookup f_may_be_empty = some ⟨oc2, od2, .func (PySem.W.fnOf "may_be_empty" "may_be_empty" (defArgs s_may_be_empty) (defBody s_may_be_empty) (defScope s_may_be_empty) .none kV2 dc2 pm2 an2 cd2 ct2), sl2⟩) (c2 : PySem.W.codeIn K cd2 "may_be_empty" = true) (k2 : PySem.W.keepIn K (.ref f_may_be_empty) = true)
    (a3 : PySem.W.nsIn K mainGlobals "empty_rules" = some (some (.ref f_empty_rules))) (l3 : K.lookup f_empty_rules = some ⟨oc3, od3, .func (PySem.W.fnOf "empty_rules" "empty_rules" (defArgs s_empty_rules) (defBody s_empty_rules) (defScope s_empty_rules) .none kV3 dc3 pm3 an3 cd3 ct3), sl3⟩) (c3 : PySem.W.codeIn K cd3 "empty_rules" = true) (k3 : PySem.W.keepIn K (.ref f_empty_rules) = true)
    (a4 : PySem.W.nsIn K mainGlobals "joined" = some (some (.ref f_joined))) (l4 : K.lookup f_joined = some ⟨oc4, od4, .func (PySem.W.fnOf "joined" "joined" (defArgs s_joined) (defBody s_joined) (defScope s_joined) .none kV4 dc4 pm4 an4 cd4 ct4), sl4⟩) (c4 : PySem.W.codeIn K cd4 "joined" = true) (k4 : PySem.W.keepIn K (.ref f_joined) = true)
    (a5 : PySem.W.nsIn K mainGlobals "firsts_in" = some (some (.ref f_firsts_in))) (l5 : K.lookup f_firsts_in = some ⟨oc5, od5, .func (PySem.W.fnOf "firsts_in" "firsts_in" (defArgs s_firsts_in) (defBody s_firsts_in) (defScope s_firsts_in) .none kV5 dc5 pm5 an5 cd5 ct5), sl5⟩) (c5 : PySem.W.codeIn K cd5 "firsts_in" = true) (k5 : PySem.W.keepIn K (.ref f_firsts_in) = true)
    (a6 : PySem.W.nsIn K mainGlobals "first_table" = some (some (.ref f_first_table))) (l6 : K.lookup f_first_table = some ⟨oc6, od6, .func (PySem.W.fnOf "first_table" "first_table" (defArgs s_first_table) (defBody s_first_table) (defScope s_first_table) .none kV6 dc6 pm6 an6 cd6 ct6), sl6⟩) (c6 : PySem.W.codeIn K cd6 "first_table" = true) (k6 : PySem.W.keepIn K (.ref f_first_table) = true)
    (a7 : PySem.W.nsIn K mainGlobals "firsts" = some (some (.ref f_firsts))) (l7 : K.lookup f_firsts = some ⟨oc7, od7, .func (PySem.W.fnOf "firsts" "firsts" (defArgs s_firsts) (defBody s_firsts) (defScope s_firsts) .none kV7 dc7 pm7 an7 cd7 ct7), sl7⟩) (c7 : PySem.W.codeIn K cd7 "firsts" = true) (k7 : PySem.W.keepIn K (.ref f_firsts) = true)
    (a8 : PySem.W.nsIn K mainGlobals "_law_stream" = some (some (.ref f_law_stream))) (l8 : K.lookup f_law_stream = some ⟨oc8, od8, .func (PySem.W.fnOf "_law_stream" "_law_stream" (defArgs s_law_stream) (defBody s_law_stream) (defScope s_law_stream) .none kV8 dc8 pm8 an8 cd8 ct8), sl8⟩) (c8 : PySem.W.codeIn K cd8 "_law_stream" = true) (k8 : PySem.W.keepIn K (.ref f_law_stream) = true)
    (a9 : PySem.W.nsIn K mainGlobals "_law_take" = some (some (.ref f_law_take))) (l9 : K.lookup f_law_take = some ⟨oc9, od9, .func (PySem.W.fnOf "_law_take" "_law_take" (defArgs s_law_take) (defBody s_law_take) (defScope s_law_take) .none kV9 dc9 pm9 an9 cd9 ct9), sl9⟩) (c9 : PySem.W.codeIn K cd9 "_law_take" = true) (k9 : PySem.W.keepIn K (.ref f_law_take) = true)
    (a10 : PySem.W.nsIn K mainGlobals "_law_taker" = some (some (.ref f_law_taker))) (l10 : K.lookup f_law_taker = some ⟨oc10, od10, .func (PySem.W.fnOf "_law_taker" "_law_taker" (defArgs s_law_taker) (defBody s_law_taker) (defScope s_law_taker) .none kV10 dc10 pm10 an10 cd10 ct10), sl10⟩) (c10 : PySem.W.codeIn K cd10 "_law_taker" = true) (k10 : PySem.W.keepIn K (.ref f_law_taker) = true)
    (a11 : PySem.W.nsIn K mainGlobals "_law_expression" = some (some (.ref f_law_expression))) (l11 : K.lookup f_law_expression = some ⟨oc11, od11, .func (PySem.W.fnOf "_law_expression" "_law_expression" (defArgs s_law_expression) (defBody s_law_expression) (defScope s_law_expression) .none kV11 dc11 pm11 an11 cd11 ct11), sl11⟩) (c11 : PySem.W.codeIn K cd11 "_law_expression" = true) (k11 : PySem.W.keepIn K (.ref f_law_expression) = true)
    (a12 : PySem.W.nsIn K mainGlobals "_law_grammar" = some (some (.ref f_law_grammar))) (l12 : K.lookup f_law_grammar = some ⟨oc12, od12, .func (PySem.W.fnOf "_law_grammar" "_law_grammar" (defArgs s_law_grammar) (defBody s_law_grammar) (defScope s_law_grammar) .none kV12 dc12 pm12 an12 cd12 ct12), sl12⟩) (c12 : PySem.W.codeIn K cd12 "_law_grammar" = true) (k12 : PySem.W.keepIn K (.ref f_law_grammar) = true)
    (a13 : PySem.W.nsIn K mainGlobals "_law_text" = some (some (.ref f_law_text))) (l13 : K.lookup f_law_text = some ⟨oc13, od13, .func (PySem.W.fnOf "_law_text" "_law_text" (defArgs s_law_text) (defBody s_law_text) (defScope s_law_text) .none kV13 dc13 pm13 an13 cd13 ct13), sl13⟩) (c13 : PySem.W.codeIn K cd13 "_law_text" = true) (k13 : PySem.W.keepIn K (.ref f_law_text) = true)
    (a14 : PySem.W.nsIn K mainGlobals "_law_row" = some (some (.ref f_law_row))) (l14 : K.lookup f_law_row = some ⟨oc14, od14, .func (PySem.W.fnOf "_law_row" "_law_row" (defArgs s_law_row) (defBody s_law_row) (defScope s_law_row) .none kV14 dc14 pm14 an14 cd14 ct14), sl14⟩) (c14 : PySem.W.codeIn K cd14 "_law_row" = true) (k14 : PySem.W.keepIn K (.ref f_law_row) = true)
    (a15 : PySem.W.nsIn K mainGlobals "_law_star" = some (some (.ref f_law_star))) (l15 : K.lookup f_law_star = some ⟨oc15, od15, .func (PySem.W.fnOf "_law_star" "_law_star" (defArgs s_law_star) (defBody s_law_star) (defScope s_law_star) .none kV15 dc15 pm15 an15 cd15 ct15), sl15⟩) (c15 : PySem.W.codeIn K cd15 "_law_star" = true) (k15 : PySem.W.keepIn K (.ref f_law_star) = true)
    (a16 : PySem.W.nsIn K mainGlobals "_law_body" = some (some (.ref f_law_body))) (l16 : K.lookup f_law_body = some ⟨oc16, od16, .func (PySem.W.fnOf "_law_body" "_law_body" (defArgs s_law_body) (defBody s_law_body) (defScope s_law_body) .none kV16 dc16 pm16 an16 cd16 ct16), sl16⟩) (c16 : PySem.W.codeIn K cd16 "_law_body" = true) (k16 : PySem.W.keepIn K (.ref f_law_body) = true)
    (a17 : PySem.W.nsIn K mainGlobals "_law_match" = some (some (.ref f_law_match))) (l17 : K.lookup f_law_match = some ⟨oc17, od17, .func (PySem.W.fnOf "_law_match" "_law_match" (defArgs s_law_match) (defBody s_law_match) (defScope s_law_match) .none kV17 dc17 pm17 an17 cd17 ct17), sl17⟩) (c17 : PySem.W.codeIn K cd17 "_law_match" = true) (k17 : PySem.W.keepIn K (.ref f_law_match) = true)
    (a18 : PySem.W.nsIn K mainGlobals "_law_empty" = some (some (.ref f_law_empty))) (l18 : K.lookup f_law_empty = some ⟨oc18, od18, .func (PySem.W.fnOf "_law_empty" "_law_empty" (defArgs s_law_empty) (defBody s_law_empty) (defScope s_law_empty) .none kV18 dc18 pm18 an18 cd18 ct18), sl18⟩) (c18 : PySem.W.codeIn K cd18 "_law_empty" = true) (k18 : PySem.W.keepIn K (.ref f_law_empty) = true)
    (a19 : PySem.W.nsIn K mainGlobals "_law_empties" = some (some (.ref f_law_empties))) (l19 : K.lookup f_law_empties = some ⟨oc19, od19, .func (PySem.W.fnOf "_law_empties" "_law_empties" (defArgs s_law_empties) (defBody s_law_empties) (defScope s_law_empties) .none kV19 dc19 pm19 an19 cd19 ct19), sl19⟩) (c19 : PySem.W.codeIn K cd19 "_law_empties" = true) (k19 : PySem.W.keepIn K (.ref f_law_empties) = true)
    (a20 : PySem.W.nsIn K mainGlobals "_law_parts" = some (some (.ref f_law_parts))) (l20 : K.lookup f_law_parts = some ⟨oc20, od20, .func (PySem.W.fnOf "_law_parts" "_law_parts" (defArgs s_law_parts) (defBody s_law_parts) (defScope s_law_parts) .none kV20 dc20 pm20 an20 cd20 ct20), sl20⟩) (c20 : PySem.W.codeIn K cd20 "_law_parts" = true) (k20 : PySem.W.keepIn K (.ref f_law_parts) = true)
    (a21 : PySem.W.nsIn K mainGlobals "_law_firsts" = some (some (.ref f_law_firsts))) (l21 : K.lookup f_law_firsts = some ⟨oc21, od21, .func (PySem.W.fnOf "_law_firsts" "_law_firsts" (defArgs s_law_firsts) (defBody s_law_firsts) (defScope s_law_firsts) .none kV21 dc21 pm21 an21 cd21 ct21), sl21⟩) (c21 : PySem.W.codeIn K cd21 "_law_firsts" = true) (k21 : PySem.W.keepIn K (.ref f_law_firsts) = true)
    (a22 : PySem.W.nsIn K mainGlobals "law" = some (some (.ref f_law))) (l22 : K.lookup f_law = some ⟨oc22, od22, .func (PySem.W.fnOf "law" "law" (defArgs s_law) (defBody s_law) (defScope s_law) .none kV22 dc22 pm22 an22 cd22 ct22), sl22⟩) (c22 : PySem.W.codeIn K cd22 "law" = true) (k22 : PySem.W.keepIn K (.ref f_law) = true)
    (z_list : PySem.W.nsIn K mainGlobals "list" = some none)
    (z_all : PySem.W.nsIn K mainGlobals "all" = some none)
    (z_any : PySem.W.nsIn K mainGlobals "any" = some none)
    (z_abs : PySem.W.nsIn K mainGlobals "abs" = some none)
    (z_int : PySem.W.nsIn K mainGlobals "int" = some none)
    (z_range : PySem.W.nsIn K mainGlobals "range" = some none)
    (z_len : PySem.W.nsIn K mainGlobals "len" = some none)
    (z_tuple : PySem.W.nsIn K mainGlobals "tuple" = some none)
    (v_ONES : PySem.W.nsIn K mainGlobals "ONES" = some (some (.ref a_ONES))) (u_ONES : K.lookup a_ONES = some ⟨.type "tuple", od_ONES, .seq #[.str "star" tk_ONES_0, .str "opt" tk_ONES_1, .str "not" tk_ONES_2, .str "and" tk_ONES_3] n_ONES, sl_ONES⟩)
    (v_CHARS : PySem.W.nsIn K mainGlobals "CHARS" = some (some (.str " !\"#$&'()*+,-./0123456789:;<=>?@ABCDEFGHIJKLMNOPQRSTUVWXYZ[\\]^_`abcdefghijklmnopqrstuvwxyz{|}~" tk_CHARS)))
    : ∃ fd : FuncData, (∀ (s : Shared) (v : Value), BindsTo s fd ⟨[v], []⟩ [("_law_script", v)]) ∧ ∀ base : Heap, K.In base → base.Ns mainGlobals mg → FnD l.prog w K mg base 590 fa fd ["_law_script"] spLaw := by
  have e := hfa.symm.trans (PySem.W.mg_of X G a22)
  cases e
  have M : Bl K mg := ⟨PySem.W.mg_none_of X G z_list, PySem.W.mg_none_of X G z_all, PySem.W.mg_none_of X G z_any, PySem.W.mg_none_of X G z_abs, PySem.W.mg_none_of X G z_int, PySem.W.mg_none_of X G z_range, PySem.W.mg_none_of X G z_len, PySem.W.mg_none_of X G z_tuple, ⟨_, _, _, _, [.str "star", .str "opt", .str "not", .str "and"], PySem.W.mg_of X G v_ONES, u_ONES, rfl, rfl, by show 4 ≤ sizeLine; decide, (.cons ⟨_, rfl⟩ (.cons ⟨_, rfl⟩ (.cons ⟨_, rfl⟩ (.cons ⟨_, rfl⟩ .nil)))), fun _ => (.cons (.str _) (.cons (.str _) (.cons (.str _) (.cons (.str _) .nil))))⟩, ⟨_, PySem.W.mg_of X G v_CHARS⟩, trivial⟩
  have F1 := fun_mk (st := s_parts_of) l1 c1 k1
  have D_parts_of : Def K mg "parts_of" s_parts_of _ _ ["expression"] := ⟨F1, F1.binds (ps := ["expression"]) (fun _ _ _ _ _ _ us hl => match us, hl with | [_], _ => rfl), PySem.W.mg_of X G a1⟩
  have F2 := fun_mk (st := s_may_be_empty) l2 c2 k2
  have D_may_be_empty : Def K mg "may_be_empty" s_may_be_empty _ _ ["expression", "names"] := ⟨F2, F2.binds (ps := ["expression", "names"]) (fun _ _ _ _ _ _ us hl => match us, hl with | [_, _], _ => rfl), PySem.W.mg_of X G a2⟩
  have F3 := fun_mk (st := s_empty_rules) l3 c3 k3
  have D_empty_rules : Def K mg "empty_rules" s_empty_rules _ _ ["grammar"] := ⟨F3, F3.binds (ps := ["grammar"]) (fun _ _ _ _ _ _ us hl => match us, hl with | [_], _ => rfl), PySem.W.mg_of X G a3⟩
  have F4 := fun_mk (st := s_joined) l4 c4 k4
  have D_joined : Def K mg "joined" s_joined _ _ ["one", "two"] := ⟨F4, F4.binds (ps := ["one", "two"]) (fun _ _ _ _ _ _ us hl => match us, hl with | [_, _], _ => rfl), PySem.W.mg_of X G a4⟩
  have F5 := fun_mk (st := s_firsts_in) l5 c5 k5
  have D_firsts_in : Def K mg "firsts_in" s_firsts_in _ _ ["expression", "empty", "table"] := ⟨F5, F5.binds (ps := ["expression", "empty", "table"]) (fun _ _ _ _ _ _ us hl => match us, hl with | [_, _, _], _ => rfl), PySem.W.mg_of X G a5⟩
  have F6 := fun_mk (st := s_first_table) l6 c6 k6
  have D_first_table : Def K mg "first_table" s_first_table _ _ ["grammar"] := ⟨F6, F6.binds (ps := ["grammar"]) (fun _ _ _ _ _ _ us hl => match us, hl with | [_], _ => rfl), PySem.W.mg_of X G a6⟩
  have F7 := fun_mk (st := s_firsts) l7 c7 k7
  have D_firsts : Def K mg "firsts" s_firsts _ _ ["grammar", "expression"] := ⟨F7, F7.binds (ps := ["grammar", "expression"]) (fun _ _ _ _ _ _ us hl => match us, hl with | [_, _], _ => rfl), PySem.W.mg_of X G a7⟩
  have F8 := fun_mk (st := s_law_stream) l8 c8 k8
  have D_law_stream : Def K mg "_law_stream" s_law_stream _ _ ["_law_script"] := ⟨F8, F8.binds (ps := ["_law_script"]) (fun _ _ _ _ _ _ us hl => match us, hl with | [_], _ => rfl), PySem.W.mg_of X G a8⟩
  have F9 := fun_mk (st := s_law_take) l9 c9 k9
  have D_law_take : Def K mg "_law_take" s_law_take _ _ ["_law_row_here", "_law_many"] := ⟨F9, F9.binds (ps := ["_law_row_here", "_law_many"]) (fun _ _ _ _ _ _ us hl => match us, hl with | [_, _], _ => rfl), PySem.W.mg_of X G a9⟩
  have F10 := fun_mk (st := s_law_taker) l10 c10 k10
  have D_law_taker : Def K mg "_law_taker" s_law_taker _ _ ["_law_row_here"] := ⟨F10, F10.binds (ps := ["_law_row_here"]) (fun _ _ _ _ _ _ us hl => match us, hl with | [_], _ => rfl), PySem.W.mg_of X G a10⟩
  have F11 := fun_mk (st := s_law_expression) l11 c11 k11
  have D_law_expression : Def K mg "_law_expression" s_law_expression _ _ ["_law_row_here", "_law_depth", "_law_rule", "_law_many"] := ⟨F11, F11.binds (ps := ["_law_row_here", "_law_depth", "_law_rule", "_law_many"]) (fun _ _ _ _ _ _ us hl => match us, hl with | [_, _, _, _], _ => rfl), PySem.W.mg_of X G a11⟩
  have F12 := fun_mk (st := s_law_grammar) l12 c12 k12
  have D_law_grammar : Def K mg "_law_grammar" s_law_grammar _ _ ["_law_row_here", "_law_depth"] := ⟨F12, F12.binds (ps := ["_law_row_here", "_law_depth"]) (fun _ _ _ _ _ _ us hl => match us, hl with | [_, _], _ => rfl), PySem.W.mg_of X G a12⟩
  have F13 := fun_mk (st := s_law_text) l13 c13 k13
  have D_law_text : Def K mg "_law_text" s_law_text _ _ ["_law_row_here"] := ⟨F13, F13.binds (ps := ["_law_row_here"]) (fun _ _ _ _ _ _ us hl => match us, hl with | [_], _ => rfl), PySem.W.mg_of X G a13⟩
  have F14 := fun_mk (st := s_law_row) l14 c14 k14
  have D_law_row : Def K mg "_law_row" s_law_row _ _ ["_law_fuel", "_law_grammar_here", "_law_parts_here", "_law_text_here", "_law_at"] := ⟨F14, F14.binds (ps := ["_law_fuel", "_law_grammar_here", "_law_parts_here", "_law_text_here", "_law_at"]) (fun _ _ _ _ _ _ us hl => match us, hl with | [_, _, _, _, _], _ => rfl), PySem.W.mg_of X G a14⟩
  have F15 := fun_mk (st := s_law_star) l15 c15 k15
  have D_law_star : Def K mg "_law_star" s_law_star _ _ ["_law_fuel", "_law_grammar_here", "_law_inner", "_law_text_here", "_law_at"] := ⟨F15, F15.binds (ps := ["_law_fuel", "_law_grammar_here", "_law_inner", "_law_text_here", "_law_at"]) (fun _ _ _ _ _ _ us hl => match us, hl with | [_, _, _, _, _], _ => rfl), PySem.W.mg_of X G a15⟩
  have F16 := fun_mk (st := s_law_body) l16 c16 k16
  have D_law_body : Def K mg "_law_body" s_law_body _ _ ["_law_grammar_here", "_law_name"] := ⟨F16, F16.binds (ps := ["_law_grammar_here", "_law_name"]) (fun _ _ _ _ _ _ us hl => match us, hl with | [_, _], _ => rfl), PySem.W.mg_of X G a16⟩
  have F17 := fun_mk (st := s_law_match) l17 c17 k17
  have D_law_match : Def K mg "_law_match" s_law_match _ _ ["_law_fuel", "_law_grammar_here", "_law_expression_here", "_law_text_here", "_law_at"] := ⟨F17, F17.binds (ps := ["_law_fuel", "_law_grammar_here", "_law_expression_here", "_law_text_here", "_law_at"]) (fun _ _ _ _ _ _ us hl => match us, hl with | [_, _, _, _, _], _ => rfl), PySem.W.mg_of X G a17⟩
  have F18 := fun_mk (st := s_law_empty) l18 c18 k18
  have D_law_empty : Def K mg "_law_empty" s_law_empty _ _ ["_law_expression_here", "_law_names"] := ⟨F18, F18.binds (ps := ["_law_expression_here", "_law_names"]) (fun _ _ _ _ _ _ us hl => match us, hl with | [_, _], _ => rfl), PySem.W.mg_of X G a18⟩
  have F19 := fun_mk (st := s_law_empties) l19 c19 k19
  have D_law_empties : Def K mg "_law_empties" s_law_empties _ _ ["_law_grammar_here"] := ⟨F19, F19.binds (ps := ["_law_grammar_here"]) (fun _ _ _ _ _ _ us hl => match us, hl with | [_], _ => rfl), PySem.W.mg_of X G a19⟩
  have F20 := fun_mk (st := s_law_parts) l20 c20 k20
  have D_law_parts : Def K mg "_law_parts" s_law_parts _ _ ["_law_expression_here"] := ⟨F20, F20.binds (ps := ["_law_expression_here"]) (fun _ _ _ _ _ _ us hl => match us, hl with | [_], _ => rfl), PySem.W.mg_of X G a20⟩
  have F21 := fun_mk (st := s_law_firsts) l21 c21 k21
  have D_law_firsts : Def K mg "_law_firsts" s_law_firsts _ _ ["_law_expression_here", "_law_table", "_law_empty_here"] := ⟨F21, F21.binds (ps := ["_law_expression_here", "_law_table", "_law_empty_here"]) (fun _ _ _ _ _ _ us hl => match us, hl with | [_, _, _], _ => rfl), PySem.W.mg_of X G a21⟩
  have F22 := fun_mk (st := s_law) l22 c22 k22
  have D_law : Def K mg "law" s_law _ _ ["_law_script"] := ⟨F22, F22.binds (ps := ["_law_script"]) (fun _ _ _ _ _ _ us hl => match us, hl with | [_], _ => rfl), PySem.W.mg_of X G a22⟩
  refine ⟨PySem.W.fnOf "law" "law" (defArgs s_law) (defBody s_law) (defScope s_law) .none kV22 dc22 pm22 an22 cd22 ct22, fun s v => .of_eq rfl, fun base _ _ => ?_⟩
  have Gtake := ok_law_take (P := l.prog) (w := w) (base := base) (k := 0) M D_law_take (fun ds G Q E h => by obtain ⟨_, _, rfl, _⟩ := h; rfl) pure_take
  have Gstream := ok_law_stream (P := l.prog) (w := w) (base := base) (k := 0) M D_law_stream (fun ds G Q E h => by obtain ⟨_, rfl, _⟩ := h; rfl) pure_stream
  have Gtaker := ok_law_taker (k := 1) M D_law_take Gtake D_law_taker (fun ds G Q E h => by obtain ⟨_, rfl, _⟩ := h; rfl) pure_taker
  have Gexpr : ∀ n, FnD l.prog w K mg base (n + 2) f_law_expression _ _ (spExpr n) := fun n => by
    induction n with
    | zero => exact FnD.none fun ds G Q E ⟨_, _, _, _, _, _, h, _⟩ => by omega
    | succ n ih => exact ok_law_expression M D_law_take (Gtake.mono (by omega)) D_law_taker (Gtaker.mono (by omega)) D_law_expression ih (fun ds G Q E h => by obtain ⟨_, _, _, _, rfl, _⟩ := h; rfl) (pure_expr n)
  have Ggram := ok_law_grammar (k := 6) M D_law_take (Gtake.mono (by omega)) D_law_expression (Gexpr 4) D_law_grammar (fun ds G Q E h => by obtain ⟨_, _, rfl, _⟩ := h; rfl) (pure_gram 4)
  have Gtext := ok_law_text (k := 1) M D_law_take Gtake D_law_text (fun ds G Q E h => by obtain ⟨_, rfl, _⟩ := h; rfl) pure_text
  have Gmay : ∀ n, FnD l.prog w K mg base n f_may_be_empty _ _ (spMay n) := fun n => by
    induction n with
    | zero => exact FnD.none fun ds G Q E ⟨e, _, _, _, _, h, _⟩ => by have := dep_pos e; omega
    | succ n ih => exact ok_may_be_empty M D_may_be_empty ih (fun ds G Q E h => by obtain ⟨_, _, _, rfl, _⟩ := h; rfl) (pure_may n)
  have Gemp : ∀ n, FnD l.prog w K mg base n f_law_empty _ _ (spMay n) := fun n => by
    induction n with
    | zero => exact FnD.none fun ds G Q E ⟨e, _, _, _, _, h, _⟩ => by have := dep_pos e; omega
    | succ n ih => exact ok_law_empty M D_law_empty ih (fun ds G Q E h => by obtain ⟨_, _, _, rfl, _⟩ := h; rfl) (pure_law_empty n)
  have Ger := ok_empty_rules M D_may_be_empty (Gmay 7) D_empty_rules (fun ds G Q E h => by obtain ⟨_, rfl, _⟩ := h; rfl) (pure_emp 7)
  have Gle := ok_law_empties M D_law_empty (Gemp 7) D_law_empties (fun ds G Q E h => by obtain ⟨_, rfl, _⟩ := h; rfl) (pure_law_empties 7)
  have Gparts := ok_parts_of (P := l.prog) (w := w) (base := base) (k := 0) M D_parts_of (fun ds G Q E h => by obtain ⟨_, rfl, _⟩ := h; rfl) pure_parts
  have Gjoined := ok_joined (P := l.prog) (w := w) (base := base) (k := 0) M D_joined (fun ds G Q E h => by obtain ⟨_, _, rfl, _⟩ := h; rfl) pure_joined
  have Gfir : ∀ n, FnD l.prog w K mg base (n + 1) f_firsts_in _ _ (spFir n) := fun n => by
    induction n with
    | zero => exact FnD.none fun ds G Q E ⟨e, _, _, _, _, _, _, _, _, h, _⟩ => by have := dep_pos e; omega
    | succ n ih => exact ok_firsts_in M D_parts_of (Gparts.mono (by omega)) D_joined (Gjoined.mono (by omega)) D_firsts_in ih D_may_be_empty ((Gmay n).mono (by omega)) (fun ds G Q E h => by obtain ⟨_, _, _, _, _, _, rfl, _⟩ := h; rfl) (pure_firsts_in n)
  have Gtab := ok_first_table (k := 8) M D_empty_rules Ger D_firsts_in (Gfir 7) D_first_table (fun ds G Q E h => by obtain ⟨_, rfl, _⟩ := h; rfl) (pure_table 7)
  have Gfirsts := ok_firsts (k := 9) M D_firsts_in ((Gfir 7).mono (by omega)) D_first_table Gtab D_empty_rules (Ger.mono (by omega)) D_firsts (fun ds G Q E h => by obtain ⟨_, _, rfl, _⟩ := h; rfl) (pure_firsts 7)
  have GLparts := ok_law_parts (P := l.prog) (w := w) (base := base) (k := 0) M D_law_parts (fun ds G Q E h => by obtain ⟨_, rfl, _⟩ := h; rfl) pure_lparts
  have GLfir : ∀ n, FnD l.prog w K mg base (n + 1) f_law_firsts _ _ (spLFir n) := fun n => by
    induction n with
    | zero => exact FnD.none fun ds G Q E ⟨e, _, _, _, _, _, _, _, _, h, _⟩ => by have := dep_pos e; omega
    | succ n ih => exact ok_law_firsts M D_law_parts (GLparts.mono (by omega)) D_law_firsts ih D_law_empty ((Gemp n).mono (by omega)) (fun ds G Q E h => by obtain ⟨_, _, _, _, _, _, rfl, _⟩ := h; rfl) (pure_lfirsts n)
  have Gbody := ok_law_body (P := l.prog) (w := w) (base := base) (k := 0) M D_law_body (fun ds G Q E h => by obtain ⟨_, _, rfl, _⟩ := h; rfl) pure_lbody
  have Gmatch : ∀ (em : List Str) (S : Nat → List Str) n, FnD l.prog w K mg base (2 * n) f_law_match _ _ (spLMatch em S n) := fun em S n => by
    induction n with
    | zero => exact FnD.none fun ds G Q E ⟨_, _, _, _, _, _, _, _, _, _, _, _, h, _⟩ => h
    | succ n ih =>
      have Grow := ok_law_row M D_law_match ih D_law_row (fun ds G Q E h => by obtain ⟨_, _, _, _, _, _, rfl, _⟩ := h; rfl) (pure_lrow em S n)
      have Gstar := ok_law_star M D_law_match ih D_law_star (fun ds G Q E h => by obtain ⟨_, _, _, _, _, _, rfl, _⟩ := h; rfl) (pure_lstar em S n)
      exact ok_law_match (k := 2 * n + 1) M D_law_row Grow D_law_match (ih.mono (by omega)) D_law_star Gstar D_law_body (Gbody.mono (by omega)) (fun ds G Q E h => by obtain ⟨_, _, _, _, _, _, rfl, _⟩ := h; rfl) (pure_lmatch em S n)
  have Gm : FnD l.prog w K mg base 500 f_law_match _ _ (spLM 250) := FnD.ex fun i => Gmatch i.1 i.2 250
  exact (ok_law (k := 500) M D_law_stream (Gstream.mono (by omega)) D_law_grammar (Ggram.mono (by omega)) D_law_take (Gtake.mono (by omega)) D_law_empties (Gle.mono (by omega)) D_law_firsts ((GLfir 7).mono (by omega)) D_law_text (Gtext.mono (by omega)) D_firsts (Gfirsts.mono (by omega)) D_law_match Gm D_law
    (fun ds G Q E h => by obtain ⟨_, rfl, _⟩ := h; rfl) pure_law).mono (by omega)
end LV
open PySem PySem.W PyProof.Rows
set_option maxRecDepth 100000 in
set_option maxHeartbeats 0 in
theorem PySem.Challenge.cw_graft_k06_first_characters_holds : PySem.Challenge.rw_graft_k06_first_characters.Holds := by
  w_on; o_law; k_head; (case hw => w_witness2)
  k_fill
  refine DL.law_walk (l := PySem.Challenge.rw_graft_k06_first_characters) rfl rfl ⟨rfl, by decide, by decide⟩ (fun w h Y => PySem.W.kIn_of Y) ?F
  case F =>
    intro w mg fa h KX G hmg
    refine' LV.all_mk KX G hmg ?a1 ?l1 ?c1 ?k1 ?a2 ?l2 ?c2 ?k2 ?a3 ?l3 ?c3 ?k3 ?a4 ?l4 ?c4 ?k4 ?a5 ?l5 ?c5 ?k5 ?a6 ?l6 ?c6 ?k6 ?a7 ?l7 ?c7 ?k7 ?a8 ?l8 ?c8 ?k8 ?a9 ?l9 ?c9 ?k9 ?a10 ?l10 ?c10 ?k10 ?a11 ?l11 ?c11 ?k11 ?a12 ?l12 ?c12 ?k12 ?a13 ?l13 ?c13 ?k13 ?a14 ?l14 ?c14 ?k14 ?a15 ?l15 ?c15 ?k15 ?a16 ?l16 ?c16 ?k16 ?a17 ?l17 ?c17 ?k17 ?a18 ?l18 ?c18 ?k18 ?a19 ?l19 ?c19 ?k19 ?a20 ?l20 ?c20 ?k20 ?a21 ?l21 ?c21 ?k21 ?a22 ?l22 ?c22 ?k22 ?z_list ?z_all ?z_any ?z_abs ?z_int ?z_range ?z_len ?z_tuple ?v_ONES ?u_ONES ?v_CHARS
    (case a1 => k_is)
    (case l1 => k_is)
    (case c1 => k_is)
    (case k1 => k_is)
    (case a2 => k_is)
    (case l2 => k_is)
    (case c2 => k_is)
    (case k2 => k_is)
    (case a3 => k_is)
    (case l3 => k_is)
    (case c3 => k_is)
    (case k3 => k_is)
    (case a4 => k_is)
    (case l4 => k_is)
    (case c4 => k_is)
    (case k4 => k_is)
    (case a5 => k_is)
    (case l5 => k_is)
    (case c5 => k_is)
    (case k5 => k_is)
    (case a6 => k_is)
    (case l6 => k_is)
    (case c6 => k_is)
    (case k6 => k_is)
    (case a7 => k_is)
    (case l7 => k_is)
    (case c7 => k_is)
    (case k7 => k_is)
    (case a8 => k_is)
    (case l8 => k_is)
    (case c8 => k_is)
    (case k8 => k_is)
    (case a9 => k_is)
    (case l9 => k_is)
    (case c9 => k_is)
    (case k9 => k_is)
    (case a10 => k_is)
    (case l10 => k_is)
    (case c10 => k_is)
    (case k10 => k_is)
    (case a11 => k_is)
    (case l11 => k_is)
    (case c11 => k_is)
    (case k11 => k_is)
    (case a12 => k_is)
    (case l12 => k_is)
    (case c12 => k_is)
    (case k12 => k_is)
    (case a13 => k_is)
    (case l13 => k_is)
    (case c13 => k_is)
    (case k13 => k_is)
    (case a14 => k_is)
    (case l14 => k_is)
    (case c14 => k_is)
    (case k14 => k_is)
    (case a15 => k_is)
    (case l15 => k_is)
    (case c15 => k_is)
    (case k15 => k_is)
    (case a16 => k_is)
    (case l16 => k_is)
    (case c16 => k_is)
    (case k16 => k_is)
    (case a17 => k_is)
    (case l17 => k_is)
    (case c17 => k_is)
    (case k17 => k_is)
    (case a18 => k_is)
    (case l18 => k_is)
    (case c18 => k_is)
    (case k18 => k_is)
    (case a19 => k_is)
    (case l19 => k_is)
    (case c19 => k_is)
    (case k19 => k_is)
    (case a20 => k_is)
    (case l20 => k_is)
    (case c20 => k_is)
    (case k20 => k_is)
    (case a21 => k_is)
    (case l21 => k_is)
    (case c21 => k_is)
    (case k21 => k_is)
    (case a22 => k_is)
    (case l22 => k_is)
    (case c22 => k_is)
    (case k22 => k_is)
    (case z_list => k_is)
    (case z_all => k_is)
    (case z_any => k_is)
    (case z_abs => k_is)
    (case z_int => k_is)
    (case z_range => k_is)
    (case z_len => k_is)
    (case z_tuple => k_is)
    (case v_ONES => k_is)
    (case u_ONES => k_is)
    (case v_CHARS => k_is)
