import PyProof.Rows.All
import Wide.All
import OpenK.AllK
import Wide.FinOn
import HandS.ForMost
import HandS.Gcd
import HandS.IsInst
import HandS.Wide
import HandS.WideBits
import HandS.Style
import HandS.Deep
import HandS.Exc
import HandS.WordsExc
import HandS.SetFor
import PyProof.Rows.SeqMore
import PyProof.ReprRoads
import HandS.Iter
import PyProof.ReprLen
import PyProof.StrLawsRepr
import PyProof.CallFns
import HandS.Strs
import PyProof.Rows.SetFrom
import PyProof.Rows.RuleB_pow
import PyProof.Rows.FactsT3
import PySem.Challenge.RW_spreadline_k68_whole_fewest_pieces
set_option Elab.async false
set_option linter.all false
set_option maxRecDepth 100000
set_option maxHeartbeats 4000000
/-! DL: a layer over the hand layer in which readings speak of data (D) and no longer of the heap. -/
namespace DL
open PySem L2
abbrev SL := List (Option V)
/-- data -/
inductive D where
  | non | bl (b : Bool) | int (i : Int) | str (x : Str) | lst (ds : List D) | tup (ds : List D)
  | ins (C : Addr) (fs : List (Str × D)) | raw (v : V)
/-- what an expression gives, what a slot holds -/
inductive R where
  | val (d : D)
  | own (ds : List D)
  | peek (ds : List D)
  | gen
/-- the object of a source of numbers: three ints; n calls are left -/
def GenP (a : Addr) (n : Nat) : Heap → Prop := fun h => ∃ (x y z : Int) (t u v : Tok) (m : Nat),
  h.get? a = some { cls := .type "list", data := .seq #[.int x t, .int y u, .int z v] m } ∧ 0 ≤ x ∧ x < 10 ^ 600 ∧ 0 ≤ y ∧ y < 2147483647 ∧ 0 ≤ z ∧ z + (n : Int) * 2 ^ 12 ≤ 2 ^ 62
def GenO (a : Addr) (n : Nat) : HO := .ext (GenP a n)
/-- objects that may change behind one's back -/
def Soft : HO → Prop
  | .ext _ => True
  | _ => False
mutual
inductive Rep (K : PySem.W.Frag) (G : Hp) : V → D → Prop
  | non : Rep K G .non .non
  | bl (b : Bool) : Rep K G (.bl b) (.bl b)
  | int (i : Int) : Rep K G (.int i) (.int i)
  | str (x : Str) : Rep K G (.str x) (.str x)
  | lst {a : Addr} {vs : List V} {ds : List D} : SqL K G a vs → RepAll K G vs ds → Rep K G (.ref a) (.lst ds)
  | tup {a : Addr} {vs : List V} {ds : List D} : SqT K G a vs → RepAll K G vs ds → Rep K G (.ref a) (.tup ds)
  | ins {a C dx : Addr} {fs : List (Str × V)} {ds : List (Str × D)} : G a = some (.ins C dx fs) → RepFs K G fs ds → Rep K G (.ref a) (.ins C ds)
  | raw (v : V) : Rep K G v (.raw v)
inductive RepAll (K : PySem.W.Frag) (G : Hp) : List V → List D → Prop
  | nil : RepAll K G [] []
  | cons {v : V} {vs : List V} {d : D} {ds : List D} : Rep K G v d → RepAll K G vs ds → RepAll K G (v :: vs) (d :: ds)
inductive RepFs (K : PySem.W.Frag) (G : Hp) : List (Str × V) → List (Str × D) → Prop
  | nil : RepFs K G [] []
  | cons {x : Str} {v : V} {vs : List (Str × V)} {d : D} {ds : List (Str × D)} : Rep K G v d → RepFs K G vs ds → RepFs K G ((x, v) :: vs) ((x, d) :: ds)
end
def Sub (G G' : Hp) : Prop := ∀ a o, G a = some o → G' a = some o
theorem Sub.rd {G G' : Hp} {a : Addr} {u : HO} (e : Sub G G') (h : Rd G a u) : Rd G' a u := by
  rcases h with h | ⟨o, h⟩
  · exact .inl (e _ _ h)
  · exact .inr ⟨o, e _ _ h⟩
theorem Sub.sql {K : PySem.W.Frag} {G G' : Hp} {a : Addr} {xs : List V} (e : Sub G G') (h : SqL K G a xs) : SqL K G' a xs := by
  rcases h with h | h
  · exact .inl (e.rd h)
  · exact .inr h
theorem Sub.sqt {K : PySem.W.Frag} {G G' : Hp} {a : Addr} {xs : List V} (e : Sub G G') (h : SqT K G a xs) : SqT K G' a xs := by
  rcases h with h | h
  · exact .inl (e.rd h)
  · exact .inr h
section
variable {K : PySem.W.Frag} {G G' : Hp}
mutual
theorem Rep.mono (e : Sub G G') : ∀ {v : V} {d : D}, Rep K G v d → Rep K G' v d
  | _, _, .non => .non
  | _, _, .bl b => .bl b
  | _, _, .int i => .int i
  | _, _, .str x => .str x
  | _, _, .lst h a => .lst (e.sql h) (a.mono e)
  | _, _, .tup h a => .tup (e.sqt h) (a.mono e)
  | _, _, .ins h a => .ins (e _ _ h) (a.mono e)
  | _, _, .raw v => .raw v
theorem RepAll.mono (e : Sub G G') : ∀ {v : List V} {d : List D}, RepAll K G v d → RepAll K G' v d
  | _, _, .nil => .nil
  | _, _, .cons h a => .cons (h.mono e) (a.mono e)
theorem RepFs.mono (e : Sub G G') : ∀ {v : List (Str × V)} {d : List (Str × D)}, RepFs K G v d → RepFs K G' v d
  | _, _, .nil => .nil
  | _, _, .cons h a => .cons (h.mono e) (a.mono e)
end
end
theorem RepAll.length {K : PySem.W.Frag} {G : Hp} : ∀ {vs : List V} {ds : List D}, RepAll K G vs ds → vs.length = ds.length
  | _, _, .nil => rfl
  | _, _, .cons _ t => congrArg (· + 1) t.length
theorem RepAll.append {K : PySem.W.Frag} {G : Hp} : ∀ {vs ws : List V} {ds es : List D}, RepAll K G vs ds → RepAll K G ws es → RepAll K G (vs ++ ws) (ds ++ es)
  | _, _, _, _, .nil, q => q
  | _, _, _, _, .cons h t, q => .cons h (t.append q)
theorem RepAll.get {K : PySem.W.Frag} {G : Hp} : ∀ {vs : List V} {ds : List D} {i : Nat} {d : D}, RepAll K G vs ds → ds[i]? = some d → ∃ v, vs[i]? = some v ∧ Rep K G v d
  | _, _, _, _, .nil, e => by simp at e
  | _, _, 0, _, .cons r _, e => by
    simp only [List.getElem?_cons_zero, Option.some.injEq] at e
    subst e
    exact ⟨_, rfl, r⟩
  | _, _, i + 1, d, .cons _ t, e => by
    simp only [List.getElem?_cons_succ] at e ⊢
    exact t.get e
theorem RepAll.get' {K : PySem.W.Frag} {G : Hp} : ∀ {vs : List V} {ds : List D} {i : Nat} {v : V}, RepAll K G vs ds → vs[i]? = some v → ∃ d, ds[i]? = some d ∧ Rep K G v d
  | _, _, _, _, .nil, e => by simp at e
  | _, _, 0, _, .cons r _, e => by
    simp only [List.getElem?_cons_zero, Option.some.injEq] at e
    subst e
    exact ⟨_, rfl, r⟩
  | _, _, i + 1, d, .cons _ t, e => by
    simp only [List.getElem?_cons_succ] at e ⊢
    exact t.get' e
theorem RepAll.take {K : PySem.W.Frag} {G : Hp} : ∀ {vs : List V} {ds : List D} (n : Nat), RepAll K G vs ds → RepAll K G (vs.take n) (ds.take n)
  | _, _, 0, _ => .nil
  | _, _, _ + 1, .nil => .nil
  | _, _, n + 1, .cons r t => .cons r (t.take n)
theorem RepAll.drop {K : PySem.W.Frag} {G : Hp} : ∀ {vs : List V} {ds : List D} (n : Nat), RepAll K G vs ds → RepAll K G (vs.drop n) (ds.drop n)
  | _, _, 0, r => r
  | _, _, _ + 1, .nil => .nil
  | _, _, n + 1, .cons r t => t.drop n
theorem RepAll.set {K : PySem.W.Frag} {G : Hp} {v : V} {d : D} (r : Rep K G v d) : ∀ {vs : List V} {ds : List D} (n : Nat), RepAll K G vs ds → RepAll K G (vs.set n v) (ds.set n d)
  | _, _, _, .nil => .nil
  | _, _, 0, .cons _ t => .cons r t
  | _, _, n + 1, .cons q t => .cons q (t.set r n)
theorem RepAll.reverse {K : PySem.W.Frag} {G : Hp} {vs : List V} {ds : List D} (h : RepAll K G vs ds) : RepAll K G vs.reverse ds.reverse := by
  induction vs generalizing ds with
  | nil => cases h; exact .nil
  | cons v vs ih =>
    cases h with
    | cons r t =>
      rw [List.reverse_cons, List.reverse_cons]
      exact (ih t).append (.cons r .nil)
theorem RepAll.dropLast {K : PySem.W.Frag} {G : Hp} {vs : List V} {ds : List D} (h : RepAll K G vs ds) : RepAll K G vs.dropLast ds.dropLast := by
  rw [List.dropLast_eq_take, List.dropLast_eq_take, h.length]
  exact h.take _
theorem RepAll.ints {K : PySem.W.Frag} {G : Hp} : ∀ {vs : List V} {ns : List Int}, RepAll K G vs (ns.map D.int) → vs = ns.map V.int
  | vs, [], h => by cases h; rfl
  | vs, n :: ns, h => by
    cases h with
    | cons r t =>
      cases r
      rw [List.map_cons, ← t.ints]
theorem RepAll.ofInts {K : PySem.W.Frag} {G : Hp} : ∀ (ns : List Int), RepAll K G (ns.map V.int) (ns.map D.int)
  | [] => .nil
  | n :: ns => .cons (.int n) (.ofInts ns)
/-! ### steps of the heap -/
structure Keep (H H' : Hp) : Prop where
  hard : ∀ a o, H a = some o → ¬ Soft o → H' a = some o
  gens : ∀ a n, H a = some (GenO a n) → ∃ n', H' a = some (GenO a n')
  there : ∀ a, H a ≠ none → H' a ≠ none
theorem Keep.refl (H : Hp) : Keep H H := ⟨fun _ _ h _ => h, fun _ n h => ⟨n, h⟩, fun _ h => h⟩
theorem Keep.trans {H H1 H2 : Hp} (a : Keep H H1) (b : Keep H1 H2) : Keep H H2 :=
  ⟨fun x o h s => b.hard x o (a.hard x o h s) s, fun x n h => by obtain ⟨m, q⟩ := a.gens x n h; exact b.gens x m q, fun x h => b.there x (a.there x h)⟩
theorem Keep.new {H : Hp} {p : Addr} {o : HO} (h : H p = none) : Keep H (upd H p o) :=
  ⟨fun a u e _ => by rw [upd_ne (ne_of_none e h)]; exact e, fun a n e => ⟨n, by rw [upd_ne (ne_of_none e h)]; exact e⟩, fun a e => by
    rw [upd_ne (fun z => e (by rw [z]; exact h))]; exact e⟩
/-- an object of which the start knows nothing is changed -/
theorem Keep.mut {H0 H : Hp} {p : Addr} {o : HO} (k : Keep H0 H) (h : H0 p = none) : Keep H0 (upd H p o) :=
  ⟨fun a u e s => by rw [upd_ne (ne_of_none e h)]; exact k.hard a u e s, fun a n e => by rw [upd_ne (ne_of_none e h)]; exact k.gens a n e, fun a e => by
    rw [upd_ne (fun z => e (by rw [z]; exact h))]; exact k.there a e⟩
/-- how many calls every source is good for -/
def Bud (H : Hp) (β : Nat) : Prop := ∀ a n, H a = some (GenO a n) → ∃ m, β ≤ m ∧ H a = some (GenO a m)
theorem Bud.upd {H : Hp} {β : Nat} {p : Addr} {o : HO} (b : Bud H β) (h : ¬ Soft o) : Bud (upd H p o) β := fun a n e => by
  by_cases q : a = p
  · subst q
    rw [upd_same] at e
    cases e
    exact absurd trivial h
  · rw [upd_ne q] at e ⊢
    exact b a n e
theorem Bud.less {H : Hp} {β β' : Nat} (b : Bud H β) (h : β' ≤ β) : Bud H β' := fun a n e => by
  obtain ⟨m, hm, q⟩ := b a n e
  exact ⟨m, Nat.le_trans h hm, q⟩
/-- from the frozen part G of H to G' of H' -/
structure Stp (G H G' H' : Hp) : Prop where
  old : ∀ a, H a ≠ none → G' a = G a
  kp : Keep H H'
  ex : ∀ a o, G' a = some o → H' a = some o ∧ ¬ Soft o
theorem Stp.refl {G H : Hp} (h : ∀ a o, G a = some o → H a = some o ∧ ¬ Soft o) : Stp G H G H := ⟨fun _ _ => rfl, Keep.refl H, h⟩
theorem Stp.trans {G H G1 H1 G2 H2 : Hp} (a : Stp G H G1 H1) (b : Stp G1 H1 G2 H2) : Stp G H G2 H2 :=
  ⟨fun x h => (b.old x (a.kp.there x h)).trans (a.old x h), a.kp.trans b.kp, b.ex⟩
theorem Stp.sub {G H G' H' : Hp} (a : Stp G H G' H') (h : ∀ a o, G a = some o → H a = some o ∧ ¬ Soft o) : Sub G G' := fun x o e => by
  rw [a.old x (by rw [(h x o e).1]; simp), e]
/-- a new object, frozen at once -/
theorem Stp.freeze {G H G' H' : Hp} {p : Addr} {o : HO} (a : Stp G H G' H') (h : H p = none) (hp : H' p = some o) (s : ¬ Soft o) : Stp G H (upd G' p o) H' :=
  ⟨fun x q => by rw [upd_ne (fun z => q (by rw [z]; exact h))]; exact a.old x q, a.kp, fun x u q => by
    by_cases z : x = p
    · subst z
      rw [upd_same] at q
      cases q
      exact ⟨hp, s⟩
    · rw [upd_ne z] at q
      exact a.ex x u q⟩
theorem Stp.new {G H : Hp} {p : Addr} {o : HO} (h : ∀ a o, G a = some o → H a = some o ∧ ¬ Soft o) (hp : H p = none) : Stp G H G (upd H p o) :=
  ⟨fun _ _ => rfl, Keep.new hp, fun a u e => ⟨by rw [upd_ne (ne_of_none (h a u e).1 hp)]; exact (h a u e).1, (h a u e).2⟩⟩
theorem sub_upd {G : Hp} {p : Addr} {o : HO} (h : G p = none) : Sub G (upd G p o) := fun a u e => by rw [upd_ne (ne_of_none e h)]; exact e
theorem Stp.none {G H G' H' : Hp} (a : Stp G H G' H') {p : Addr} (h : H p ≠ Option.none) (q : G p = Option.none) : G' p = Option.none := (a.old p h).trans q
theorem back_none {H H' : Hp} (k : Keep H H') {p : Addr} (h : H' p = none) : H p = none := by
  cases q : H p with
  | none => rfl
  | some o => exact absurd h (k.there p (by rw [q]; simp))
/-! ### relations -/
structure Own (K : PySem.W.Frag) (H0 G H : Hp) (ds : List D) (v : V) : Prop where
  ex : ∃ p vs, v = .ref p ∧ H p = some (.lst vs) ∧ RepAll K G vs ds ∧ G p = none ∧ H0 p = none
def RR (K : PySem.W.Frag) (H0 G H : Hp) : R → V → Prop
  | .val d, v => Rep K G v d
  | .own ds, v => Own K H0 G H ds v
  | .peek ds, v => Own K H0 G H ds v
  | .gen, v => ∃ g n, v = .ref g ∧ H g = some (GenO g n)
/-- what is new is new -/
def RF (H : Hp) : R → V → Prop
  | .own _, v => ∃ p, v = .ref p ∧ H p = none
  | _, _ => True
theorem not_soft_lst {xs : List V} : ¬ Soft (.lst xs) := fun h => h
theorem not_soft_tup {xs : List V} : ¬ Soft (.tup xs) := fun h => h
theorem Own.step {K : PySem.W.Frag} {H0 G H G' H' : Hp} {ds : List D} {v : V} (h : ∀ a o, G a = some o → H a = some o ∧ ¬ Soft o) (s : Stp G H G' H') (o : Own K H0 G H ds v) : Own K H0 G' H' ds v := by
  obtain ⟨p, vs, e, hp, r, g, h0⟩ := o.ex
  exact ⟨p, vs, e, s.kp.hard _ _ hp not_soft_lst, r.mono (s.sub h), s.none (by rw [hp]; simp) g, h0⟩
theorem RR.step {K : PySem.W.Frag} {H0 G H G' H' : Hp} {r : R} {v : V} (h : ∀ a o, G a = some o → H a = some o ∧ ¬ Soft o) (s : Stp G H G' H') (o : RR K H0 G H r v) : RR K H0 G' H' r v := by
  cases r with
  | val d => exact Rep.mono (s.sub h) o
  | own ds => exact Own.step h s o
  | peek ds => exact Own.step h s o
  | gen =>
    obtain ⟨g, n, e, q⟩ := o
    obtain ⟨m, q'⟩ := s.kp.gens g n q
    exact ⟨g, m, e, q'⟩
structure Env where
  sl : List (Option R)
  β : Nat
/-- the base: G0, H0 as they stood at the entry -/
structure Ba where
  G : Hp
  H : Hp
/-- the state of a def's frame -/
structure FS (K : PySem.W.Frag) (B : Ba) (G : Hp) (ρ : Env) (σ : SL) (H : Hp) : Prop where
  stp : Stp B.G B.H G H
  bd : Bud H ρ.β
  len : ρ.sl.length = σ.length
  sl : ∀ (i : Nat) (r : R), ρ.sl[i]? = some (some r) → ∃ v, σ[i]? = some (some v) ∧ RR K B.H G H r v
  ow : ∀ (i j : Nat) (ds es : List D) (p : Addr), ρ.sl[i]? = some (some (.own ds)) → ρ.sl[j]? = some (some (.own es)) → σ[i]? = some (some (.ref p)) → σ[j]? = some (some (.ref p)) → i = j
  np : ∀ (i : Nat) (ds : List D), ρ.sl[i]? ≠ some (some (.peek ds))
theorem FS.ex {K : PySem.W.Frag} {B : Ba} {G : Hp} {ρ : Env} {σ : SL} {H : Hp} (s : FS K B G ρ σ H) : ∀ a o, G a = some o → H a = some o ∧ ¬ Soft o := s.stp.ex
theorem FS.step {K : PySem.W.Frag} {B : Ba} {G G' : Hp} {ρ : Env} {σ : SL} {H H' : Hp} {β : Nat} (s : FS K B G ρ σ H) (q : Stp G H G' H') (b : Bud H' β) : FS K B G' ⟨ρ.sl, β⟩ σ H' :=
  ⟨s.stp.trans q, b, s.len, fun i r e => by
    obtain ⟨v, e1, rr⟩ := s.sl i r e
    exact ⟨v, e1, rr.step s.ex q⟩, s.ow, s.np⟩
/-! ### readings over data, and what they are over the heap -/
abbrev DE := Env → (R → Nat → Prop) → Prop
abbrev DT := Env → (Bool → Nat → Prop) → Prop
abbrev DA := Env → (List R → Nat → Prop) → Prop
structure DEnds where
  nx : Env → Prop
  rt : R → Env → Prop
  bk : Env → Prop := fun _ => False
  ct : Env → Prop := fun _ => False
abbrev DS := DEnds → Env → Prop
section
variable (K : PySem.W.Frag) (B : Ba)
def LE (t : DE) : TE := fun σ H Q => ∃ G ρ P, FS K B G ρ σ H ∧ t ρ P ∧ ∀ r β', P r β' → ∀ v H' G', Stp G H G' H' → Bud H' β' → RR K B.H G' H' r v → RF H r v → Q v H'
def LT (t : DT) : TT := fun σ H Q => ∃ G ρ P, FS K B G ρ σ H ∧ t ρ P ∧ ∀ b β', P b β' → ∀ H' G', Stp G H G' H' → Bud H' β' → Q b H'
inductive RRs (H0 G H : Hp) : List R → List V → Prop
  | nil : RRs H0 G H [] []
  | cons {r : R} {rs : List R} {v : V} {vs : List V} : RR K H0 G H r v → RRs H0 G H rs vs → RRs H0 G H (r :: rs) (v :: vs)
def LA (t : DA) : TA := fun σ H Q => ∃ G ρ P, FS K B G ρ σ H ∧ t ρ P ∧ ∀ rs β', P rs β' → ∀ vs H' G', Stp G H G' H' → Bud H' β' → RRs K B.H G' H' rs vs → Q vs H'
structure ExRel (G' H' : Hp) (d : D) (p : Addr) (β : Nat) : Prop where
  stp : Stp B.G B.H G' H'
  bd : Bud H' β
  rr : ∃ v, H' p = some (.xd [(("value" : Str), v)]) ∧ Rep K G' v d
structure Le (G : Hp) (d : DEnds) (D : Ends) : Prop where
  nx : ∀ σ' H' G' ρ', Sub G G' → FS K B G' ρ' σ' H' → d.nx ρ' → D.nx σ' H'
  bk : ∀ σ' H' G' ρ', Sub G G' → FS K B G' ρ' σ' H' → d.bk ρ' → D.bk σ' H'
  ct : ∀ σ' H' G' ρ', Sub G G' → FS K B G' ρ' σ' H' → d.ct ρ' → D.ct σ' H'
  rt : ∀ v σ' H' G' r ρ', FS K B G' ρ' σ' H' → RR K B.H G' H' r v → d.rt r ρ' → D.rt v H'
/-- what is wanted of an exception, over data and over the heap -/
def HX (EX : Addr → D → Nat → Prop) (E : XK) : Prop := ∀ C d β H' G' p, ExRel K B G' H' d p β → EX C d β → E (.ref C) (some p) H'
def LS (t : DS) : TS := fun D σ H => ∃ G ρ d, FS K B G ρ σ H ∧ t d ρ ∧ Le K B G d D
end
section
variable {K : PySem.W.Frag} {B : Ba} {E : XK}
theorem RRs.step {H0 G H G' H' : Hp} (h : ∀ a o, G a = some o → H a = some o ∧ ¬ Soft o) (s : Stp G H G' H') : ∀ {rs : List R} {vs : List V}, RRs K H0 G H rs vs → RRs K H0 G' H' rs vs
  | _, _, .nil => .nil
  | _, _, .cons a t => .cons (a.step h s) (t.step h s)
theorem Sub.refl (G : Hp) : Sub G G := fun _ _ h => h
theorem Sub.trans {G G1 G2 : Hp} (a : Sub G G1) (b : Sub G1 G2) : Sub G G2 := fun x o h => b x o (a x o h)
theorem Le.mono {G G1 : Hp} {d : DEnds} {D : Ends} (l : Le K B G d D) (s : Sub G G1) : Le K B G1 d D :=
  ⟨fun σ' H' G' ρ' q => l.nx σ' H' G' ρ' (s.trans q), fun σ' H' G' ρ' q => l.bk σ' H' G' ρ' (s.trans q), fun σ' H' G' ρ' q => l.ct σ' H' G' ρ' (s.trans q), l.rt⟩
end
section
variable {X : Cx} {B : Ba} {E : XK} {e : Expr} {te te' : TE} {tt tt' : TT} {ts ts' : TS}
theorem PEi (h : PE X e te) (i : ∀ σ H Q, te' σ H Q → te σ H Q) : PE X e te' := ⟨fun pins s σ H Q I q => h.run pins s σ H Q I (i σ H Q q)⟩
theorem PTi (h : PT X e tt) (i : ∀ σ H Q, tt' σ H Q → tt σ H Q) : PT X e tt' := ⟨fun pins s σ H Q I q => h.run pins s σ H Q I (i σ H Q q)⟩
theorem PWi (h : PW X e tt) (i : ∀ σ H Q, tt' σ H Q → tt σ H Q) : PW X e tt' := ⟨fun w pins s σ H Q I q => h.run w pins s σ H Q I (i σ H Q q)⟩
theorem PAi {es : List Expr} {ta ta' : TA} (h : PA X es ta) (i : ∀ σ H Q, ta' σ H Q → ta σ H Q) : PA X es ta' := ⟨fun p pins s σ H Q I q => h.run p pins s σ H Q I (i σ H Q q)⟩
theorem PSi {st : Stmt} (h : PS X st ts) (i : ∀ D σ H, ts' D σ H → ts D σ H) : PS X st ts' := ⟨fun pins s σ H D I q => h.run pins s σ H D I (i D σ H q)⟩
theorem PSsi {st : List Stmt} (h : PSs X st ts) (i : ∀ D σ H, ts' D σ H → ts D σ H) : PSs X st ts' := ⟨fun pins s σ H D I q => h.run pins s σ H D I (i D σ H q)⟩
end
end DL
namespace DL
open PySem L2
/-! ### names, constants -/
def pk : R → R
  | .own ds => .peek ds
  | r => r
def dVar (i : Nat) : DE := fun ρ Q => ∃ r, ρ.sl[i]? = some (some r) ∧ Q (pk r) ρ.β
def dC (d : D) : DE := fun ρ Q => Q (.val d) ρ.β
abbrev ExG (G H : Hp) : Prop := ∀ a o, G a = some o → H a = some o ∧ ¬ Soft o
section
variable {X : Cx} {K : PySem.W.Frag} {B : Ba} {pos : Pos} {a b c e : Expr} {ta tb tc te : DE} {tA tB' : DT} {σ : SL} {H : Hp} {Q : VK} {rest : List Expr}
theorem RF.back {H H1 : Hp} (k : Keep H H1) {r : R} {v : V} (h : RF H1 r v) : RF H r v := by
  cases r with
  | own ds =>
    obtain ⟨p, e, q⟩ := h
    exact ⟨p, e, back_none k q⟩
  | _ => trivial
theorem le_var {i : Nat} (h : LE K B (dVar i) σ H Q) : tVar i σ H Q := by
  obtain ⟨G, ρ, P, s, ⟨r, e, q⟩, w⟩ := h
  obtain ⟨v, ev, rr⟩ := s.sl i r e
  refine ⟨v, ev, w _ _ q v H G (Stp.refl s.ex) s.bd ?_ ?_⟩
  · cases r <;> exact rr
  · cases r <;> trivial
theorem de_var (i : Nat) {x : Str} {pos : Pos} (hN : X.N[i]? = some x := by rfl) (hv : Vis X.env.scope x := by first | exact Or.inl rfl | exact Or.inr (Or.inl rfl) | exact Or.inr (Or.inr rfl)) (hd : (x == ("__debug__" : Str)) = false := by decide)
    (hcd : (x == ("__classdict__" : Str)) = false := by decide) : PE X (.Name x pos) (LE X.K B (dVar i)) := PEi (pe_var hN hv hd hcd) fun _ _ _ => le_var
theorem le_c {v : V} {d : D} (r : ∀ G, Rep K G v d) (h : LE K B (dC d) σ H Q) : tC v σ H Q := by
  obtain ⟨G, ρ, P, s, q, w⟩ := h
  exact w _ _ q v H G (Stp.refl s.ex) s.bd (r G) trivial
theorem de_int {i j pos} : PE X (.Constant (.int i) j pos) (LE X.K B (dC (.int i))) := PEi pe_int fun _ _ _ => le_c fun _ => .int i
theorem de_bl {b j pos} : PE X (.Constant (.bool b) j pos) (LE X.K B (dC (.bl b))) := PEi pe_bl fun _ _ _ => le_c fun _ => .bl b
theorem de_non {j pos} : PE X (.Constant .none j pos) (LE X.K B (dC .non)) := PEi pe_non fun _ _ _ => le_c fun _ => .non
theorem de_str {x j pos} : PE X (.Constant (.str x) j pos) (LE X.K B (dC (.str x))) := PEi pe_str fun _ _ _ => le_c fun _ => .str x
/-- a module's constant -/
theorem de_glob {x : Str} {v : V} {d : D} {u : Value} {pos : Pos} (hg : Gl X x) (hm : X.mg x = some u) (r : RelV v u) (rp : ∀ G, Rep X.K G v d) (hd : (x == ("__debug__" : Str)) = false := by decide) : PE X (.Name x pos) (LE X.K B (dC d)) :=
  PEi (pe_glob hg hm r hd) fun _ _ _ => le_c rp
/-! ### two-place operations on values -/
abbrev F2 := R → R → (R → Prop) → Prop
abbrev F1 := R → (R → Prop) → Prop
/-- what f says over data, r says over the heap -/
def OpC (K : PySem.W.Frag) (r : R2) (f : F2) : Prop :=
  ∀ (H0 G H : Hp) (a b : R) (v w : V) (Q' : R → Prop) (Q : VK), ExG G H → Keep H0 H → RR K H0 G H a v → RR K H0 G H b w → f a b Q' →
    (∀ z u H' G', Stp G H G' H' → (∀ β, Bud H β → Bud H' β) → RR K H0 G' H' z u → RF H z u → Q' z → Q u H') → r v w H Q
/-- one value -/
def UnC (K : PySem.W.Frag) (r : V → Hp → VK → Prop) (f : F1) : Prop :=
  ∀ (H0 G H : Hp) (a : R) (v : V) (Q' : R → Prop) (Q : VK), ExG G H → Keep H0 H → RR K H0 G H a v → f a Q' →
    (∀ z u H' G', Stp G H G' H' → (∀ β, Bud H β → Bud H' β) → RR K H0 G' H' z u → RF H z u → Q' z → Q u H') → r v H Q
def dBin (f : F2) (ta tb : DE) : DE := fun ρ Q => ta ρ fun x β => tb ⟨ρ.sl, β⟩ fun y β' => f x y fun z => Q z β'
def dUn (f : F1) (ta : DE) : DE := fun ρ Q => ta ρ fun x β => f x fun z => Q z β
theorem le_op {r : R2} {f : F2} (c : OpC K r f) (h : LE K B (dBin f ta tb) σ H Q) : tOp r (LE K B ta) (LE K B tb) σ H Q := by
  obtain ⟨G, ρ, P, s, h, w⟩ := h
  refine ⟨G, ρ, _, s, h, fun x β hx v H1 G1 s1 b1 r1 f1 => ⟨G1, ⟨ρ.sl, β⟩, _, s.step s1 b1, hx, fun y β' hy u H2 G2 s2 b2 r2 f2 => ?_⟩⟩
  refine c B.H G2 H2 x y v u _ _ s2.ex ((s.stp.kp.trans s1.kp).trans s2.kp) (r1.step s1.ex s2) r2 hy fun z zv H3 G3 s3 b3 r3 f3 q => ?_
  exact w z β' q zv H3 G3 ((s1.trans s2).trans s3) (b3 _ b2) r3 (f3.back (s1.kp.trans s2.kp))
theorem le_un {r : V → Hp → VK → Prop} {f : F1} (c : UnC K r f) (h : LE K B (dUn f ta) σ H Q) : tUn r (LE K B ta) σ H Q := by
  obtain ⟨G, ρ, P, s, h, w⟩ := h
  refine ⟨G, ρ, _, s, h, fun x β hx v H1 G1 s1 b1 r1 f1 => ?_⟩
  refine c B.H G1 H1 x v _ _ s1.ex (s.stp.kp.trans s1.kp) r1 hx fun z zv H3 G3 s3 b3 r3 f3 q => ?_
  exact w z β q zv H3 G3 (s1.trans s3) (b3 _ b1) r3 (f3.back s1.kp)
theorem de_op {op : Operator} {r : R2} {f : F2} (ho : OpR X (binaryOp op) r) (c : OpC X.K r f) (ha : PE X a (LE X.K B ta)) (hb : PE X b (LE X.K B tb)) : PE X (.BinOp a op b pos) (LE X.K B (dBin f ta tb)) :=
  PEi (pe_op ho ha hb) fun _ _ _ => le_op c
theorem de_un {op : UnaryOp} {r : V → Hp → VK → Prop} {f : F1} (ho : UnR X (unaryOp op) r) (c : UnC X.K r f) (ha : PE X a (LE X.K B ta)) : PE X (.UnaryOp op a pos) (LE X.K B (dUn f ta)) :=
  PEi (pe_un ho ha) fun _ _ _ => le_un c
theorem de_cmp {op : CmpOp} {r : R2} {f : F2} (ho : OpR X (compareOp op) r) (c : OpC X.K r f) (ha : PE X a (LE X.K B ta)) (hb : PE X b (LE X.K B tb)) (hm : behindInMarks op b = false := by first | exact nomark _ | rfl) : PE X (.Compare a [op] [b] pos) (LE X.K B (dBin f ta tb)) :=
  PEi (pe_cmpR ho ha hb hm) fun _ _ _ => le_op c
/-- a bool as a test -/
def dTest (te : DE) : DT := fun ρ Q => te ρ fun r β => ∃ b, r = .val (.bl b) ∧ Q b β
theorem lt_test {Q : Bool → Hp → Prop} (h : LT K B (dTest te) σ H Q) : LE K B te σ H fun x H' => ∃ k, x = .bl k ∧ Q k H' := by
  obtain ⟨G, ρ, P, s, h, w⟩ := h
  refine ⟨G, ρ, _, s, h, fun x β hx v H1 G1 s1 b1 r1 f1 => ?_⟩
  obtain ⟨b, rfl, hx⟩ := hx
  cases r1
  exact ⟨b, rfl, w b β hx H1 G1 s1 b1⟩
theorem dt_cmp {op : CmpOp} {r : R2} {f : F2} (ho : OpR X (compareOp op) r) (c : OpC X.K r f) (ha : PE X a (LE X.K B ta)) (hb : PE X b (LE X.K B tb)) (hm : behindInMarks op b = false := by first | exact nomark _ | rfl) : PT X (.Compare a [op] [b] pos) (LT X.K B (dTest (dBin f ta tb))) :=
  PTi (pt_cmpR ho ha hb hm) fun σ H Q h => le_op c (lt_test h)
theorem dt_val (h : PE X e (LE X.K B te)) (he : ∀ whole, isTrue e X.env whole = (do let v ← whole; standAt e.pos; holding [v] (truthy v)) := by intro _; rfl) : PT X e (LT X.K B (dTest te)) :=
  PTi (pt_val h he) fun σ H Q h => lt_test h
/-! ### and, or, not -/
def dAnd (t u : DT) : DT := fun ρ Q => t ρ fun c β => if c = true then u ⟨ρ.sl, β⟩ Q else Q false β
def dOr (t u : DT) : DT := fun ρ Q => t ρ fun c β => if c = true then Q true β else u ⟨ρ.sl, β⟩ Q
def dNot (t : DT) : DT := fun ρ Q => t ρ fun c β => Q (!c) β
theorem lt_and {Q : Bool → Hp → Prop} (h : LT K B (dAnd tA tB') σ H Q) : tAnd (LT K B tA) (LT K B tB') σ H Q := by
  obtain ⟨G, ρ, P, s, h, w⟩ := h
  refine ⟨G, ρ, _, s, h, fun c β hc H1 G1 s1 b1 => ?_⟩
  cases c with
  | true =>
    rw [if_pos rfl] at hc ⊢
    exact ⟨G1, ⟨ρ.sl, β⟩, P, s.step s1 b1, hc, fun b β' hb H2 G2 s2 b2 => w b β' hb H2 G2 (s1.trans s2) b2⟩
  | false =>
    rw [if_neg Bool.false_ne_true] at hc ⊢
    exact w _ _ hc H1 G1 s1 b1
theorem lt_or {Q : Bool → Hp → Prop} (h : LT K B (dOr tA tB') σ H Q) : tOr (LT K B tA) (LT K B tB') σ H Q := by
  obtain ⟨G, ρ, P, s, h, w⟩ := h
  refine ⟨G, ρ, _, s, h, fun c β hc H1 G1 s1 b1 => ?_⟩
  cases c with
  | false =>
    rw [if_neg Bool.false_ne_true] at hc ⊢
    exact ⟨G1, ⟨ρ.sl, β⟩, P, s.step s1 b1, hc, fun b β' hb H2 G2 s2 b2 => w b β' hb H2 G2 (s1.trans s2) b2⟩
  | true =>
    rw [if_pos rfl] at hc ⊢
    exact w _ _ hc H1 G1 s1 b1
theorem lt_not {Q : Bool → Hp → Prop} (h : LT K B (dNot tA) σ H Q) : tNot (LT K B tA) σ H Q := by
  obtain ⟨G, ρ, P, s, h, w⟩ := h
  exact ⟨G, ρ, _, s, h, fun c β hc H1 G1 s1 b1 => w _ _ hc H1 G1 s1 b1⟩
theorem dw_and1 (ha : PT X a (LT X.K B tA)) : PW X (.BoolOp .And [a] pos) (LT X.K B tA) := pw_and1 ha
theorem dw_or1 (ha : PT X a (LT X.K B tA)) : PW X (.BoolOp .Or [a] pos) (LT X.K B tA) := pw_or1 ha
theorem dw_and (ha : PT X a (LT X.K B tA)) (hb : PW X (.BoolOp .And (b :: rest) pos) (LT X.K B tB')) : PW X (.BoolOp .And (a :: b :: rest) pos) (LT X.K B (dAnd tA tB')) := PWi (pw_and ha hb) fun _ _ _ => lt_and
theorem dw_or (ha : PT X a (LT X.K B tA)) (hb : PW X (.BoolOp .Or (b :: rest) pos) (LT X.K B tB')) : PW X (.BoolOp .Or (a :: b :: rest) pos) (LT X.K B (dOr tA tB')) := PWi (pw_or ha hb) fun _ _ _ => lt_or
theorem dt_not (ha : PT X a (LT X.K B tA)) : PT X (.UnaryOp .Not a pos) (LT X.K B (dNot tA)) := PTi (pt_not ha) fun _ _ _ => lt_not
/-- as values -/
def dAndV (ta tb : DE) : DE := fun ρ Q => ta ρ fun x β => ∃ c, x = .val (.bl c) ∧ if c = true then tb ⟨ρ.sl, β⟩ Q else Q (.val (.bl false)) β
def dOrV (ta tb : DE) : DE := fun ρ Q => ta ρ fun x β => ∃ c, x = .val (.bl c) ∧ if c = true then Q (.val (.bl true)) β else tb ⟨ρ.sl, β⟩ Q
def dNotV (ta : DE) : DE := fun ρ Q => ta ρ fun x β => ∃ c, x = .val (.bl c) ∧ Q (.val (.bl (!c))) β
theorem LE.cont {G1 : Hp} {ρ : Env} {β : Nat} {P : R → Nat → Prop} {H1 G : Hp} (s : FS K B G1 ⟨ρ.sl, β⟩ σ H1) (h : ta ⟨ρ.sl, β⟩ P) (s1 : Stp G H G1 H1)
    (w : ∀ r β', P r β' → ∀ v H' G', Stp G H G' H' → Bud H' β' → RR K B.H G' H' r v → RF H r v → Q v H') : LE K B ta σ H1 Q :=
  ⟨G1, _, P, s, h, fun r β' hr v H2 G2 s2 b2 r2 f2 => w r β' hr v H2 G2 (s1.trans s2) b2 r2 (f2.back s1.kp)⟩
theorem le_andV (h : LE K B (dAndV ta tb) σ H Q) : tAndV (LE K B ta) (LE K B tb) σ H Q := by
  obtain ⟨G, ρ, P, s, h, w⟩ := h
  refine ⟨G, ρ, _, s, h, fun x β hx v H1 G1 s1 b1 r1 f1 => ?_⟩
  obtain ⟨c, rfl, hx⟩ := hx
  cases r1
  refine ⟨c, rfl, ?_⟩
  cases c with
  | true =>
    rw [if_pos rfl] at hx ⊢
    exact LE.cont (s.step s1 b1) hx s1 w
  | false =>
    rw [if_neg Bool.false_ne_true] at hx ⊢
    exact w _ _ hx _ H1 G1 s1 b1 (.bl false) trivial
theorem le_orV (h : LE K B (dOrV ta tb) σ H Q) : tOrV (LE K B ta) (LE K B tb) σ H Q := by
  obtain ⟨G, ρ, P, s, h, w⟩ := h
  refine ⟨G, ρ, _, s, h, fun x β hx v H1 G1 s1 b1 r1 f1 => ?_⟩
  obtain ⟨c, rfl, hx⟩ := hx
  cases r1
  refine ⟨c, rfl, ?_⟩
  cases c with
  | false =>
    rw [if_neg Bool.false_ne_true] at hx ⊢
    exact LE.cont (s.step s1 b1) hx s1 w
  | true =>
    rw [if_pos rfl] at hx ⊢
    exact w _ _ hx _ H1 G1 s1 b1 (.bl true) trivial
theorem le_notV (h : LE K B (dNotV ta) σ H Q) : tNotV (LE K B ta) σ H Q := by
  obtain ⟨G, ρ, P, s, h, w⟩ := h
  refine ⟨G, ρ, _, s, h, fun x β hx v H1 G1 s1 b1 r1 f1 => ?_⟩
  obtain ⟨c, rfl, hx⟩ := hx
  cases r1
  exact ⟨c, rfl, w _ _ hx _ H1 G1 s1 b1 (.bl _) trivial⟩
theorem de_one {op} (h : PE X a (LE X.K B ta)) : PE X (.BoolOp op [a] pos) (LE X.K B ta) := pe_one h
theorem de_and (ha : PE X a (LE X.K B ta)) (hb : PE X (.BoolOp .And (b :: rest) pos) (LE X.K B tb)) : PE X (.BoolOp .And (a :: b :: rest) pos) (LE X.K B (dAndV ta tb)) := PEi (pe_and ha hb) fun _ _ _ => le_andV
theorem de_or (ha : PE X a (LE X.K B ta)) (hb : PE X (.BoolOp .Or (b :: rest) pos) (LE X.K B tb)) : PE X (.BoolOp .Or (a :: b :: rest) pos) (LE X.K B (dOrV ta tb)) := PEi (pe_or ha hb) fun _ _ _ => le_orV
theorem de_not (ha : PE X a (LE X.K B ta)) : PE X (.UnaryOp .Not a pos) (LE X.K B (dNotV ta)) := PEi (pe_not ha) fun _ _ _ => le_notV
def dIf (t : DT) (ta tb : DE) : DE := fun ρ Q => t ρ fun c β => if c = true then ta ⟨ρ.sl, β⟩ Q else tb ⟨ρ.sl, β⟩ Q
theorem le_if (h : LE K B (dIf tA ta tb) σ H Q) : tIf (LT K B tA) (LE K B ta) (LE K B tb) σ H Q := by
  obtain ⟨G, ρ, P, s, h, w⟩ := h
  refine ⟨G, ρ, _, s, h, fun c β hc H1 G1 s1 b1 => ?_⟩
  cases c with
  | true =>
    rw [if_pos rfl] at hc ⊢
    exact LE.cont (s.step s1 b1) hc s1 w
  | false =>
    rw [if_neg Bool.false_ne_true] at hc ⊢
    exact LE.cont (s.step s1 b1) hc s1 w
theorem de_if (hc : PT X c (LT X.K B tA)) (ha : PE X a (LE X.K B ta)) (hb : PE X b (LE X.K B tb)) : PE X (.IfExp c a b pos) (LE X.K B (dIf tA ta tb)) := PEi (pe_ifExp hc ha hb) fun _ _ _ => le_if
/-- a < b < c -/
def dChain (f f' : F2) (ta tb tc : DE) : DE := fun ρ Q => ta ρ fun x β => tb ⟨ρ.sl, β⟩ fun y β1 => f x y fun z => ∃ k, z = .val (.bl k) ∧ if k = true then tc ⟨ρ.sl, β1⟩ (fun u β2 => f' y u fun z2 => Q z2 β2) else Q (.val (.bl false)) β1
theorem le_chain {r r' : R2} {f f' : F2} (hc : OpC K r f) (hc' : OpC K r' f') (h : LE K B (dChain f f' ta tb tc) σ H Q) : tChain r r' (LE K B ta) (LE K B tb) (LE K B tc) σ H Q := by
  obtain ⟨G, ρ, P, s, h, w⟩ := h
  refine ⟨G, ρ, _, s, h, fun x β hx v H1 G1 s1 b1 r1 f1 => ⟨G1, ⟨ρ.sl, β⟩, _, s.step s1 b1, hx, fun y β' hy u H2 G2 s2 b2 r2 f2 => ?_⟩⟩
  have F1 := s.step s1 b1
  have F2 := F1.step (β := β') s2 b2
  refine hc B.H G2 H2 x y v u _ _ s2.ex F2.stp.kp (r1.step s1.ex s2) r2 hy fun z zv H3 G3 s3 b3 r3 f3 q => ?_
  obtain ⟨k, rfl, q⟩ := q
  cases r3
  refine ⟨k, rfl, ?_⟩
  have F3 := F2.step s3 (b3 _ b2)
  cases k with
  | true =>
    rw [if_pos rfl] at q ⊢
    refine ⟨G3, ⟨ρ.sl, β'⟩, _, F3, q, fun u' β2 hu v' H4 G4 s4 b4 r4 f4 => ?_⟩
    refine hc' B.H G4 H4 y u' u v' _ _ s4.ex (F3.stp.kp.trans s4.kp) ((r2.step s2.ex s3).step s3.ex s4) r4 hu fun z2 zv2 H5 G5 s5 b5 r5 f5 q2 => ?_
    exact w z2 β2 q2 zv2 H5 G5 ((((s1.trans s2).trans s3).trans s4).trans s5) (b5 _ b4) r5 (f5.back (((s1.kp.trans s2.kp).trans s3.kp).trans s4.kp))
  | false =>
    rw [if_neg Bool.false_ne_true] at q ⊢
    exact w _ _ q _ H3 G3 ((s1.trans s2).trans s3) (b3 _ b2) (.bl false) trivial
theorem de_chain {op op' : CmpOp} {r r' : R2} {f f' : F2} (ho : OpR X (compareOp op) r) (c1 : OpC X.K r f) (ho' : OpR X (compareOp op') r') (c2 : OpC X.K r' f') (ha : PE X a (LE X.K B ta)) (hb : PE X b (LE X.K B tb)) (hc : PE X c (LE X.K B tc))
    (hm : lastMarks [op, op'] [b, c] = false := by with_unfolding_all rfl) : PE X (.Compare a [op, op'] [b, c] pos) (LE X.K B (dChain f f' ta tb tc)) := PEi (pe_chain ho ho' ha hb hc hm) fun _ _ _ => le_chain c1 c2
theorem dt_chain {op op' : CmpOp} {r r' : R2} {f f' : F2} (ho : OpR X (compareOp op) r) (c1 : OpC X.K r f) (ho' : OpR X (compareOp op') r') (c2 : OpC X.K r' f') (ha : PE X a (LE X.K B ta)) (hb : PE X b (LE X.K B tb)) (hc : PE X c (LE X.K B tc))
    (hm : lastMarks [op, op'] [b, c] = false := by with_unfolding_all rfl) : PT X (.Compare a [op, op'] [b, c] pos) (LT X.K B (dTest (dChain f f' ta tb tc))) := PTi (pt_chain ho ho' ha hb hc hm) fun _ _ _ h => le_chain c1 c2 (lt_test h)
/-! ### argument lists: every value is frozen -/
def dur : F1
  | .val d, Q => Q (.val d)
  | .own ds, Q => Q (.val (.lst ds))
  | .gen, Q => Q .gen
  | .peek _, _ => False
def durV : R → (D → Prop) → Prop
  | .val d, Q => Q d
  | .own ds, Q => Q (.lst ds)
  | _, _ => False
def dNil : DA := fun ρ Q => Q [] ρ.β
def dCons (te : DE) (ta : DA) : DA := fun ρ Q => te ρ fun r β => dur r fun r' => ta ⟨ρ.sl, β⟩ fun rs β' => Q (r' :: rs) β'
theorem dur_step {H0 G H G' H' : Hp} {r : R} {v : V} {Q' : R → Prop} (s1 : Stp G H G' H') (rr : RR K H0 G' H' r v) (rf : RF H r v) (q : dur r Q') :
    ∃ G2 r', Stp G H G2 H' ∧ Stp G' H' G' H' ∧ (∀ H0', RR K H0' G2 H' r' v) ∧ Sub G' G2 ∧ Q' r' := by
  cases r with
  | val d => exact ⟨G', .val d, s1, Stp.refl s1.ex, fun _ => (show Rep K G' v d from rr), fun _ _ h => h, q⟩
  | own ds =>
    obtain ⟨p, vs, e, hp, rs, g, h0⟩ := rr.ex
    obtain ⟨p', e', hn⟩ := rf
    have e3 : p = p' := by
      rw [e] at e'
      exact V.ref.inj e'
    subst e3
    refine ⟨upd G' p (.lst vs), .val (.lst ds), s1.freeze hn hp not_soft_lst, Stp.refl s1.ex, fun _ => ?_, sub_upd g, q⟩
    rw [e]
    exact Rep.lst (.inl (.inl upd_same)) (rs.mono (sub_upd g))
  | gen => exact ⟨G', .gen, s1, Stp.refl s1.ex, fun _ => (show ∃ g n, v = V.ref g ∧ H' g = some (GenO g n) from rr), fun _ _ h => h, q⟩
  | peek ds => exact q.elim
theorem la_nil {Q : List V → Hp → Prop} (h : LA K B dNil σ H Q) : tNil σ H Q := by
  obtain ⟨G, ρ, P, s, h, w⟩ := h
  exact w _ _ h [] H G (Stp.refl s.ex) s.bd .nil
theorem la_cons {t : DA} {Q : List V → Hp → Prop} (h : LA K B (dCons te t) σ H Q) : tCons (LE K B te) (LA K B t) σ H Q := by
  obtain ⟨G, ρ, P, s, h, w⟩ := h
  refine ⟨G, ρ, _, s, h, fun r β hr v H1 G1 s1 b1 r1 f1 => ?_⟩
  obtain ⟨G2, r', s2, _, rr, sb, q⟩ := dur_step s1 r1 f1 hr
  refine ⟨G2, ⟨ρ.sl, β⟩, _, s.step s2 b1, q, fun rs β' hq vs H3 G3 s3 b3 r3 => ?_⟩
  exact w _ β' hq _ H3 G3 (s2.trans s3) b3 (.cons ((rr B.H).step s2.ex s3) r3)
theorem da_nil : PA X [] (LA X.K B dNil) := PAi pa_nil fun _ _ _ => la_nil
theorem da_cons {es : List Expr} {t : DA} (ha : PE X e (LE X.K B te)) (hr : PA X es (LA X.K B t)) (hs : starEach (e :: es) X.env = (false, eval e X.env) :: starEach es X.env := by rfl) : PA X (e :: es) (LA X.K B (dCons te t)) :=
  PAi (pa_cons ha hr hs) fun _ _ _ => la_cons
/-! ### displays -/
def vals : List R → Option (List D)
  | [] => some []
  | .val d :: rs => (vals rs).map (d :: ·)
  | _ :: _ => none
theorem vals_rep {H0 G H : Hp} : ∀ {rs : List R} {vs : List V} {ds : List D}, RRs K H0 G H rs vs → vals rs = some ds → RepAll K G vs ds
  | _, _, _, .nil, e => by
    cases e
    exact .nil
  | r :: rs, _, _, .cons a t, e => by
    cases r with
    | val d =>
      unfold vals at e
      cases q : vals rs with
      | none => rw [q] at e; cases e
      | some es =>
        rw [q] at e
        cases e
        exact .cons a (vals_rep t q)
    | own _ => cases e
    | peek _ => cases e
    | gen => cases e
theorem vals_len : ∀ {rs : List R} {ds : List D}, vals rs = some ds → rs.length = ds.length
  | [], _, e => by cases e; rfl
  | r :: rs, ds, e => by
    cases r with
    | val d =>
      unfold vals at e
      cases q : vals rs with
      | none => rw [q] at e; cases e
      | some es =>
        rw [q] at e
        cases e
        exact congrArg (· + 1) (vals_len q)
    | own _ => cases e
    | peek _ => cases e
    | gen => cases e
theorem RRs.length {H0 G H : Hp} : ∀ {rs : List R} {vs : List V}, RRs K H0 G H rs vs → rs.length = vs.length
  | _, _, .nil => rfl
  | _, _, .cons _ t => congrArg (· + 1) t.length
def dTup (t : DA) : DE := fun ρ Q => t ρ fun rs β => ∃ ds, vals rs = some ds ∧ ds.length ≤ 1000 ∧ Q (.val (.tup ds)) β
def dLst (t : DA) : DE := fun ρ Q => t ρ fun rs β => ∃ ds, vals rs = some ds ∧ ds.length ≤ 1000 ∧ Q (.own ds) β
theorem le1000 {n : Nat} (h : n ≤ 1000) : n ≤ sizeLine := Nat.le_trans h (by decide)
theorem le_tup {t : DA} (h : LE K B (dTup t) σ H Q) : tTup (LA K B t) σ H Q := by
  obtain ⟨G, ρ, P, s, h, w⟩ := h
  refine ⟨G, ρ, _, s, h, fun rs β hr vs H1 G1 s1 b1 r1 => ?_⟩
  obtain ⟨ds, e, hl, q⟩ := hr
  have rep := vals_rep r1 e
  refine ⟨by rw [rep.length]; exact le1000 hl, fun p hp => ?_⟩
  have s2 : Stp G H (upd G1 p (.tup vs)) (upd H1 p (.tup vs)) := (s1.trans (Stp.new s1.ex hp)).freeze (back_none s1.kp hp) upd_same not_soft_tup
  have g : G1 p = none := by
    cases z : G1 p with
    | none => rfl
    | some o => rw [(s1.ex p o z).1] at hp; cases hp
  exact w _ _ q _ _ _ s2 (b1.upd not_soft_tup) (Rep.tup (.inl (.inl upd_same)) (rep.mono (sub_upd g))) trivial
theorem le_lst {t : DA} (h : LE K B (dLst t) σ H Q) : tLst (LA K B t) σ H Q := by
  obtain ⟨G, ρ, P, s, h, w⟩ := h
  refine ⟨G, ρ, _, s, h, fun rs β hr vs H1 G1 s1 b1 r1 => ?_⟩
  obtain ⟨ds, e, hl, q⟩ := hr
  have rep := vals_rep r1 e
  refine ⟨by rw [rep.length]; exact le1000 hl, fun p hp => ?_⟩
  have g : G1 p = none := by
    cases z : G1 p with
    | none => rfl
    | some o => rw [(s1.ex p o z).1] at hp; cases hp
  exact w _ _ q _ _ _ (s1.trans (Stp.new s1.ex hp)) (b1.upd not_soft_lst) ⟨p, vs, rfl, upd_same, rep, g, back_none (s.stp.kp.trans s1.kp) hp⟩ ⟨p, rfl, back_none s1.kp hp⟩
theorem de_tup {es : List Expr} {t : DA} {x1} (h : PA X es (LA X.K B t)) : PE X (.Tuple es x1 pos) (LE X.K B (dTup t)) := PEi (pe_tup h) fun _ _ _ => le_tup
theorem de_lst {es : List Expr} {t : DA} (h : PA X es (LA X.K B t)) : PE X (.List es pos) (LE X.K B (dLst t)) := PEi (pe_lst h) fun _ _ _ => le_lst
/-! ### calls of built-in functions of one value, of two -/
def CaC (K : PySem.W.Frag) (r : List V → Hp → VK → Prop) (f : F1) : Prop := UnC K (fun v => r [v]) f
def CaC2 (K : PySem.W.Frag) (r : List V → Hp → VK → Prop) (f : F2) : Prop := OpC K (fun v w => r [v, w]) f
theorem le_cb1 {r : List V → Hp → VK → Prop} {f : F1} (c : CaC K r f) (h : LE K B (dUn f ta) σ H Q) : tCB r (tCons (LE K B ta) tNil) σ H Q := le_un (r := fun v => r [v]) c h
theorem le_cb2 {r : List V → Hp → VK → Prop} {f : F2} (c : CaC2 K r f) (h : LE K B (dBin f ta tb) σ H Q) : tCB r (tCons (LE K B ta) (tCons (LE K B tb) tNil)) σ H Q := le_op (r := fun v w => r [v, w]) c h
theorem de_b1 {id : String} {x : Str} {p : Pos} {r : List V → Hp → VK → Prop} {f : F1} (hc : CallR X (.builtin id) r) (c : CaC X.K r f) (hm : X.mg x = none) (ha : PE X a (LE X.K B ta)) (hg : Gl X x := by rfl) (hv : bootBuiltins x = some (.builtin id) := by decide +kernel)
    (hn : x ≠ "__name__" := by decide) (hdb : (x == ("__debug__" : Str)) = false := by decide)
    (he : starEach [a] X.env = [(false, eval a X.env)] := by rfl) : PE X (.Call (.Name x p) [a] [] pos) (LE X.K B (dUn f ta)) :=
  PEi (pe_callB hc hg hm hv (pa_cons ha pa_nil he) hn hdb he rfl) fun _ _ _ => le_cb1 c
theorem de_b2 {id : String} {x : Str} {p : Pos} {r : List V → Hp → VK → Prop} {f : F2} (hc : CallR X (.builtin id) r) (c : CaC2 X.K r f) (hm : X.mg x = none) (ha : PE X a (LE X.K B ta)) (hb : PE X b (LE X.K B tb)) (hg : Gl X x := by rfl) (hv : bootBuiltins x = some (.builtin id) := by decide +kernel)
    (hn : x ≠ "__name__" := by decide) (hdb : (x == ("__debug__" : Str)) = false := by decide)
    (he : starEach [a, b] X.env = (false, eval a X.env) :: starEach [b] X.env := by rfl) (he2 : starEach [b] X.env = [(false, eval b X.env)] := by rfl) (hpl : (backTo pos (starEach [b] X.env)).any (·.1) = false := by rfl) : PE X (.Call (.Name x p) [a, b] [] pos) (LE X.K B (dBin f ta tb)) :=
  PEi (pe_callB hc hg hm hv (pa_cons ha (pa_cons hb pa_nil he2) he) hn hdb he hpl) fun _ _ _ => le_cb2 c
theorem de_t1 {T : String} {x : Str} {p : Pos} {r : List V → Hp → VK → Prop} {f : F1} (hc : CallR X (.type T) r) (c : CaC X.K r f) (hm : X.mg x = none) (ha : PE X a (LE X.K B ta)) (hg : Gl X x := by rfl) (hv : bootBuiltins x = some (.type T) := by decide +kernel)
    (hn : x ≠ "__name__" := by decide) (hdb : (x == ("__debug__" : Str)) = false := by decide)
    (he : starEach [a] X.env = [(false, eval a X.env)] := by rfl) : PE X (.Call (.Name x p) [a] [] pos) (LE X.K B (dUn f ta)) :=
  PEi (pe_callTy hc hg hm hv (pa_cons ha pa_nil he) hn hdb he rfl) fun _ _ _ => le_cb1 c
/-- a module's name for a built-in function -/
theorem de_bf2 {id : String} {x : Str} {p : Pos} {r : List V → Hp → VK → Prop} {f : F2} (hc : CallR X (.builtin id) r) (c : CaC2 X.K r f) (hm : X.mg x = some (.builtin id)) (ha : PE X a (LE X.K B ta)) (hb : PE X b (LE X.K B tb)) (hg : Gl X x := by rfl)
    (hdb : (x == ("__debug__" : Str)) = false := by decide)
    (he : starEach [a, b] X.env = (false, eval a X.env) :: starEach [b] X.env := by rfl) (he2 : starEach [b] X.env = [(false, eval b X.env)] := by rfl) (hpl : (backTo pos (starEach [b] X.env)).any (·.1) = false := by rfl) : PE X (.Call (.Name x p) [a, b] [] pos) (LE X.K B (dBin f ta tb)) :=
  PEi (pe_callBfun hc hg hm (pa_cons ha (pa_cons hb pa_nil he2) he) hdb he hpl) fun _ _ _ => le_cb2 c
end
end DL
namespace DL
open PySem L2
/-! ### data as the library's data -/
mutual
def D.py : D → PyData
  | .non => .none
  | .bl b => .bool b
  | .int i => .int i
  | .str x => .str x
  | .lst ds => .list (D.pys ds)
  | .tup ds => .tuple (D.pys ds)
  | .ins _ _ => .none
  | .raw _ => .none
def D.pys : List D → List PyData
  | [] => []
  | d :: ds => D.py d :: D.pys ds
end
mutual
/-- plain data, nested at most n deep -/
def D.shp : Nat → D → Prop
  | _, .non => True
  | _, .bl _ => True
  | _, .int _ => True
  | _, .str x => PyData.strOk x = true
  | n, .lst ds => 0 < n ∧ D.shps (n - 1) ds
  | n, .tup ds => 0 < n ∧ D.shps (n - 1) ds
  | _, .ins _ _ => False
  | _, .raw _ => False
def D.shps : Nat → List D → Prop
  | _, [] => True
  | n, d :: ds => D.shp n d ∧ D.shps n ds
end
theorem pys_map : ∀ ds : List D, D.pys ds = ds.map D.py
  | [] => by rw [D.pys]; rfl
  | d :: ds => by rw [D.pys, pys_map ds]; rfl
theorem shps_iff {n : Nat} : ∀ {ds : List D}, D.shps n ds ↔ ∀ d ∈ ds, D.shp n d
  | [] => by rw [D.shps]; exact ⟨fun _ d h => (by cases h), fun _ => trivial⟩
  | d :: ds => by
    rw [D.shps, shps_iff (ds := ds)]
    exact ⟨fun ⟨h, t⟩ e he => by
      rcases List.mem_cons.mp he with rfl | he
      · exact h
      · exact t e he, fun h => ⟨h d (List.mem_cons_self ..), fun e he => h e (List.mem_cons_of_mem _ he)⟩⟩
section
variable {K : PySem.W.Frag} {G : Hp}
mutual
theorem rep_dp : ∀ {n : Nat} {v : V} {d : D}, Rep K G v d → D.shp n d → Dp K G v d.py
  | _, _, _, .non, _ => by rw [D.py]; exact .non
  | _, _, _, .bl b, _ => by rw [D.py]; exact .bl b
  | _, _, _, .int i, _ => by rw [D.py]; exact .int i
  | _, _, _, .str x, _ => by rw [D.py]; exact .str x
  | n, _, _, .lst h a, s => by rw [D.shp] at s; rw [D.py]; exact .lst h (rep_dpAll (n := n - 1) a s.2)
  | n, _, _, .tup h a, s => by rw [D.shp] at s; rw [D.py]; exact .tup h (rep_dpAll (n := n - 1) a s.2)
  | _, _, _, .ins _ _, s => by rw [D.shp] at s; exact s.elim
  | _, _, _, .raw _, s => by rw [D.shp] at s; exact s.elim
theorem rep_dpAll : ∀ {n : Nat} {vs : List V} {ds : List D}, RepAll K G vs ds → D.shps n ds → DpAll K G vs (D.pys ds)
  | _, _, _, .nil, _ => by rw [D.pys]; exact .nil
  | n, _, _, .cons h t, s => by rw [D.shps] at s; rw [D.pys]; exact .cons (rep_dp (n := n) h s.1) (rep_dpAll (n := n) t s.2)
end
end
mutual
theorem shp_can : ∀ {n : Nat} {d : D}, D.shp n d → d.py.canLay0 = true
  | _, .non, _ => by rw [D.py]; rfl
  | _, .bl b, _ => by rw [D.py]; rfl
  | _, .int i, _ => by rw [D.py]; rfl
  | _, .str x, s => by rw [D.shp] at s; rw [D.py, PyData.canLay0]; exact s
  | n, .lst ds, s => by rw [D.shp] at s; rw [D.py, PyData.canLay0]; exact shps_can (n := n - 1) s.2
  | n, .tup ds, s => by rw [D.shp] at s; rw [D.py, PyData.canLay0]; exact shps_can (n := n - 1) s.2
  | _, .ins _ _, s => by rw [D.shp] at s; exact s.elim
  | _, .raw _, s => by rw [D.shp] at s; exact s.elim
theorem shps_can : ∀ {n : Nat} {ds : List D}, D.shps n ds → PyData.canLayAll0 (D.pys ds) = true
  | _, [], _ => by rw [D.pys]; rfl
  | n, d :: ds, s => by rw [D.shps] at s; rw [D.pys, PyData.canLayAll0, shp_can s.1, shps_can s.2]; rfl
end
mutual
theorem shp_depth : ∀ {n : Nat} {d : D}, D.shp n d → d.py.depth ≤ n
  | _, .non, _ => by rw [D.py, PyData.depth]; exact Nat.zero_le _
  | _, .bl b, _ => by rw [D.py, PyData.depth]; exact Nat.zero_le _
  | _, .int i, _ => by rw [D.py, PyData.depth]; exact Nat.zero_le _
  | _, .str x, s => by rw [D.py, PyData.depth]; exact Nat.zero_le _
  | n, .lst ds, s => by rw [D.shp] at s; rw [D.py, PyData.depth]; have := shps_depth (n := n - 1) s.2; omega
  | n, .tup ds, s => by rw [D.shp] at s; rw [D.py, PyData.depth]; have := shps_depth (n := n - 1) s.2; omega
  | _, .ins _ _, s => by rw [D.shp] at s; exact s.elim
  | _, .raw _, s => by rw [D.shp] at s; exact s.elim
theorem shps_depth : ∀ {n : Nat} {ds : List D}, D.shps n ds → PyData.depthAll (D.pys ds) ≤ n
  | _, [], _ => by rw [D.pys, PyData.depthAll]; exact Nat.zero_le _
  | n, d :: ds, s => by
    rw [D.shps] at s
    rw [D.pys, PyData.depthAll]
    exact Nat.max_le.mpr ⟨shp_depth s.1, shps_depth s.2⟩
end
theorem shp_shaped {d : D} {n : Nat} (h : D.shp n d) (hn : n ≤ 64) : SeqAt.shaped d.py = true := by
  unfold SeqAt.shaped
  rw [shp_can h, decide_eq_true (Nat.le_trans (shp_depth h) hn)]
  rfl
mutual
theorem D.shp.mono : ∀ {n m : Nat} {d : D}, D.shp n d → n ≤ m → D.shp m d
  | _, _, .non, h, _ => by rw [D.shp]; trivial
  | _, _, .bl _, h, _ => by rw [D.shp]; trivial
  | _, _, .int _, h, _ => by rw [D.shp]; trivial
  | _, _, .str _, h, _ => by rw [D.shp] at *; exact h
  | n, m, .lst ds, h, q => by rw [D.shp] at *; exact ⟨by omega, D.shps.mono h.2 (by omega)⟩
  | n, m, .tup ds, h, q => by rw [D.shp] at *; exact ⟨by omega, D.shps.mono h.2 (by omega)⟩
  | _, _, .ins _ _, h, _ => by rw [D.shp] at h; exact h.elim
  | _, _, .raw _, h, _ => by rw [D.shp] at h; exact h.elim
theorem D.shps.mono : ∀ {n m : Nat} {ds : List D}, D.shps n ds → n ≤ m → D.shps m ds
  | _, _, [], h, _ => by rw [D.shps]; trivial
  | _, _, d :: ds, h, q => by rw [D.shps] at *; exact ⟨h.1.mono q, h.2.mono q⟩
end
/-- == over data -/
def D.eqv (d e : D) : Bool := PyData.eqv d.py e.py
/-! ### looking at a value -/
def look : R → Option D
  | .val d => some d
  | .own ds => some (.lst ds)
  | .peek ds => some (.lst ds)
  | .gen => none
section
variable {K : PySem.W.Frag} {H0 G H : Hp}
theorem ExG.sub {G H : Hp} (x : ExG G H) : Sub G H := fun a o e => (x a o e).1
/-- in the whole heap a value is what it looks like -/
theorem rr_look {r : R} {v : V} {d : D} (x : ExG G H) (h : RR K H0 G H r v) (e : look r = some d) : Rep K H v d := by
  cases r with
  | val d' =>
    cases e
    exact Rep.mono x.sub h
  | own ds =>
    cases e
    obtain ⟨p, vs, e, hp, r, g, h0⟩ := h.ex
    rw [e]
    exact .lst (.inl (.inl hp)) (r.mono x.sub)
  | peek ds =>
    cases e
    obtain ⟨p, vs, e, hp, r, g, h0⟩ := h.ex
    rw [e]
    exact .lst (.inl (.inl hp)) (r.mono x.sub)
  | gen => cases e
/-- its items last -/
theorem rr_lst {r : R} {v : V} {ds : List D} (x : ExG G H) (h : RR K H0 G H r v) (e : look r = some (.lst ds)) : ∃ p vs, v = .ref p ∧ SqL K H p vs ∧ RepAll K G vs ds := by
  cases r with
  | val d' =>
    cases e
    cases h with
    | lst s a => exact ⟨_, _, rfl, x.sub.sql s, a⟩
  | own es =>
    cases e
    obtain ⟨p, vs, e, hp, r, g, h0⟩ := h.ex
    exact ⟨p, vs, e, .inl (.inl hp), r⟩
  | peek es =>
    cases e
    obtain ⟨p, vs, e, hp, r, g, h0⟩ := h.ex
    exact ⟨p, vs, e, .inl (.inl hp), r⟩
  | gen => cases e
theorem rr_tup {r : R} {v : V} {ds : List D} (x : ExG G H) (h : RR K H0 G H r v) (e : look r = some (.tup ds)) : ∃ p vs, v = .ref p ∧ SqT K H p vs ∧ RepAll K G vs ds := by
  cases r with
  | val d' =>
    cases e
    cases h with
    | tup s a => exact ⟨_, _, rfl, x.sub.sqt s, a⟩
  | own es => cases e
  | peek es => cases e
  | gen => cases e
theorem rr_int {r : R} {v : V} {i : Int} (h : RR K H0 G H r v) (e : look r = some (.int i)) : v = .int i := by
  cases r with
  | val d' =>
    cases e
    cases h
    rfl
  | own es => cases e
  | peek es => cases e
  | gen => cases e
/-! ### operations -/
def fI (C : Int → Int → Prop) (g : Int → Int → D) : F2 := fun a b Q => match a, b with
  | .val (.int i), .val (.int j) => C i j ∧ Q (.val (g i j))
  | _, _ => False
def fI0 (g : Int → Int → D) : F2 := fun a b Q => match a, b with
  | .val (.int i), .val (.int j) => Q (.val (g i j))
  | _, _ => False
theorem opc_I {C : Int → Int → Prop} {g : Int → Int → V} {g' : Int → Int → D} (hg : ∀ i j G, Rep K G (g i j) (g' i j)) : OpC K (rI C g) (fI C g') := by
  intro H0 G H a b v w Q' Q x k ra rb h q
  unfold fI at h
  split at h
  case h_2 => exact h.elim
  rename_i i j
  obtain ⟨c, h⟩ := h
  cases ra
  cases rb
  exact ⟨i, j, rfl, rfl, c, q (.val _) _ H G (Stp.refl x) (fun _ z => z) (hg i j G) trivial h⟩
theorem opc_I0 {g : Int → Int → V} {g' : Int → Int → D} (hg : ∀ i j G, Rep K G (g i j) (g' i j)) : OpC K (rI0 g) (fI0 g') := by
  intro H0 G H a b v w Q' Q x k ra rb h q
  unfold fI0 at h
  split at h
  case h_2 => exact h.elim
  rename_i i j
  cases ra
  cases rb
  exact ⟨i, j, rfl, rfl, q (.val _) _ H G (Stp.refl x) (fun _ z => z) (hg i j G) trivial h⟩
def fU (g : Int → D) : F1 := fun a Q => match a with
  | .val (.int i) => Q (.val (g i))
  | _ => False
theorem unc_U {g : Int → V} {g' : Int → D} (hg : ∀ i G, Rep K G (g i) (g' i)) : UnC K (rU g) (fU g') := by
  intro H0 G H a v Q' Q x k ra h q
  unfold fU at h
  split at h
  case h_2 => exact h.elim
  rename_i i
  cases ra
  exact ⟨i, rfl, q (.val _) _ H G (Stp.refl x) (fun _ z => z) (hg i G) trivial h⟩
def T2 : Int → Int → Prop := fun _ _ => True
abbrev fAdd : F2 := fI0 fun i j => .int (i + j)
abbrev fSub : F2 := fI0 fun i j => .int (i - j)
abbrev fMul : F2 := fI CMulW fun i j => .int (i * j)
abbrev fMod : F2 := fI (fun _ j => j ≠ 0) fun i j => .int (i.fmod j)
/-- a divisor that is not 0, of any sign, below 2 ^ 9000 -/
def CDv (_ j : Int) : Prop := j ≠ 0 ∧ j.natAbs.log2 < 9000
abbrev fDiv : F2 := fI CDv fun i j => .int (i.fdiv j)
abbrev fLt : F2 := fI0 fun i j => .bl (decide (i < j))
abbrev fLe : F2 := fI0 fun i j => .bl (decide (i ≤ j))
abbrev fGt : F2 := fI0 fun i j => .bl (decide (j < i))
abbrev fGe : F2 := fI0 fun i j => .bl (decide (j ≤ i))
abbrev fNeg : F1 := fU fun i => .int (-i)
theorem c_add : OpC K (rI0 fun i j => .int (i + j)) fAdd := opc_I0 fun _ _ _ => .int _
theorem c_sub : OpC K (rI0 fun i j => .int (i - j)) fSub := opc_I0 fun _ _ _ => .int _
theorem c_mul : OpC K (rI CMulW fun i j => .int (i * j)) fMul := opc_I fun _ _ _ => .int _
theorem c_mod : OpC K (rI (fun _ j => j ≠ 0) fun i j => .int (i.fmod j)) fMod := opc_I fun _ _ _ => .int _
theorem c_div : OpC K (rI CDv fun i j => .int (i.fdiv j)) fDiv := opc_I fun _ _ _ => .int _
theorem c_lt : OpC K (rI0 fun i j => .bl (decide (i < j))) fLt := opc_I0 fun _ _ _ => .bl _
theorem c_le : OpC K (rI0 fun i j => .bl (decide (i ≤ j))) fLe := opc_I0 fun _ _ _ => .bl _
theorem c_gt : OpC K (rI0 fun i j => .bl (decide (j < i))) fGt := opc_I0 fun _ _ _ => .bl _
theorem c_ge : OpC K (rI0 fun i j => .bl (decide (j ≤ i))) fGe := opc_I0 fun _ _ _ => .bl _
theorem c_neg : UnC K (rU fun i => .int (-i)) fNeg := unc_U fun _ _ => .int _
theorem op_div {X : Cx} : OpR X (binaryOp .FloorDiv) (rI CDv fun i j => .int (i.fdiv j)) := opI fun i j _ _ _ _ _ hc q => PyProof.Rows.floordiv_int hc.1 q (.inl (PyProof.noPylong_of_log2 hc.2))
/-! == and != -/
def rEqA (K : PySem.W.Frag) : R2 := fun x y H Q => rEqD K x y H Q ∨ rEq x y H Q
def rNeA (K : PySem.W.Frag) : R2 := fun x y H Q => rNeD K x y H Q ∨ rNe x y H Q
theorem op_eqA {X : Cx} (hu : X.A.units + 64 < cLine) : OpR X (compareOp .Eq) (rEqA X.K) := (op_eqD hu).or op_eq
theorem op_neA {X : Cx} (hu : X.A.units + 64 < cLine) : OpR X (compareOp .NotEq) (rNeA X.K) := (op_neD hu).or op_ne
def fEq (neg : Bool) : F2 := fun a b Q => match look a, look b with
  | some (.int i), some (.int j) => Q (.val (.bl (neg != decide (i = j))))
  | some (.str i), some (.str j) => Q (.val (.bl (neg != decide (i = j))))
  | some d, some e => D.shp 64 d ∧ D.shp 64 e ∧ Q (.val (.bl (neg != D.eqv d e)))
  | _, _ => False
theorem eq_core {neg : Bool} {a b : R} {v w : V} {Q' : R → Prop} {Q : VK} (x : ExG G H) (ra : RR K H0 G H a v) (rb : RR K H0 G H b w) (h : fEq neg a b Q')
    (q : ∀ z u H' G', Stp G H G' H' → (∀ β, Bud H β → Bud H' β) → RR K H0 G' H' z u → RF H z u → Q' z → Q u H') :
    (∃ d e, Dp K H v d ∧ Dp K H w e ∧ SeqAt.shaped d = true ∧ SeqAt.shaped e = true ∧ Q (.bl (neg != PyData.eqv d e)) H) ∨ (scal v w = true ∧ Q (.bl (neg != decide (v = w))) H) := by
  unfold fEq at h
  split at h
  · rename_i i j h1 h2
    rw [rr_int ra h1, rr_int rb h2]
    refine .inr ⟨rfl, ?_⟩
    have e : decide (V.int i = V.int j) = decide (i = j) := by by_cases z : i = j <;> simp [z]
    rw [e]
    exact q (.val _) _ H G (Stp.refl x) (fun _ z => z) (Rep.bl _) trivial h
  · rename_i i j h1 h2
    have r1 := rr_look x ra h1
    have r2 := rr_look x rb h2
    cases r1
    cases r2
    refine .inr ⟨rfl, ?_⟩
    have e : decide (V.str i = V.str j) = decide (i = j) := by by_cases z : i = j <;> simp [z]
    rw [e]
    exact q (.val _) _ H G (Stp.refl x) (fun _ z => z) (Rep.bl _) trivial h
  · rename_i d e _ _ h1 h2
    obtain ⟨s1, s2, h⟩ := h
    exact .inl ⟨d.py, e.py, rep_dp (rr_look x ra h1) s1, rep_dp (rr_look x rb h2) s2, shp_shaped s1 (Nat.le_refl _), shp_shaped s2 (Nat.le_refl _), q (.val _) _ H G (Stp.refl x) (fun _ z => z) (Rep.bl _) trivial h⟩
  · exact h.elim
theorem c_eq : OpC K (rEqA K) (fEq false) := by
  intro H0 G H a b v w Q' Q x k ra rb h q
  rcases eq_core x ra rb h q with ⟨d, e, h1, h2, h3, h4, h5⟩ | ⟨h1, h5⟩
  · rw [Bool.false_bne] at h5
    exact .inl ⟨d, e, h1, h2, h3, h4, h5⟩
  · rw [Bool.false_bne] at h5
    exact .inr ⟨h1, h5⟩
theorem c_ne : OpC K (rNeA K) (fEq true) := by
  intro H0 G H a b v w Q' Q x k ra rb h q
  rcases eq_core x ra rb h q with ⟨d, e, h1, h2, h3, h4, h5⟩ | ⟨h1, h5⟩
  · rw [Bool.true_bne] at h5
    exact .inl ⟨d, e, h1, h2, h3, h4, h5⟩
  · rw [Bool.true_bne] at h5
    exact .inr ⟨h1, h5⟩
/-! is None, is True, is False -/
def rIs (neg : Bool) : R2 := fun x y H Q => (y = .non ∨ ∃ b, y = .bl b) ∧ Q (.bl (neg != decide (x = y))) H
theorem op_is {X : Cx} : OpR X (compareOp .Is) (rIs false) := by
  intro pins s σ H x y v u Q I rx ry h
  obtain ⟨hy, q⟩ := h
  rw [Bool.false_bne] at q
  have hp : plainIs v u = true := by
    rcases hy with rfl | ⟨b, rfl⟩
    · cases ry
      cases x <;> first | (obtain ⟨t, rfl⟩ := rx; rfl) | (cases rx; rfl)
    · cases ry
      cases x <;> first | (obtain ⟨t, rfl⟩ := rx; rfl) | (cases rx; rfl)
  by_cases e : x = y
  · subst e
    have e2 : v = u := by
      rcases hy with rfl | ⟨b, rfl⟩
      · cases rx; cases ry; rfl
      · cases rx; cases ry; rfl
    subst e2
    exact wpAny_is_self hp ⟨.bl true, H, I, rfl, by simpa using q⟩
  · refine wpAny_is_other hp (fun z => e ?_) ⟨.bl false, H, I, rfl, by simpa [e] using q⟩
    subst z
    exact RelV.inj rx ry
theorem op_isnot {X : Cx} : OpR X (compareOp .IsNot) (rIs true) := by
  intro pins s σ H x y v u Q I rx ry h
  obtain ⟨hy, q⟩ := h
  rw [Bool.true_bne] at q
  have hp : plainIs v u = true := by
    rcases hy with rfl | ⟨b, rfl⟩
    · cases ry
      cases x <;> first | (obtain ⟨t, rfl⟩ := rx; rfl) | (cases rx; rfl)
    · cases ry
      cases x <;> first | (obtain ⟨t, rfl⟩ := rx; rfl) | (cases rx; rfl)
  by_cases e : x = y
  · subst e
    have e2 : v = u := by
      rcases hy with rfl | ⟨b, rfl⟩
      · cases rx; cases ry; rfl
      · cases rx; cases ry; rfl
    subst e2
    exact wpAny_isNot_self hp ⟨.bl false, H, I, rfl, by simpa using q⟩
  · refine wpAny_isNot_other hp (fun z => e ?_) ⟨.bl true, H, I, rfl, by simpa [e] using q⟩
    subst z
    exact RelV.inj rx ry
/-- what it is, of None, True, False -/
def D.isc : D → D → Option Bool
  | .non, .non => some true
  | .bl a, .bl b => some (a == b)
  | .raw _, _ => none
  | _, .non => some false
  | _, .bl _ => some false
  | _, _ => none
def fIs (neg : Bool) : F2 := fun a b Q => match look a, b with
  | some d, .val e => (match D.isc d e with
    | some k => Q (.val (.bl (neg != k)))
    | none => False)
  | _, _ => False
theorem c_is {neg : Bool} : OpC K (rIs neg) (fIs neg) := by
  intro H0 G H a b v w Q' Q x k ra rb h q
  unfold fIs at h
  split at h
  case h_2 => exact h.elim
  rename_i d e h1
  split at h
  case h_2 => exact h.elim
  rename_i kk h2
  have r1 := rr_look x ra h1
  have fin : ∀ b', decide (v = w) = b' → kk = b' → Q (.bl (neg != decide (v = w))) H := fun b' e1 e2 => by
    subst e2
    rw [← e1] at h
    exact q (.val _) _ H G (Stp.refl x) (fun _ z => z) (Rep.bl _) trivial h
  cases rb with
  | non =>
    refine ⟨.inl rfl, ?_⟩
    cases r1 <;> first
      | (simp only [D.isc, Option.some.injEq] at h2; subst h2; exact fin _ rfl (by simp))
      | (cases h2)
  | bl b =>
    refine ⟨.inr ⟨b, rfl⟩, ?_⟩
    cases r1 <;> first
      | (simp only [D.isc, Option.some.injEq] at h2; subst h2; exact fin _ rfl (by simp [Bool.beq_eq_decide_eq]))
      | (cases h2)
  | int i => cases d <;> cases h2
  | str i => cases d <;> cases h2
  | lst _ _ => cases d <;> cases h2
  | tup _ _ => cases d <;> cases h2
  | ins _ _ => cases d <;> cases h2
  | raw _ => cases d <;> cases h2
end
end DL
namespace DL
open PySem L2
section
variable {K : PySem.W.Frag} {H0 G H : Hp}
/-- the usual end of a rule: a plain value, nothing changed -/
theorem fin_val {G H : Hp} {H0 : Hp} {Q : VK} {Q' : R → Prop} (x : ExG G H) (q : ∀ z u H' G', Stp G H G' H' → (∀ β, Bud H β → Bud H' β) → RR K H0 G' H' z u → RF H z u → Q' z → Q u H') {d : D} {v : V} (r : Rep K G v d) (h : Q' (.val d)) : Q v H :=
  q (.val d) v H G (Stp.refl x) (fun _ z => z) r trivial h
/-- a new list -/
theorem fin_new {G H : Hp} {H0 : Hp} {Q : VK} {Q' : R → Prop} (x : ExG G H) (k : Keep H0 H) (q : ∀ z u H' G', Stp G H G' H' → (∀ β, Bud H β → Bud H' β) → RR K H0 G' H' z u → RF H z u → Q' z → Q u H') {ds : List D} {vs : List V} (r : RepAll K G vs ds) (h : Q' (.own ds))
    {p : Addr} (hp : H p = none) : Q (.ref p) (upd H p (.lst vs)) := by
  have g : G p = none := by
    cases z : G p with
    | none => rfl
    | some o => rw [(x p o z).1] at hp; cases hp
  exact q (.own ds) _ _ G (Stp.new x hp) (fun _ b => b.upd not_soft_lst) ⟨p, vs, rfl, upd_same, r, g, back_none k hp⟩ ⟨p, rfl, hp⟩ h
/-! ### x[i] -/
def ixOf : D → Int → Option D
  | .lst ds, i => atI ds i
  | .tup ds, i => atI ds i
  | .str x, i => (atI x.cps.toList i).bind fun c => if x.length ≤ 10000 then some (.str ⟨#[c]⟩) else none
  | _, _ => none
def fIx : F2 := fun a b Q => match look a, b with
  | some d, .val (.int i) => ∃ e, ixOf d i = some e ∧ Q (.val e)
  | _, _ => False
theorem atI_rep {vs : List V} {ds : List D} {i : Int} {d : D} (r : RepAll K G vs ds) (h : atI ds i = some d) : ∃ v, atI vs i = some v ∧ Rep K G v d := by
  unfold atI at h ⊢
  rw [r.length]
  cases e : ixN ds.length i with
  | none => rw [e] at h; cases h
  | some j =>
    rw [e] at h
    exact r.get h
theorem c_ix : OpC K (rIx K) fIx := by
  intro H0 G H a b v w Q' Q x k ra rb h q
  unfold fIx at h
  split at h
  case h_2 => exact h.elim
  rename_i d i h1
  obtain ⟨e, h2, h⟩ := h
  cases rb
  cases d with
  | lst ds =>
    obtain ⟨p, vs, rfl, hs, rs⟩ := rr_lst x ra h1
    obtain ⟨u, hu, ru⟩ := atI_rep rs h2
    exact .inl ⟨p, vs, i, u, rfl, rfl, hs, hu, fin_val x q ru h⟩
  | tup ds =>
    obtain ⟨p, vs, rfl, hs, rs⟩ := rr_tup x ra h1
    obtain ⟨u, hu, ru⟩ := atI_rep rs h2
    exact .inr (.inl ⟨p, vs, i, u, rfl, rfl, hs, hu, fin_val x q ru h⟩)
  | str z =>
    have r1 := rr_look x ra h1
    cases r1
    have h2' : ((atI z.cps.toList i).bind fun c => if z.length ≤ 10000 then some (D.str ⟨#[c]⟩) else none) = some e := h2
    cases e2 : atI z.cps.toList i with
    | none => rw [e2] at h2'; cases h2'
    | some c =>
      rw [e2] at h2'
      have h3 : (if z.length ≤ 10000 then some (D.str ⟨#[c]⟩) else none) = some e := h2'
      by_cases hz : z.length ≤ 10000
      · rw [if_pos hz] at h3
        cases h3
        exact .inr (.inr ⟨z, i, c, rfl, rfl, Nat.le_trans hz (by decide), e2, fin_val x q (.str _) h⟩)
      · rw [if_neg hz] at h3
        cases h3
  | _ => cases h2
theorem big_le {n : Nat} (h : n ≤ 1000000) : n ≤ sizeLine := Nat.le_trans h (by rw [sizeLine_eq]; decide)
theorem big_lt {n : Nat} (h : n ≤ 1000000) : n < sizeLine := Nat.lt_of_le_of_lt h (by rw [sizeLine_eq]; decide)
end
/-! ### + of lists that may be locked or written, of ints, of texts -/
section
variable {X : Cx}
def rCatA (K : PySem.W.Frag) : R2 := fun x y H Q => ∃ l b xs zs, x = .ref l ∧ y = .ref b ∧ SqL K H l xs ∧ SqL K H b zs ∧ xs.length + zs.length ≤ sizeLine ∧ ∀ p, H p = none → Q (.ref p) (upd H p (.lst (xs ++ zs)))
theorem op_catA : OpR X (binaryOp .Add) (rCatA X.K) := by
  intro pins s σ H x y v u Q I rx ry h
  obtain ⟨l, b, xs, zs, rfl, rfl, hH, hB, hz, q⟩ := h
  cases rx
  cases ry
  obtain ⟨its, r, pl, hl⟩ := I.list hH
  obtain ⟨its2, r2, pl2, hl2⟩ := I.list hB
  obtain ⟨⟨cls, dd, data, sl⟩, ho, hc, n, hd⟩ := pl.isList
  obtain ⟨⟨cls2, dd2, data2, sl2⟩, ho2, hc2, n2, hd2⟩ := pl2.isList
  simp only at hc hd hc2 hd2
  subst hc hd hc2 hd2
  have e : its.toArray ++ its2.toArray = (its ++ its2).toArray := by simp
  have hz2 : its.length + its2.length ≤ sizeLine := by rw [← r.length, ← r2.length]; exact hz
  refine PySem.concat_meets ⟨_, ho, rfl⟩ ⟨_, ho2, rfl⟩ PySem.noFill_list_add PySem.seq_list_add PySem.F.slot_list_add PySem.F.entry_list_add (PySem.F.args_list_add_2 _ _) (PyProof.Rows.list_addW l b its.toArray its2.toArray n n2 dd dd2 sl sl2 (by simpa using hz2)) ⟨ho, ho2, ?_⟩
  rw [e]
  exact ⟨.ref _, _, I.lnew (t' := s.toks) (r.append r2) (by rw [List.length_append]; exact hz), rfl, q _ I.fresh⟩
def rPlus (K : PySem.W.Frag) : R2 := fun x y H Q => rI0 (fun i j => .int (i + j)) x y H Q ∨ rCatA K x y H Q ∨ ∃ i j, x = .str i ∧ y = .str j ∧ i.length + j.length ≤ sizeLine ∧ Q (.str (i ++ j)) H
theorem op_plus : OpR X (binaryOp .Add) (rPlus X.K) := op_add.or (op_catA.or op_add_str)
def fPlus : F2 := fun a b Q => match look a, look b with
  | some (.int i), some (.int j) => Q (.val (.int (i + j)))
  | some (.lst xs), some (.lst ys) => xs.length + ys.length ≤ 1000000 ∧ Q (.own (xs ++ ys))
  | some (.str i), some (.str j) => i.length + j.length ≤ 1000000 ∧ Q (.val (.str (i ++ j)))
  | _, _ => False
theorem c_plus {K : PySem.W.Frag} : OpC K (rPlus K) fPlus := by
  intro H0 G H a b v w Q' Q x k ra rb h q
  unfold fPlus at h
  split at h
  · rename_i i j h1 h2
    rw [rr_int ra h1, rr_int rb h2]
    exact .inl ⟨i, j, rfl, rfl, fin_val x q (.int _) h⟩
  · rename_i xs ys h1 h2
    obtain ⟨p, vs, rfl, hs, rs⟩ := rr_lst x ra h1
    obtain ⟨p2, vs2, rfl, hs2, rs2⟩ := rr_lst x rb h2
    refine .inr (.inl ⟨p, p2, vs, vs2, rfl, rfl, hs, hs2, ?_, fun l hl => fin_new x k q (rs.append rs2) h.2 hl⟩)
    rw [rs.length, rs2.length]
    exact big_le h.1
  · rename_i i j h1 h2
    have r1 := rr_look x ra h1
    have r2 := rr_look x rb h2
    cases r1
    cases r2
    exact .inr (.inr ⟨i, j, rfl, rfl, big_le h.1, fin_val x q (.str _) h.2⟩)
  · exact h.elim
end
/-! ### len, abs, int, max, min, sum, gcd -/
section
variable {K : PySem.W.Frag} {X : Cx}
def fLen : F1 := fun a Q => match look a with
  | some (.lst ds) => Q (.val (.int ds.length))
  | some (.tup ds) => Q (.val (.int ds.length))
  | some (.str x) => x.length ≤ 1000000 ∧ Q (.val (.int x.length))
  | _ => False
def rLen (K : PySem.W.Frag) : List V → Hp → VK → Prop := fun xs H Q => (∃ p ys, xs = [.ref p] ∧ (SqL K H p ys ∨ SqT K H p ys) ∧ Q (.int ys.length) H) ∨ ∃ z, xs = [.str z] ∧ z.length ≤ sizeLine ∧ Q (.int z.length) H
theorem cr_len : CallR X (.builtin "len") (rLen X.K) := call_len_seq.or call_len_str
theorem c_len : CaC K (rLen K) fLen := by
  intro H0 G H a v Q' Q x k ra h q
  unfold fLen at h
  split at h
  · rename_i ds h1
    obtain ⟨p, vs, rfl, hs, rs⟩ := rr_lst x ra h1
    refine .inl ⟨p, vs, rfl, .inl hs, ?_⟩
    rw [rs.length]
    exact fin_val x q (.int _) h
  · rename_i ds h1
    obtain ⟨p, vs, rfl, hs, rs⟩ := rr_tup x ra h1
    refine .inl ⟨p, vs, rfl, .inr hs, ?_⟩
    rw [rs.length]
    exact fin_val x q (.int _) h
  · rename_i z h1
    have r1 := rr_look x ra h1
    cases r1
    exact .inr ⟨z, rfl, big_le h.1, fin_val x q (.int _) h.2⟩
  · exact h.elim
def fAbs : F1 := fU fun i => .int (if i < 0 then -i else i)
theorem c_abs : CaC K (fun xs H Q => ∃ i, xs = [.int i] ∧ Q (.int (if i < 0 then -i else i)) H) fAbs := by
  intro H0 G H a v Q' Q x k ra h q
  unfold fAbs fU at h
  split at h
  case h_2 => exact h.elim
  rename_i i
  cases ra
  exact ⟨i, rfl, fin_val x q (.int _) h⟩
def fInt : F1 := fun a Q => match a with
  | .val (.int i) => Q (.val (.int i))
  | .val (.bl b) => Q (.val (.int (if b then 1 else 0)))
  | _ => False
theorem c_int1 : CaC K (fun xs H Q => (∃ i, xs = [.int i] ∧ Q (.int i) H) ∨ ∃ k, xs = [.bl k] ∧ Q (.int (if k then 1 else 0)) H) fInt := by
  intro H0 G H a v Q' Q x k ra h q
  unfold fInt at h
  split at h
  · rename_i i
    cases ra
    exact .inl ⟨i, rfl, fin_val x q (.int _) h⟩
  · rename_i b
    cases ra
    exact .inr ⟨b, rfl, fin_val x q (.int _) h⟩
  · exact h.elim
abbrev fMax2 : F2 := fI0 fun i j => .int (if j > i then j else i)
abbrev fMin2 : F2 := fI0 fun i j => .int (if j < i then j else i)
abbrev fGcd : F2 := fI0 fun i j => .int ((Int.gcd i j : Nat) : Int)
theorem c_I0' {g : Int → Int → V} {g' : Int → Int → D} (hg : ∀ i j G, Rep K G (g i j) (g' i j)) : CaC2 K (fun xs H Q => ∃ i j, xs = [.int i, .int j] ∧ Q (g i j) H) (fI0 g') := by
  intro H0 G H a b v w Q' Q x k ra rb h q
  unfold fI0 at h
  split at h
  case h_2 => exact h.elim
  rename_i i j
  cases ra
  cases rb
  exact ⟨i, j, rfl, fin_val x q (hg i j G) h⟩
theorem c_max2 : CaC2 K (fun xs H Q => ∃ i j, xs = [.int i, .int j] ∧ Q (.int (if j > i then j else i)) H) fMax2 := c_I0' fun _ _ _ => .int _
theorem c_min2 : CaC2 K (fun xs H Q => ∃ i j, xs = [.int i, .int j] ∧ Q (.int (if j < i then j else i)) H) fMin2 := c_I0' fun _ _ _ => .int _
theorem c_gcd : CaC2 K rGcd fGcd := c_I0' (g := fun i j => .int ((Nat.gcd i.natAbs j.natAbs : Nat) : Int)) fun _ _ _ => .int _
/-- a list of ints -/
def D.intsOf : List D → Option (List Int)
  | [] => some []
  | .int i :: ds => (D.intsOf ds).map (i :: ·)
  | _ :: _ => none
theorem intsOf_eq : ∀ {ds : List D} {ns : List Int}, D.intsOf ds = some ns → ds = ns.map D.int
  | [], _, e => by cases e; rfl
  | d :: ds, ns, e => by
    cases d with
    | int i =>
      unfold D.intsOf at e
      cases q : D.intsOf ds with
      | none => rw [q] at e; cases e
      | some ms =>
        rw [q] at e
        cases e
        rw [List.map_cons, ← intsOf_eq q]
    | _ => cases e
theorem intsOf_map : ∀ ns : List Int, D.intsOf (ns.map D.int) = some ns
  | [] => rfl
  | n :: ns => by
    rw [List.map_cons, D.intsOf, intsOf_map ns]
    rfl
theorem rr_ints {H0 G H : Hp} {r : R} {v : V} {ds : List D} {ns : List Int} (x : ExG G H) (h : RR K H0 G H r v) (e : look r = some (.lst ds)) (e2 : D.intsOf ds = some ns) : ∃ p, v = .ref p ∧ SqL K H p (ns.map V.int) := by
  obtain ⟨p, vs, e3, hs, rs⟩ := rr_lst x h e
  rw [intsOf_eq e2] at rs
  rw [rs.ints] at hs
  exact ⟨p, e3, hs⟩
def maxL : List Int → Int
  | [] => 0
  | x :: xs => xs.foldl max x
def minL : List Int → Int
  | [] => 0
  | x :: xs => xs.foldl min x
theorem foldl_max_ge : ∀ (xs : List Int) (a : Int), a ≤ xs.foldl max a ∧ (∀ y ∈ xs, y ≤ xs.foldl max a) ∧ (xs.foldl max a = a ∨ xs.foldl max a ∈ xs)
  | [], a => ⟨Int.le_refl _, fun _ h => (by cases h), .inl rfl⟩
  | x :: xs, a => by
    have ih := foldl_max_ge xs (max a x)
    rw [List.foldl_cons]
    refine ⟨by omega, fun y hy => ?_, ?_⟩
    · rcases List.mem_cons.mp hy with rfl | hy
      · omega
      · exact ih.2.1 y hy
    · rcases ih.2.2 with e | e
      · rw [e]
        by_cases h : a ≤ x
        · exact .inr (by rw [Int.max_eq_right h]; exact List.mem_cons_self ..)
        · exact .inl (Int.max_eq_left (by omega))
      · exact .inr (List.mem_cons_of_mem _ e)
theorem foldl_min_le : ∀ (xs : List Int) (a : Int), xs.foldl min a ≤ a ∧ (∀ y ∈ xs, xs.foldl min a ≤ y) ∧ (xs.foldl min a = a ∨ xs.foldl min a ∈ xs)
  | [], a => ⟨Int.le_refl _, fun _ h => (by cases h), .inl rfl⟩
  | x :: xs, a => by
    have ih := foldl_min_le xs (min a x)
    rw [List.foldl_cons]
    refine ⟨by omega, fun y hy => ?_, ?_⟩
    · rcases List.mem_cons.mp hy with rfl | hy
      · omega
      · exact ih.2.1 y hy
    · rcases ih.2.2 with e | e
      · rw [e]
        by_cases h : a ≤ x
        · exact .inl (Int.min_eq_left h)
        · exact .inr (by rw [Int.min_eq_right (by omega)]; exact List.mem_cons_self ..)
      · exact .inr (List.mem_cons_of_mem _ e)
theorem maxL_spec {xs : List Int} (h : xs ≠ []) : maxL xs ∈ xs ∧ ∀ y ∈ xs, y ≤ maxL xs := by
  cases xs with
  | nil => exact absurd rfl h
  | cons a xs =>
    have q := foldl_max_ge xs a
    refine ⟨?_, fun y hy => ?_⟩
    · rcases q.2.2 with e | e
      · show xs.foldl max a ∈ _
        rw [e]; exact List.mem_cons_self ..
      · exact List.mem_cons_of_mem _ e
    · rcases List.mem_cons.mp hy with rfl | hy
      · exact q.1
      · exact q.2.1 y hy
theorem minL_spec {xs : List Int} (h : xs ≠ []) : minL xs ∈ xs ∧ ∀ y ∈ xs, minL xs ≤ y := by
  cases xs with
  | nil => exact absurd rfl h
  | cons a xs =>
    have q := foldl_min_le xs a
    refine ⟨?_, fun y hy => ?_⟩
    · rcases q.2.2 with e | e
      · show xs.foldl min a ∈ _
        rw [e]; exact List.mem_cons_self ..
      · exact List.mem_cons_of_mem _ e
    · rcases List.mem_cons.mp hy with rfl | hy
      · exact q.1
      · exact q.2.1 y hy
def fSum : F1 := fun a Q => ∃ ds ns, look a = some (.lst ds) ∧ D.intsOf ds = some ns ∧ Q (.val (.int ns.sum))
def fMax : F1 := fun a Q => ∃ ds ns, look a = some (.lst ds) ∧ D.intsOf ds = some ns ∧ ns ≠ [] ∧ Q (.val (.int (maxL ns)))
def fMin : F1 := fun a Q => ∃ ds ns, look a = some (.lst ds) ∧ D.intsOf ds = some ns ∧ ns ≠ [] ∧ Q (.val (.int (minL ns)))
theorem c_sum : CaC K (rSum K) fSum := by
  intro H0 G H a v Q' Q x k ra h q
  obtain ⟨ds, ns, h1, h2, h⟩ := h
  obtain ⟨p, rfl, hs⟩ := rr_ints x ra h1 h2
  exact ⟨p, ns, rfl, hs, fin_val x q (.int _) h⟩
theorem c_max : CaC K (rMax K) fMax := by
  intro H0 G H a v Q' Q x k ra h q
  obtain ⟨ds, ns, h1, h2, h3, h⟩ := h
  obtain ⟨p, rfl, hs⟩ := rr_ints x ra h1 h2
  refine ⟨p, ns, rfl, hs, List.length_pos_iff.mpr h3, fun m h4 h5 => ?_⟩
  have s := maxL_spec h3
  have e : m = maxL ns := Int.le_antisymm (s.2 m h4) (h5 _ s.1)
  rw [e]
  exact fin_val x q (.int _) h
theorem c_min : CaC K (rMin K) fMin := by
  intro H0 G H a v Q' Q x k ra h q
  obtain ⟨ds, ns, h1, h2, h3, h⟩ := h
  obtain ⟨p, rfl, hs⟩ := rr_ints x ra h1 h2
  refine ⟨p, ns, rfl, hs, List.length_pos_iff.mpr h3, fun m h4 h5 => ?_⟩
  have s := minL_spec h3
  have e : m = minL ns := Int.le_antisymm (h5 _ s.1) (s.2 m h4)
  rw [e]
  exact fin_val x q (.int _) h
end
end DL
namespace DL
open PySem L2
/-! ### slices -/
def DOf := Env → (Option Int → Nat → Prop) → Prop
def LO (K : PySem.W.Frag) (B : Ba) (t : DOf) : TO := fun σ H Q => ∃ G ρ P, FS K B G ρ σ H ∧ t ρ P ∧ ∀ o β', P o β' → ∀ H' G', Stp G H G' H' → Bud H' β' → Q o H'
def dNoPart : DOf := fun ρ Q => Q none ρ.β
def dPart (te : DE) : DOf := fun ρ Q => te ρ fun r β => match r with
  | .val (.int i) => Q (some i) β
  | _ => False
section
variable {X : Cx} {K : PySem.W.Frag} {B : Ba} {pos p2 : Pos} {a b c e : Expr} {ta tb tc te : DE} {σ : SL} {H : Hp} {Q : VK}
theorem do_none : PO X none (LO X.K B dNoPart) := by
  refine ⟨fun pins s σ H Q I h => ?_⟩
  obtain ⟨G, ρ, P, f, h, w⟩ := h
  exact po_none.run pins s σ H Q I (w _ _ h H G (Stp.refl f.ex) f.bd)
theorem do_some (h : PE X e (LE X.K B te)) : PO X (some e) (LO X.K B (dPart te)) := by
  refine ⟨fun pins s σ H Q I hw => (po_some h).run pins s σ H Q I ?_⟩
  obtain ⟨G, ρ, P, f, hw, w⟩ := hw
  refine ⟨G, ρ, _, f, hw, fun r β hr v H1 G1 s1 b1 r1 f1 => ?_⟩
  split at hr
  case h_2 => exact hr.elim
  cases r1
  exact ⟨_, rfl, w _ _ hr H1 G1 s1 b1⟩
def cutD (xs : List D) (lo hi : Option Int) : List D := (xs.drop (HT.sIx xs.length 0 lo)).take (HT.sIx xs.length xs.length hi - HT.sIx xs.length 0 lo)
def dSl (te : DE) (lo hi : DOf) : DE := fun ρ Q => te ρ fun r β => lo ⟨ρ.sl, β⟩ fun l β1 => hi ⟨ρ.sl, β1⟩ fun h β2 => match look r with
  | some (.lst ds) => Q (.own (cutD ds l h)) β2
  | some (.str z) => z.length ≤ 1000000 ∧ Q (.val (.str (cutS z l h))) β2
  | _ => False
theorem cut_rep {G : Hp} {vs : List V} {ds : List D} {l h : Option Int} (r : RepAll K G vs ds) : RepAll K G (cutV vs l h) (cutD ds l h) := by
  unfold cutV cutD
  rw [r.length]
  exact (r.drop _).take _
def rSlA (K : PySem.W.Frag) : V → Option Int → Option Int → Hp → VK → Prop := fun x lo hi H Q => rSlL K x lo hi H Q ∨ rSlS x lo hi H Q
theorem sl_any : SlR X (rSlA X.K) := sl_list.or sl_str
theorem le_sl {lo hi : DOf} (h : LE K B (dSl te lo hi) σ H Q) : tSl (rSlA K) (LE K B te) (LO K B lo) (LO K B hi) σ H Q := by
  obtain ⟨G, ρ, P, f, h, w⟩ := h
  refine ⟨G, ρ, _, f, h, fun r β hr v H1 G1 s1 b1 r1 f1 => ?_⟩
  have F1 := f.step s1 b1
  refine ⟨G1, _, _, F1, hr, fun l β1 hl H2 G2 s2 b2 => ?_⟩
  have F2 := F1.step (β := β1) s2 b2
  refine ⟨G2, ⟨ρ.sl, β1⟩, _, F2, hl, fun h β2 hh H3 G3 s3 b3 => ?_⟩
  have r3 := (r1.step s1.ex s2).step s2.ex s3
  have s13 := (s1.trans s2).trans s3
  split at hh
  · rename_i ds e
    obtain ⟨p, vs, rfl, hs, rs⟩ := rr_lst s3.ex r3 e
    refine .inl ⟨p, vs, rfl, hs, fun l hl => ?_⟩
    have k3 : Keep B.H H3 := f.stp.kp.trans s13.kp
    exact w _ _ hh _ _ _ (s13.trans (Stp.new s3.ex hl)) (b3.upd not_soft_lst) ⟨l, _, rfl, upd_same, cut_rep rs, (by
      cases z : G3 l with
      | none => rfl
      | some o => rw [(s3.ex l o z).1] at hl; cases hl), back_none k3 hl⟩ ⟨l, rfl, back_none s13.kp hl⟩
  · rename_i z e
    have r4 := rr_look s3.ex r3 e
    cases r4
    exact .inr ⟨z, rfl, big_le hh.1, w _ _ hh.2 _ H3 G3 s13 b3 (.str _) trivial⟩
  · exact hh.elim
theorem de_sl {lo hi : Option Expr} {tl th : DOf} (he : PE X e (LE X.K B te)) (hl : PO X lo (LO X.K B tl)) (hu : PO X hi (LO X.K B th)) : PE X (.Subscript e (.Slice lo hi none p2) pos) (LE X.K B (dSl te tl th)) :=
  PEi (pe_slice sl_any he hl hu) fun _ _ _ => le_sl
def fRev : F1 := fun a Q => match look a with
  | some (.lst ds) => Q (.own ds.reverse)
  | _ => False
theorem de_rev {k : Nat} {p1 p2 p3 : Pos} (he : PE X e (LE X.K B te)) : PE X (.Subscript e (.Slice none none (some (.UnaryOp .USub (.Constant (.int 1) k p1) p2)) p3) pos) (LE X.K B (dUn fRev te)) := by
  refine PEi (pe_revL he) fun σ H Q h => ?_
  refine le_un (r := fun x H1 Q => ∃ a xs, x = .ref a ∧ SqL X.K H1 a xs ∧ ∀ p, H1 p = none → Q (.ref p) (upd H1 p (.lst xs.reverse))) ?_ h
  intro H0 G H a v Q' Q x k ra h q
  unfold fRev at h
  split at h
  case h_2 => exact h.elim
  rename_i ds h1
  obtain ⟨p, vs, rfl, hs, rs⟩ := rr_lst x ra h1
  exact ⟨p, vs, rfl, hs, fun l hl => fin_new x k q rs.reverse h hl⟩
theorem de_ix (ha : PE X a (LE X.K B ta)) (hb : PE X b (LE X.K B tb)) (hs : PlainIx b := by exact fun _ _ => rfl) : PE X (.Subscript a b pos) (LE X.K B (dBin fIx ta tb)) :=
  PEi (pe_ix ix_seq ha hb hs) fun _ _ _ => le_op c_ix
/-! ### methods of lists -/
def isL : R → Prop
  | .val (.lst _) => True
  | .own _ => True
  | .peek _ => True
  | _ => False
theorem isL_look {r : R} (h : isL r) : ∃ ds, look r = some (.lst ds) := by
  cases r with
  | val d =>
    cases d with
    | lst ds => exact ⟨ds, rfl⟩
    | _ => exact h.elim
  | own ds => exact ⟨ds, rfl⟩
  | peek ds => exact ⟨ds, rfl⟩
  | gen => exact h.elim
theorem isL_ty {H0 G H : Hp} {r : R} {v : V} (x : ExG G H) (h : isL r) (rr : RR K H0 G H r v) : tyV K "list" v H := by
  obtain ⟨ds, e⟩ := isL_look h
  obtain ⟨p, vs, rfl, hs, _⟩ := rr_lst x rr e
  exact .inl ⟨rfl, vs, hs⟩
def dMeth1 (f : F2) (ta tb : DE) : DE := fun ρ Q => ta ρ fun x β => isL x ∧ tb ⟨ρ.sl, β⟩ fun y β' => f x y fun z => Q z β'
theorem le_meth1 {r : V → List V → Hp → VK → Prop} {f : F2} (c : OpC K (fun v w => r v [w]) f) (h : LE K B (dMeth1 f ta tb) σ H Q) : tBM K "list" r (LE K B ta) (tCons (LE K B tb) tNil) σ H Q := by
  obtain ⟨G, ρ, P, s, h, w⟩ := h
  refine ⟨G, ρ, _, s, h, fun x β hx v H1 G1 s1 b1 r1 f1 => ⟨isL_ty s1.ex hx.1 r1, G1, ⟨ρ.sl, β⟩, _, s.step s1 b1, hx.2, fun y β' hy u H2 G2 s2 b2 r2 f2 => ?_⟩⟩
  refine c B.H G2 H2 x y v u _ _ s2.ex ((s.stp.kp.trans s1.kp).trans s2.kp) (r1.step s1.ex s2) r2 hy fun z zv H3 G3 s3 b3 r3 f3 q => ?_
  exact w z β' q zv H3 G3 ((s1.trans s2).trans s3) (b3 _ b2) r3 (f3.back (s1.kp.trans s2.kp))
def idxD (d : D) (ds : List D) : Option Nat := ds.findIdx? fun z => z.eqv d
def fIndex : F2 := fun a b Q => match look a, look b with
  | some (.lst ds), some d => D.shps 62 ds ∧ D.shp 62 d ∧ ∃ j, idxD d ds = some j ∧ Q (.val (.int j))
  | _, _ => False
theorem shp_lst {n : Nat} {ds : List D} : D.shp (n + 1) (.lst ds) ↔ D.shps n ds := by
  rw [D.shp]
  exact ⟨fun h => h.2, fun h => ⟨Nat.succ_pos n, h⟩⟩
theorem shp_tup {n : Nat} {ds : List D} : D.shp (n + 1) (.tup ds) ↔ D.shps n ds := by
  rw [D.shp]
  exact ⟨fun h => h.2, fun h => ⟨Nat.succ_pos n, h⟩⟩
theorem pys_get {ds : List D} {j : Nat} : (D.pys ds)[j]? = ds[j]?.map D.py := by
  rw [pys_map, List.getElem?_map]
theorem c_index : OpC K (fun v w => rIndexD K v [w]) fIndex := by
  intro H0 G H a b v w Q' Q x k ra rb h q
  unfold fIndex at h
  split at h
  case h_2 => exact h.elim
  rename_i ds d h1 h2
  obtain ⟨s1, s2, j, hj, h⟩ := h
  have r1 := rr_look x ra h1
  have r2 := rr_look x rb h2
  have sl : D.shp 63 (.lst ds) := shp_lst.mpr s1
  obtain ⟨hjl, hz, hno⟩ := List.findIdx?_eq_some_iff_getElem.mp hj
  have dl := rep_dp r1 sl
  rw [D.py] at dl
  cases r1 with
  | lst hs rs =>
    refine ⟨_, w, d.py, D.pys ds, j, (ds[j]).py, rfl, rfl, dl, rep_dp r2 s2, ?_, shp_shaped s2 (by decide), ?_, hz, fun m z' hm hz' => ?_, fin_val x q (.int _) h⟩
    · have e := shp_shaped sl (by decide)
      rw [D.py] at e
      exact e
    · rw [pys_get, List.getElem?_eq_getElem hjl] <;> rfl
    · rw [pys_get, List.getElem?_eq_getElem (by omega)] at hz'
      cases hz'
      exact Bool.eq_false_iff.mpr (hno m hm)
theorem de_index {apos : Pos} (hu : X.A.units + 65 < cLine) (ha : PE X a (LE X.K B ta)) (hb : PE X b (LE X.K B tb))
    (hbase : attributeBase a "index" X.env (eval a X.env) = eval a X.env := by rfl)
    (hfew : ((backTo pos (starEach [b] X.env)).all (fun x => !x.1) && (backToKw pos (keywordEach [] X.env)).all (fun x => x.1.isSome)
      && decide ([b].length + ([] : List Keyword).length + (if ([] : List Keyword).isEmpty then 0 else 1) < 30)) = true := by rfl)
    (hline : (apos.endLine == pos.line) = true := by rfl) (hs : starEach [b] X.env = [(false, eval b X.env)] := by rfl) : PE X (.Call (.Attribute a "index" apos) [b] [] pos) (LE X.K B (dMeth1 fIndex ta tb)) :=
  PEi (pe_bm PySem.F.plainAttrs_list PySem.F.slot_list_index PySem.F.type_list_index (mt_indexD hu) ha (pa_cons hb pa_nil hs) hbase hfew hline hs rfl) fun _ _ _ => le_meth1 c_index
/-- x.count(e) of a list of ints -/
def fCount : F2 := fun a b Q => match b with
  | .val (.int k) => ∃ ds ns, look a = some (.lst ds) ∧ D.intsOf ds = some ns ∧ Q (.val (.int (ns.count k)))
  | _ => False
theorem c_count : OpC K (fun v w => rCntI K v [w]) fCount := by
  intro H0 G H a b v w Q' Q x k ra rb h q
  unfold fCount at h
  split at h
  case h_2 => exact h.elim
  rename_i i
  obtain ⟨ds, ns, h1, h2, h⟩ := h
  obtain ⟨p, rfl, hs⟩ := rr_ints x ra h1 h2
  cases rb
  exact ⟨p, ns, i, rfl, rfl, hs, fin_val x q (.int _) h⟩
theorem de_count {apos : Pos} (ha : PE X a (LE X.K B ta)) (hb : PE X b (LE X.K B tb))
    (hbase : attributeBase a "count" X.env (eval a X.env) = eval a X.env := by rfl)
    (hfew : ((backTo pos (starEach [b] X.env)).all (fun x => !x.1) && (backToKw pos (keywordEach [] X.env)).all (fun x => x.1.isSome)
      && decide ([b].length + ([] : List Keyword).length + (if ([] : List Keyword).isEmpty then 0 else 1) < 30)) = true := by rfl)
    (hline : (apos.endLine == pos.line) = true := by rfl) (hs : starEach [b] X.env = [(false, eval b X.env)] := by rfl) : PE X (.Call (.Attribute a "count" apos) [b] [] pos) (LE X.K B (dMeth1 fCount ta tb)) :=
  PEi (pe_bm PySem.F.plainAttrs_list PySem.F.slot_list_count PySem.F.type_list_count mt_lcount ha (pa_cons hb pa_nil hs) hbase hfew hline hs rfl) fun _ _ _ => le_meth1 c_count
abbrev fBits : F1 := fU fun i => .int (Builtin.Int.intBits i : Nat)
theorem de_bits {apos : Pos} (ha : PE X a (LE X.K B ta)) (hbase : attributeBase a "bit_length" X.env (eval a X.env) = eval a X.env := by rfl) (hline : (apos.endLine == pos.line) = true := by rfl) : PE X (.Call (.Attribute a "bit_length" apos) [] [] pos) (LE X.K B (dUn fBits ta)) := by
  refine PEi (pe_bits ha hbase hline) fun σ H Q h => ?_
  refine le_un (r := fun x H1 Q => ∃ i, x = .int i ∧ Q (.int (Builtin.Int.intBits i : Nat)) H1) ?_ h
  intro H0 G H a v Q' Q x k ra h q
  unfold fBits fU at h
  split at h
  case h_2 => exact h.elim
  cases ra
  exact ⟨_, rfl, fin_val x q (.int _) h⟩
/-! ### isinstance -/
inductive Kd where
  | non | bool | int | str | list | tuple
  deriving DecidableEq
def Kd.name : Kd → String
  | .non => "NoneType"
  | .bool => "bool"
  | .int => "int"
  | .str => "str"
  | .list => "list"
  | .tuple => "tuple"
def Kd.isa : Kd → Kd → Bool
  | .bool, .int => true
  | a, b => decide (a = b)
def kd : R → Option Kd
  | .val .non => some .non
  | .val (.bl _) => some .bool
  | .val (.int _) => some .int
  | .val (.str _) => some .str
  | .val (.lst _) => some .list
  | .val (.tup _) => some .tuple
  | .val _ => none
  | .own _ => some .list
  | .peek _ => some .list
  | .gen => none
theorem ty_lst {K : PySem.W.Frag} {H : Hp} {p : Addr} {vs : List V} (h : SqL K H p vs) : TyX K H (.ref p) (.type "list") := by
  rcases h with (h | ⟨o, h⟩) | ⟨o, its, n, h, c, _⟩
  · exact .base (.lst h)
  · exact .base (.frz h)
  · exact .kList h c
theorem ty_tup {K : PySem.W.Frag} {H : Hp} {p : Addr} {vs : List V} (h : SqT K H p vs) : TyX K H (.ref p) (.type "tuple") := by
  rcases h with (h | ⟨o, h⟩) | ⟨o, its, n, h, c, _⟩
  · exact .base (.tup h)
  · exact .fTuple h
  · exact .kTuple h c
theorem kd_ty {H0 G H : Hp} {r : R} {v : V} {k : Kd} (x : ExG G H) (rr : RR K H0 G H r v) (e : kd r = some k) : TyX K H v (.type k.name) := by
  cases r with
  | val d =>
    cases d with
    | non => cases e; cases rr; exact .base .non
    | bl b => cases e; cases rr; exact .base (.bl b)
    | int b => cases e; cases rr; exact .base (.int b)
    | str b => cases e; cases rr; exact .base (.str b)
    | lst ds =>
      cases e
      obtain ⟨p, vs, rfl, hs, _⟩ := rr_lst x rr rfl
      exact ty_lst hs
    | tup ds =>
      cases e
      obtain ⟨p, vs, rfl, hs, _⟩ := rr_tup x rr rfl
      exact ty_tup hs
    | ins _ _ => cases e
    | raw _ => cases e
  | own ds =>
    cases e
    obtain ⟨p, vs, rfl, hs, _⟩ := rr_lst x rr rfl
    exact ty_lst hs
  | peek ds =>
    cases e
    obtain ⟨p, vs, rfl, hs, _⟩ := rr_lst x rr rfl
    exact ty_lst hs
  | gen => cases e
theorem kit_kd (a b : Kd) (hb : b ≠ .non) : kitB a.name b.name = some (a.isa b) := by
  cases b with
  | non => exact absurd rfl hb
  | bool => cases a <;> decide +kernel
  | int => cases a <;> decide +kernel
  | str => cases a <;> decide +kernel
  | list => cases a <;> decide +kernel
  | tuple => cases a <;> decide +kernel
def fIsi (cs : List Kd) : F1 := fun r Q => match kd r with
  | some k => Q (.val (.bl (cs.any k.isa)))
  | none => False
theorem le_isi1 {c : Kd} (hc : c ≠ .non) (h : LE K B (dUn (fIsi [c]) ta) σ H Q) : tCB (rIsi K) (tCons (LE K B ta) (tCons (tC (.ty c.name)) tNil)) σ H Q := by
  obtain ⟨G, ρ, P, s, h, w⟩ := h
  refine ⟨G, ρ, _, s, h, fun r β hr v H1 G1 s1 b1 r1 f1 => ?_⟩
  unfold fIsi at hr
  split at hr
  case h_2 => exact hr.elim
  rename_i k e
  refine ⟨v, .ty c.name, _, _, k.isa c, rfl, .ty _, kd_ty s1.ex r1 e, kit_ty (kit_kd k c hc), ?_⟩
  have hr' : P (.val (.bl (k.isa c))) β := by
    have e2 : ([c].any k.isa) = k.isa c := by rw [List.any_cons, List.any_nil, Bool.or_false]
    rw [e2] at hr
    exact hr
  exact w _ _ hr' _ H1 G1 s1 b1 (.bl _) trivial
theorem boot_kd (c : Kd) (hc : c ≠ .non) : bootBuiltins (PySem.Str.ofString c.name) = some (.type c.name) := by
  cases c <;> first | exact absurd rfl hc | decide +kernel
theorem de_isi1 {x : Str} {p p2 : Pos} (c : Kd) (hm : X.mg "isinstance" = none) (hm2 : X.mg x = none) (ha : PE X a (LE X.K B ta)) (hx : bootBuiltins x = some (.type c.name) := by decide +kernel) (hc : c ≠ .non := by decide)
    (hg : Gl X "isinstance" := by rfl) (hg2 : Gl X x := by rfl) (hn : x ≠ "__name__" := by decide) (hdb : (x == ("__debug__" : Str)) = false := by decide)
    (he : starEach [a, .Name x p2] X.env = (false, eval a X.env) :: starEach [.Name x p2] X.env := by rfl) (he2 : starEach [.Name x p2] X.env = [(false, eval (.Name x p2) X.env)] := by rfl) (hpl : (backTo pos (starEach [.Name x p2] X.env)).any (·.1) = false := by rfl) :
    PE X (.Call (.Name "isinstance" p) [a, .Name x p2] [] pos) (LE X.K B (dUn (fIsi [c]) ta)) :=
  PEi (pe_callB call_isi hg hm (by decide +kernel) (pa_cons ha (pa_cons (pe_bltn (v := .ty c.name) hg2 hm2 hx rfl hn hdb) pa_nil he2) he) (by decide) (by decide) he hpl) fun _ _ _ => le_isi1 hc
theorem le_isi2 {c d : Kd} (hc : c ≠ .non) (hd : d ≠ .non) (h : LE K B (dUn (fIsi [c, d]) ta) σ H Q) : tCB (rIsiT K) (tCons (LE K B ta) (tCons (tTup (tCons (tC (.ty c.name)) (tCons (tC (.ty d.name)) tNil))) tNil)) σ H Q := by
  obtain ⟨G, ρ, P, s, h, w⟩ := h
  refine ⟨G, ρ, _, s, h, fun r β hr v H1 G1 s1 b1 r1 f1 => ?_⟩
  unfold fIsi at hr
  split at hr
  case h_2 => exact hr.elim
  rename_i k e
  refine ⟨by show 2 ≤ sizeLine; decide, fun p hp => ?_⟩
  have e2 : ([c, d].any k.isa) = (k.isa c || k.isa d) := by rw [List.any_cons, List.any_cons, List.any_nil, Bool.or_false]
  rw [e2] at hr
  have x2 := Stp.new (o := .tup [.ty c.name, .ty d.name]) s1.ex hp
  refine ⟨v, p, _, _, _, k.isa c || k.isa d, rfl, upd_same, .cons (.ty _) (.cons (.ty _) .nil), kd_ty x2.ex (r1.step s1.ex x2) e, kitAny_cons (kit_ty (kit_kd k c hc)) (fun z => ?_) (fun z => ?_), ?_⟩
  · rw [z, Bool.false_or]
    exact kitAny_cons (kit_ty (kit_kd k d hd)) (fun z => by rw [z]; exact kitAny_nil) fun z => z
  · rw [z, Bool.true_or]
  · exact w _ _ hr _ _ G1 (s1.trans x2) (b1.upd not_soft_tup) (.bl _) trivial
theorem de_isi2 {x y : Str} {p p2 p3 p4 : Pos} {k4 : Nat} (c d : Kd) (hm : X.mg "isinstance" = none) (hm2 : X.mg x = none) (hm3 : X.mg y = none) (ha : PE X a (LE X.K B ta)) (hx : bootBuiltins x = some (.type c.name) := by decide +kernel) (hy : bootBuiltins y = some (.type d.name) := by decide +kernel) (hc : c ≠ .non := by decide) (hd : d ≠ .non := by decide)
    (hg : Gl X "isinstance" := by rfl) (hg2 : Gl X x := by rfl) (hg3 : Gl X y := by rfl) (hn : x ≠ "__name__" := by decide) (hdb : (x == ("__debug__" : Str)) = false := by decide) (hn2 : y ≠ "__name__" := by decide) (hdb2 : (y == ("__debug__" : Str)) = false := by decide)
    (he : starEach [a, .Tuple [.Name x p2, .Name y p3] k4 p4] X.env = (false, eval a X.env) :: starEach [.Tuple [.Name x p2, .Name y p3] k4 p4] X.env := by rfl) (he2 : starEach [.Tuple [.Name x p2, .Name y p3] k4 p4] X.env = [(false, eval (.Tuple [.Name x p2, .Name y p3] k4 p4) X.env)] := by rfl)
    (hpl : (backTo pos (starEach [.Tuple [.Name x p2, .Name y p3] k4 p4] X.env)).any (·.1) = false := by rfl) :
    PE X (.Call (.Name "isinstance" p) [a, .Tuple [.Name x p2, .Name y p3] k4 p4] [] pos) (LE X.K B (dUn (fIsi [c, d]) ta)) :=
  PEi (pe_callB call_isiT hg hm (by decide +kernel) (pa_cons ha (pa_cons (pe_tup (pa_cons (pe_bltn (v := .ty c.name) hg2 hm2 hx rfl hn hdb) (pa_cons (pe_bltn (v := .ty d.name) hg3 hm3 hy rfl hn2 hdb2) pa_nil))) pa_nil he2) he) (by decide) (by decide) he hpl) fun _ _ _ => le_isi2 hc hd
/-! ### in, not in -/
def D.flat : D → Bool
  | .non => true
  | .bl _ => true
  | .int _ => true
  | .str _ => true
  | _ => false
theorem flat_eqv {K : PySem.W.Frag} {G : Hp} {v w : V} {d e : D} (r : Rep K G v d) (q : Rep K G w e) (hd : d.flat = true) (he : e.flat = true) : flatV v = true ∧ flatV w = true ∧ eqV v w = D.eqv d e := by
  cases d <;> first | cases hd | skip
  all_goals
    cases r
    cases e <;> first | cases he | skip
    all_goals
      cases q
      exact ⟨rfl, rfl, by simp only [D.eqv, D.py] <;> rfl⟩
theorem flat_any {K : PySem.W.Frag} {G : Hp} {w : V} {d : D} (r : Rep K G w d) (hd : d.flat = true) : ∀ {vs : List V} {ds : List D}, RepAll K G vs ds → ds.all D.flat = true → vs.all flatV = true ∧ inV w vs = ds.any fun z => z.eqv d
  | _, _, .nil, _ => ⟨rfl, rfl⟩
  | v :: vs, e :: ds, .cons q t, h => by
    rw [List.all_cons, Bool.and_eq_true] at h
    obtain ⟨h1, h2, h3⟩ := flat_eqv q r h.1 hd
    obtain ⟨i1, i2⟩ := flat_any r hd t h.2
    refine ⟨by rw [List.all_cons, h1, i1]; rfl, ?_⟩
    unfold inV at i2 ⊢
    rw [List.any_cons, List.any_cons, i2, h3]
def fIn (neg : Bool) : F2 := fun a b Q => match look a, look b with
  | some d, some (.lst ds) => D.shps 62 ds ∧ D.shp 62 d ∧ Q (.val (.bl (neg != ds.any fun z => z.eqv d)))
  | some d, some (.tup ds) => ds.all D.flat = true ∧ d.flat = true ∧ Q (.val (.bl (neg != ds.any fun z => z.eqv d)))
  | _, _ => False
def rInA (K : PySem.W.Frag) : R2 := fun x y H Q => rInD K x y H Q ∨ rIn K false x y H Q
def rNotInA (K : PySem.W.Frag) : R2 := fun x y H Q => rNotInD K x y H Q ∨ rIn K true x y H Q
theorem op_inA (hu : X.A.units + 65 < cLine) : OpR X (compareOp .In) (rInA X.K) := (op_inD hu).or op_in_seq
theorem op_notinA (hu : X.A.units + 65 < cLine) : OpR X (compareOp .NotIn) (rNotInA X.K) := (op_notInD hu).or op_notIn_seq
theorem any_py {d : D} {ds : List D} : ((D.pys ds).any fun z => PyData.eqv z d.py) = ds.any fun z => z.eqv d := by
  rw [pys_map, List.any_map]
  rfl
theorem in_core {H0 G H : Hp} {neg : Bool} {a b : R} {v w : V} {Q' : R → Prop} {Q : VK} (x : ExG G H) (ra : RR K H0 G H a v) (rb : RR K H0 G H b w) (h : fIn neg a b Q')
    (q : ∀ z u H' G', Stp G H G' H' → (∀ β, Bud H β → Bud H' β) → RR K H0 G' H' z u → RF H z u → Q' z → Q u H') :
    (∃ d ds, Dp K H v d ∧ Dp K H w (.list ds) ∧ SeqAt.shaped d = true ∧ SeqAt.shaped (.list ds) = true ∧ Q (.bl (neg != ds.any fun z => PyData.eqv z d)) H) ∨
    (∃ p xs, w = .ref p ∧ (SqL K H p xs ∨ SqT K H p xs) ∧ flatV v = true ∧ xs.all flatV = true ∧ Q (.bl (neg != inV v xs)) H) := by
  unfold fIn at h
  split at h
  · rename_i d ds h1 h2
    obtain ⟨s1, s2, h⟩ := h
    have dl := rep_dp (rr_look x rb h2) (shp_lst (n := 62) |>.mpr s1)
    have e := shp_shaped (shp_lst (n := 62) |>.mpr s1) (by decide)
    rw [D.py] at dl e
    refine .inl ⟨d.py, D.pys ds, rep_dp (rr_look x ra h1) s2, dl, shp_shaped s2 (by decide), e, ?_⟩
    rw [any_py]
    exact fin_val x q (.bl _) h
  · rename_i d ds h1 h2
    obtain ⟨s1, s2, h⟩ := h
    obtain ⟨p, vs, rfl, hs, rs⟩ := rr_tup x rb h2
    have r1 := rr_look x ra h1
    obtain ⟨i1, i2⟩ := flat_any r1 s2 (rs.mono x.sub) s1
    have fv : flatV v = true := by
      cases d <;> first | (cases r1; rfl) | cases s2
    refine .inr ⟨p, vs, rfl, .inr hs, fv, i1, ?_⟩
    rw [i2]
    exact fin_val x q (.bl _) h
  · exact h.elim
theorem c_in : OpC K (rInA K) (fIn false) := by
  intro H0 G H a b v w Q' Q x k ra rb h q
  rcases in_core x ra rb h q with ⟨d, ds, h1, h2, h3, h4, h5⟩ | ⟨p, xs, h1, h2, h3, h4, h5⟩
  · rw [Bool.false_bne] at h5
    exact .inl ⟨d, ds, h1, h2, h3, h4, h5⟩
  · rw [Bool.false_bne] at h5
    exact .inr ⟨p, xs, h1, h2, h3, h4, by rw [if_neg Bool.false_ne_true]; exact h5⟩
theorem c_notin : OpC K (rNotInA K) (fIn true) := by
  intro H0 G H a b v w Q' Q x k ra rb h q
  rcases in_core x ra rb h q with ⟨d, ds, h1, h2, h3, h4, h5⟩ | ⟨p, xs, h1, h2, h3, h4, h5⟩
  · rw [Bool.true_bne] at h5
    exact .inl ⟨d, ds, h1, h2, h3, h4, h5⟩
  · rw [Bool.true_bne] at h5
    exact .inr ⟨p, xs, h1, h2, h3, h4, by rw [if_pos rfl]; exact h5⟩
/-! ### sorted of ints; a list copied; a list or number times a number -/
def fSorted : F1 := fun a Q => ∃ ds ns, look a = some (.lst ds) ∧ D.intsOf ds = some ns ∧ ns.length < 64 ∧ ∀ ms : List Int, ms.Perm ns → ms.Pairwise (· ≤ ·) → Q (.own (ms.map D.int))
theorem c_sorted : CaC K (rSorted K) fSorted := by
  intro H0 G H a v Q' Q x k ra h q
  obtain ⟨ds, ns, h1, h2, h3, h⟩ := h
  obtain ⟨p, rfl, hs⟩ := rr_ints x ra h1 h2
  exact ⟨p, ns, rfl, hs, h3, fun ms l h4 h5 hl => fin_new x k q (RepAll.ofInts ms) (h ms h4 h5) hl⟩
def fList : F1 := fun a Q => match look a with
  | some (.lst ds) => Q (.own ds)
  | some (.tup ds) => Q (.own ds)
  | _ => False
theorem c_list : CaC K (fun xs H Q => ∃ p ys, xs = [.ref p] ∧ (SqL K H p ys ∨ SqT K H p ys) ∧ ∀ l, H l = none → Q (.ref l) (upd H l (.lst ys))) fList := by
  intro H0 G H a v Q' Q x k ra h q
  unfold fList at h
  split at h
  · rename_i ds h1
    obtain ⟨p, vs, rfl, hs, rs⟩ := rr_lst x ra h1
    exact ⟨p, vs, rfl, .inl hs, fun l hl => fin_new x k q rs h hl⟩
  · rename_i ds h1
    obtain ⟨p, vs, rfl, hs, rs⟩ := rr_tup x ra h1
    exact ⟨p, vs, rfl, .inr hs, fun l hl => fin_new x k q rs h hl⟩
  · exact h.elim
end
end DL
namespace DL
open PySem L2 PySem.Spec PyProof.Rows
/-! ### a def's promise, where nothing is being shown (guards) -/
structure FnG (P : Program) (w : World) (K : PySem.W.Frag) (mg : Str → Option Value) (base : Heap) (CX : CXT) (k : Nat) (f : Addr) (fd : FuncData) (ps : List Str) (sp : Sp) : Prop where
  len : ∀ vs H Q E, sp vs H Q E → vs.length = ps.length
  go : ∀ (A : Around) (outer : List PySem.Env) (s : Shared) (H : Hp) (args : Args) (us : List Value) (vs : List V) (Q : VK) (E : XK),
    Room k A → A.guards = some [] → Env0 P w K mg base A outer s H → BindsTo s fd args (ps.zip us) → Vals vs us → sp vs H Q E → codeAny (model P w) A (.call (.ref f) args) (CR CX outer P w H s Q E) s
theorem FnG.mono {P : Program} {w : World} {K : PySem.W.Frag} {mg : Str → Option Value} {base : Heap} {CX : CXT} {j k : Nat} {f : Addr} {fd : FuncData} {ps : List Str} {sp : Sp} (F : FnG P w K mg base CX j f fd ps sp) (h : j ≤ k) :
    FnG P w K mg base CX k f fd ps sp := ⟨F.len, fun A outer s H args us vs Q E hr => F.go A outer s H args us vs Q E (hr.mono h)⟩
theorem FnG.imp {P : Program} {w : World} {K : PySem.W.Frag} {mg : Str → Option Value} {base : Heap} {CX : CXT} {k : Nat} {f : Addr} {fd : FuncData} {ps : List Str} {sp sp' : Sp} (F : FnG P w K mg base CX k f fd ps sp)
    (h : ∀ vs H Q E, sp' vs H Q E → sp vs H Q E) : FnG P w K mg base CX k f fd ps sp' :=
  ⟨fun vs H Q E q => F.len vs H Q E (h _ _ _ _ q), fun A outer s H args us vs Q E hr hg he hb hv hs => F.go A outer s H args us vs Q E hr hg he hb hv (h _ _ _ _ hs)⟩
theorem fnG_of {CX : CXT} {P : Program} {w : World} {K : PySem.W.Frag} {mg : Str → Option Value} {base : Heap} {k : Nat} {f : Addr} {name qual : Str} {params : Arguments} {body : List Stmt} {scope : Scope} {dV kV doc pm cdv ct oc : Value} {an od : Option Addr}
    {osl : Array (Option Value)} {N ps : List Str} {sp : Sp} (lk : K.lookup f = some ⟨oc, od, .func (PySem.W.fnOf name qual params body scope dV kV doc pm an cdv ct), osl⟩) (hcd : PySem.W.codeIn K cdv qual = true) (S : FnScope N ps scope)
    (len : ∀ vs H Q E, sp vs H Q E → vs.length = ps.length)
    (hb : ∀ (A : Around) (outer : List PySem.Env) (s : Shared) (H : Hp) (vs : List V) (Q : VK) (E : XK), Room k (A.deeper (envOfC qual scope s.heap.objs.size f cdv)) → A.guards = some [] → sp vs H Q E →
      ∃ t, PSs (cxOf CX P w K mg base N qual scope f cdv A outer s H E) body t ∧ t { nx := fun _ H' => Q .non H', rt := Q } (start N vs) H) :
    FnG P w K mg base CX (k + 1) f (PySem.W.fnOf name qual params body scope dV kV doc pm an cdv ct) ps sp where
  len := len
  go := by
    intro A outer s H args us vs Q E room gd e0 bind rel want
    have inK : K.In s.heap := e0.mod.kin.keeps fun b o e => (e0.bs b o e).1
    refine codeAny_call_function room.depth (inK _ _ lk) rfl S.co S.gen rfl (PySem.W.codeRec_of inK hcd) (bind _ _ _ _ ?_)
    refine wpAny_newFunctionEnv_cells S.kind ?_ fun env he s1 x => ?_
    · rintro ⟨n, v⟩ hy
      exact (S.par n (List.of_mem_zip hy).1).elim (fun q => .inl q) fun q => .inr ⟨q, PySem.W.cellsFrom_some _ _ _ (.inl q)⟩
    · subst he
      refine ⟨(e0.mod.nolimit.keeps fun b o e => (e0.bs b o e).1).keeps x.toInCall.keep, codeAny_func ?_⟩
      obtain ⟨t, ht, hq⟩ := hb A outer s H vs Q E (room.deeper _) gd want
      have I0 := inv_start (E := E) (CX := CX) (cd := cdv) (N := N) (f := f) S room.hd e0 (len _ _ _ _ want) rel x
      refine wpAny_mono (ht.run [] s1 _ H _ I0 hq) (fun fl s' hs => ?_) fun _ _ hs => hs
      cases fl with
      | brk => exact let ⟨_, _, _, q⟩ := hs; False.elim q
      | cont => exact let ⟨_, _, _, q⟩ := hs; False.elim q
      | next => exact let ⟨σ', H', J, q⟩ := hs; ⟨V.non, H', J.os, J.bare, J.base, J.hok, rfl, q⟩
      | ret u => exact let ⟨v, σ', H', J, rv, q⟩ := hs; ⟨v, H', J.os, J.bare, J.base, J.hok, rv, q⟩
/-! ### calls -/
section
variable {X : Cx} {CX : CXT} {k : Nat} {f : Addr} {fd : FuncData} {ps : List Str} {sp : Sp} {dvs : List V} {dfs : List Value} {E : XK} {x : Str} {p pos : Pos} {e : Expr} {es : List Expr} {t tk : TA} {kws : List Keyword} {ks : List Str} {g : List Value → List Value → List Value} {gV : List V → List V → List V}
theorem back_ok {pins : List (Addr × Obj)} {σ : SL} {H : Hp} {s s' : Shared} {Q : VK} {r : Result} (hx : Passes CX X E) (I : Inv X pins σ H s) (hq : CR CX X.stack X.prog X.w H s Q E r s') :
    (match r with | .ok (.ret u) => EP X pins σ Q u s' | .error z => X.xe z s' | _ => False) := by
  cases r with
  | error z => exact hx pins σ H s z s' I hq
  | ok fl =>
    cases fl with
    | ret u => exact I.after hq
    | _ => exact False.elim hq
theorem pe_g (F : FnG X.prog X.w X.K X.mg X.base CX k f fd ps sp) (hr : Room k X.A) (hgu : X.A.guards = some []) (hm : X.mg x = some (.ref f)) (hk : PySem.W.keepIn X.K (.ref f) = true) (hb : Binds X.K fd ps dfs) (hd : Vals dvs dfs) (hx : Passes CX X E)
    (ha : PA X (e :: es) t) (hg : Gl X x := by rfl) (hdb : (x == ("__debug__" : Str)) = false := by decide) (he : starEach (e :: es) X.env = (false, eval e X.env) :: starEach es X.env := by rfl) (hpl : (backTo pos (starEach es X.env)).any (·.1) = false := by rfl) :
    PE X (.Call (.Name x p) (e :: es) [] pos) (tCall sp dvs E t) := ⟨fun pins s σ H Q I h => by
  refine wpAny_Call_Name_kw (ld_glob I hg hm ?_ hdb)
  refine PySem.W.callWith_K (h₀ := X.base) I.ok.mod.kin hk (thn (ha.run pos pins s σ H _ I h) ?_) he hpl
  rintro us s1 ⟨vs, H1, I1, r, q⟩
  have r2 : Vals (vs ++ dvs) (us ++ dfs) := r.append hd
  exact ⟨I1.kIn, wpAny_call (codeAny_mono (F.go X.A X.stack s1 H1 ⟨us, []⟩ _ _ Q E hr hgu I1.env0 (hb s1 us I1.kIn (r2.length.symm.trans (F.len _ _ _ _ q))) r2 q) fun z s' hq => (by
    have b := back_ok hx I1 hq
    cases z with
    | error z => exact b
    | ok fl => cases fl <;> first | exact b | exact b.elim))⟩⟩
theorem pe_g0 (F : FnG X.prog X.w X.K X.mg X.base CX k f fd ps sp) (hr : Room k X.A) (hgu : X.A.guards = some []) (hm : X.mg x = some (.ref f)) (hk : PySem.W.keepIn X.K (.ref f) = true) (hb : Binds X.K fd ps dfs) (hd : Vals dvs dfs) (hx : Passes CX X E)
    (hg : Gl X x := by rfl) (hdb : (x == ("__debug__" : Str)) = false := by decide) : PE X (.Call (.Name x p) [] [] pos) (tCall sp dvs E tNil) := ⟨fun pins s σ H Q I h => by
  refine wpAny_Call_Name_kw (ld_glob I hg hm ?_ hdb)
  have q : sp ([] ++ dvs) H Q E := h
  have r2 : Vals ([] ++ dvs) ([] ++ dfs) := Vals.append .nil hd
  exact PySem.W.callWith_K0 I.kIn hk (wpAny_call (codeAny_mono (F.go X.A X.stack s H ⟨[], []⟩ _ _ Q E hr hgu I.env0 (hb s [] I.kIn (r2.length.symm.trans (F.len _ _ _ _ q))) r2 q) fun z s' hq => (by
    have b := back_ok hx I hq
    cases z with
    | error z => exact b
    | ok fl => cases fl <;> first | exact b | exact b.elim)))⟩
/-- arguments by keywords: the values by the places told -/
def pick {α : Type} (ix : List Nat) (l : List α) : List α := ix.filterMap fun i => l[i]?
theorem pick_vals : ∀ {ix : List Nat} {vs : List V} {us : List Value}, Vals vs us → Vals (pick ix vs) (pick ix us)
  | [], _, _, _ => .nil
  | i :: ix, vs, us, r => by
    unfold pick
    rw [List.filterMap_cons, List.filterMap_cons]
    have t := pick_vals (ix := ix) r
    unfold pick at t
    cases q : vs[i]? with
    | none =>
      rw [r.none_of q]
      exact t
    | some v =>
      obtain ⟨u, hu, ru⟩ := r.get q
      rw [hu]
      exact .cons ru t
def KB (K : PySem.W.Frag) (fd : FuncData) (ps ks : List Str) (m : Nat) (ix : List Nat) : Prop :=
  ∀ (s : Shared) (us ws : List Value), K.In s.heap → us.length = m → ws.length = ks.length → BindsTo s fd ⟨us, ks.zip ws⟩ (ps.zip (pick ix (us ++ ws)))
def tCallKw (sp : Sp) (ix : List Nat) (m n : Nat) (E : XK) (t tk : TA) : TE := fun σ H Q => t σ H fun vs H1 => tk σ H1 fun zs H2 => vs.length = m ∧ zs.length = n ∧ sp (pick ix (vs ++ zs)) H2 Q E
section
variable {ix : List Nat} {m : Nat}
theorem kw_core {pins : List (Addr × Obj)} {σ : SL} {H : Hp} {s : Shared} {Q : VK} {us ws : List Value} {vs zs : List V} (F : FnG X.prog X.w X.K X.mg X.base CX k f fd ps sp) (hr : Room k X.A) (hgu : X.A.guards = some []) (hb : KB X.K fd ps ks m ix) (hx : Passes CX X E)
    (I : Inv X pins σ H s) (r : Vals vs us) (rz : Vals zs ws) (h1 : vs.length = m) (h2 : zs.length = ks.length) (h : sp (pick ix (vs ++ zs)) H Q E) : wpAny (model X.prog X.w) X.A (call (.ref f) us (ks.zip ws)) (EP X pins σ Q) X.xe s := by
  have b0 := hb s us ws I.kIn (by rw [← r.length]; exact h1) (by rw [← rz.length]; exact h2)
  refine wpAny_call (codeAny_mono (F.go X.A X.stack s H _ _ _ Q E hr hgu I.env0 b0 (pick_vals (r.append rz)) h) fun z s' hq => ?_)
  have b := back_ok hx I hq
  cases z with
  | error z => exact b
  | ok fl => cases fl <;> first | exact b | exact b.elim
theorem pe_gK (F : FnG X.prog X.w X.K X.mg X.base CX k f fd ps sp) (hr : Room k X.A) (hgu : X.A.guards = some []) (hm : X.mg x = some (.ref f)) (hk : PySem.W.keepIn X.K (.ref f) = true) (hb : KB X.K fd ps ks m ix) (hx : Passes CX X E)
    (ha : PA X (e :: es) t) (hkw : PK X kws tk) (hg : Gl X x := by rfl) (hall : (backToKw pos (keywordEach kws X.env)).all (·.1.isSome) = true := by rfl) (hks : (backToKw pos (keywordEach kws X.env)).filterMap (·.1) = ks := by rfl)
    (hdb : (x == ("__debug__" : Str)) = false := by decide) (he : starEach (e :: es) X.env = (false, eval e X.env) :: starEach es X.env := by rfl)
    (hpl : ((backTo pos (starEach (e :: es) X.env)).any (·.1) || (backToKw pos (keywordEach kws X.env)).any (·.1.isNone)) = false := by rfl) :
    PE X (.Call (.Name x p) (e :: es) kws pos) (tCallKw sp ix m ks.length E t tk) := ⟨fun pins s σ H Q I h => by
  refine wpAny_Call_Name_kw (ld_glob I hg hm ?_ hdb)
  refine PySem.W.callWith_KW (h₀ := X.base) I.ok.mod.kin hk hall (thn (ha.run pos pins s σ H _ I h) ?_) hpl he
  rintro us s1 ⟨vs, H1, I1, r, q⟩
  refine thn (hkw.run pos pins s1 σ H1 _ I1 q) ?_
  rintro ws s2 ⟨zs, H2, I2, rz, h1, h2, q2⟩
  rw [hks]
  exact ⟨I2.kIn, kw_core F hr hgu hb hx I2 r rz h1 h2 q2⟩⟩
theorem pe_gK0 (F : FnG X.prog X.w X.K X.mg X.base CX k f fd ps sp) (hr : Room k X.A) (hgu : X.A.guards = some []) (hm : X.mg x = some (.ref f)) (hk : PySem.W.keepIn X.K (.ref f) = true) (hb : KB X.K fd ps ks 0 ix) (hx : Passes CX X E)
    (hkw : PK X kws tk) (hg : Gl X x := by rfl) (hall : (backToKw pos (keywordEach kws X.env)).all (·.1.isSome) = true := by rfl) (hks : (backToKw pos (keywordEach kws X.env)).filterMap (·.1) = ks := by rfl)
    (hdb : (x == ("__debug__" : Str)) = false := by decide)
    (hpl : ((backTo pos (starEach [] X.env)).any (·.1) || (backToKw pos (keywordEach kws X.env)).any (·.1.isNone)) = false := by rfl) :
    PE X (.Call (.Name x p) [] kws pos) (tCallKw sp ix 0 ks.length E tNil tk) := ⟨fun pins s σ H Q I h => by
  refine wpAny_Call_Name_kw (ld_glob I hg hm ?_ hdb)
  refine PySem.W.callWith_KW0 (h₀ := X.base) I.ok.mod.kin hk hall ?_ hpl
  refine thn (hkw.run pos pins s σ H _ I h) ?_
  rintro ws s2 ⟨zs, H2, I2, rz, h1, h2, q2⟩
  rw [hks]
  exact ⟨I2.kIn, kw_core F hr hgu hb hx I2 .nil rz h1 h2 q2⟩⟩
end
end
/-! ### promises over data -/
abbrev EK := Addr → D → Nat → Prop
abbrev DSpec := List R → Nat → (R → Nat → Prop) → EK → Prop
def spD (K : PySem.W.Frag) (T : DSpec) : Sp := fun vs H Q E => ∃ G rs β PQ PE, ExG G H ∧ Bud H β ∧ RRs K H G H rs vs ∧ T rs β PQ PE ∧
  (∀ r β', PQ r β' → ∀ v H' G', Stp G H G' H' → Bud H' β' → RR K H G' H' r v → Q v H') ∧ HX K ⟨G, H⟩ PE E
def noE : EK := fun _ _ _ => False
def dCall (T : DSpec) (EX : EK) (ta : DA) : DE := fun ρ Q => ta ρ fun rs β => T rs β Q EX
def dCallK (T : DSpec) (EX : EK) (ix : List Nat) (m n : Nat) (ta tk : DA) : DE := fun ρ Q => ta ρ fun rs β => tk ⟨ρ.sl, β⟩ fun zs β' => rs.length = m ∧ zs.length = n ∧ T (pick ix (rs ++ zs)) β' Q EX
section
variable {X : Cx} {K : PySem.W.Frag} {B : Ba} {EX : EK} {E : XK} {T : DSpec} {ta tk : DA} {σ : SL} {H : Hp} {Q : VK}
theorem RRs.to {H0 H1 G H : Hp} : ∀ {rs : List R} {vs : List V}, RRs K H0 G H rs vs → (∀ r ∈ rs, (∃ d, r = .val d) ∨ r = .gen) → RRs K H1 G H rs vs
  | _, _, .nil, _ => .nil
  | r :: rs, _, .cons a t, h => by
    refine .cons ?_ (t.to fun r hr => h r (List.mem_cons_of_mem _ hr))
    rcases h r (List.mem_cons_self ..) with ⟨d, rfl⟩ | rfl
    · exact a
    · exact a
/-- frozen values alone -/
def Fz (rs : List R) : Prop := ∀ r ∈ rs, (∃ d, r = .val d) ∨ r = .gen
theorem RR.frz {H0 G H : Hp} {r : R} {v : V} (h : RR K H0 G H r v) (hr : (∃ d, r = .val d) ∨ r = .gen) (H1 : Hp) : RR K H1 G H r v := by
  rcases hr with ⟨d, rfl⟩ | rfl
  · exact h
  · exact h
/-- what is wished passes on to a callee's later base -/
theorem HX.on {G H : Hp} (hx : HX K B EX E) (s : Stp B.G B.H G H) : HX K ⟨G, H⟩ EX E := fun C d β H' G' p r e => hx C d β H' G' p ⟨s.trans r.stp, r.bd, r.rr⟩ e
theorem RR.base {H0 H1 G H : Hp} {r : R} {v : V} (k : Keep H0 H1) (h : RR K H1 G H r v) : RR K H0 G H r v ∧ RF H1 r v := by
  cases r with
  | val d => exact ⟨h, trivial⟩
  | own ds =>
    obtain ⟨p, vs, e, hp, rs, g, h0⟩ := h.ex
    exact ⟨⟨p, vs, e, hp, rs, g, back_none k h0⟩, p, e, h0⟩
  | peek ds =>
    obtain ⟨p, vs, e, hp, rs, g, h0⟩ := h.ex
    exact ⟨⟨p, vs, e, hp, rs, g, back_none k h0⟩, trivial⟩
  | gen => exact ⟨h, trivial⟩
end
/-- the arguments of a call are frozen: the reading says so -/
def LAf (K : PySem.W.Frag) (B : Ba) (t : DA) : TA := fun σ H Q => ∃ G ρ P, FS K B G ρ σ H ∧ t ρ P ∧ ∀ rs β', P rs β' → ∀ vs H' G', Stp G H G' H' → Bud H' β' → (∀ H0, RRs K H0 G' H' rs vs) → Q vs H'
section
variable {X : Cx} {K : PySem.W.Frag} {B : Ba} {EX : EK} {E : XK} {T : DSpec} {ta tk : DA} {te : DE} {σ : SL} {H : Hp} {Q : VK} {e : Expr} {es : List Expr}
theorem laf_nil {Q : List V → Hp → Prop} (h : LAf K B dNil σ H Q) : tNil σ H Q := by
  obtain ⟨G, ρ, P, s, h, w⟩ := h
  exact w _ _ h [] H G (Stp.refl s.ex) s.bd fun _ => .nil
theorem laf_cons {t : DA} {Q : List V → Hp → Prop} (h : LAf K B (dCons te t) σ H Q) : tCons (LE K B te) (LAf K B t) σ H Q := by
  obtain ⟨G, ρ, P, s, h, w⟩ := h
  refine ⟨G, ρ, _, s, h, fun r β hr v H1 G1 s1 b1 r1 f1 => ?_⟩
  obtain ⟨G2, r', s2, _, rr, sb, q⟩ := dur_step s1 r1 f1 hr
  refine ⟨G2, ⟨ρ.sl, β⟩, _, s.step s2 b1, q, fun rs β' hq vs H3 G3 s3 b3 r3 => ?_⟩
  exact w _ β' hq _ H3 G3 (s2.trans s3) b3 fun H0 => .cons ((rr H0).step s2.ex s3) (r3 H0)
theorem daf_nil : PA X [] (LAf X.K B dNil) := PAi pa_nil fun _ _ _ => laf_nil
theorem daf_cons {t : DA} (ha : PE X e (LE X.K B te)) (hr : PA X es (LAf X.K B t)) (hs : starEach (e :: es) X.env = (false, eval e X.env) :: starEach es X.env := by rfl) : PA X (e :: es) (LAf X.K B (dCons te t)) :=
  PAi (pa_cons ha hr hs) fun _ _ _ => laf_cons
theorem dk_nil : PK X [] (LAf X.K B dNil) := ⟨fun pos pins s σ H Q I h => pk_nil.run pos pins s σ H Q I (laf_nil h)⟩
theorem dk_cons {t : DA} {nm : Option Str} {kpos : Pos} {kws : List Keyword} (ha : PE X e (LE X.K B te)) (hr : PK X kws (LAf X.K B t)) : PK X (⟨nm, e, kpos⟩ :: kws) (LAf X.K B (dCons te t)) := ⟨fun pos pins s σ H Q I h => (pk_cons ha hr).run pos pins s σ H Q I (laf_cons h)⟩
theorem le_call (hx : HX K B EX E) (h : LE K B (dCall T EX ta) σ H Q) : tCall (spD K T) [] E (LAf K B ta) σ H Q := by
  obtain ⟨G, ρ, P, s, h, w⟩ := h
  refine ⟨G, ρ, _, s, h, fun rs β hr vs H1 G1 s1 b1 r1 => ?_⟩
  show spD K T (vs ++ []) H1 Q E
  rw [List.append_nil]
  refine ⟨G1, rs, β, P, EX, s1.ex, b1, r1 H1, hr, fun r β' hp v H2 G2 s2 b2 r2 => ?_, hx.on (s.stp.trans s1)⟩
  obtain ⟨r3, f3⟩ := r2.base (s.stp.kp.trans s1.kp)
  exact w r β' hp v H2 G2 (s1.trans s2) b2 r3 (f3.back s1.kp)
theorem pick_rr {H0 G H : Hp} : ∀ {ix : List Nat} {rs : List R} {vs : List V}, RRs K H0 G H rs vs → RRs K H0 G H (pick ix rs) (pick ix vs)
  | [], _, _, _ => .nil
  | i :: ix, rs, vs, r => by
    unfold pick
    rw [List.filterMap_cons, List.filterMap_cons]
    have t := pick_rr (ix := ix) r
    unfold pick at t
    have g : ∀ {rs : List R} {vs : List V} (i : Nat), RRs K H0 G H rs vs → (rs[i]? = none ∧ vs[i]? = none) ∨ ∃ a b, rs[i]? = some a ∧ vs[i]? = some b ∧ RR K H0 G H a b := by
      intro rs vs i r
      induction r generalizing i with
      | nil => exact .inl ⟨by simp, by simp⟩
      | cons a t ih =>
        cases i with
        | zero => exact .inr ⟨_, _, rfl, rfl, a⟩
        | succ i =>
          rw [List.getElem?_cons_succ, List.getElem?_cons_succ]
          exact ih i
    rcases g i r with ⟨h1, h2⟩ | ⟨a, b, h1, h2, h3⟩
    · rw [h1, h2]
      exact t
    · rw [h1, h2]
      exact .cons h3 t
theorem RRs.append {H0 G H : Hp} : ∀ {rs ss : List R} {vs ws : List V}, RRs K H0 G H rs vs → RRs K H0 G H ss ws → RRs K H0 G H (rs ++ ss) (vs ++ ws)
  | _, _, _, _, .nil, q => q
  | _, _, _, _, .cons h t, q => .cons h (t.append q)
theorem le_callK {ix : List Nat} {m n : Nat} (hx : HX K B EX E) (h : LE K B (dCallK T EX ix m n ta tk) σ H Q) : tCallKw (spD K T) ix m n E (LAf K B ta) (LAf K B tk) σ H Q := by
  obtain ⟨G, ρ, P, s, h, w⟩ := h
  refine ⟨G, ρ, _, s, h, fun rs β hr vs H1 G1 s1 b1 r1 => ⟨G1, ⟨ρ.sl, β⟩, _, s.step s1 b1, hr, fun zs β1 hz ws H2 G2 s2 b2 r2 => ?_⟩⟩
  obtain ⟨h1, h2, hz⟩ := hz
  have r12 : RRs K H2 G2 H2 (rs ++ zs) (vs ++ ws) := ((r1 H2).step s1.ex s2).append (r2 H2)
  refine ⟨by rw [← (r1 H1).length]; exact h1, by rw [← (r2 H1).length]; exact h2, G2, _, β1, P, EX, s2.ex, b2, pick_rr r12, hz, fun r β' hp v H3 G3 s3 b3 r3 => ?_, hx.on ((s.stp.trans s1).trans s2)⟩
  obtain ⟨r4, f4⟩ := r3.base ((s.stp.kp.trans s1.kp).trans s2.kp)
  exact w r β' hp v H3 G3 ((s1.trans s2).trans s3) b3 r4 (f4.back (s1.kp.trans s2.kp))
variable {CX : CXT} {k : Nat} {f : Addr} {fd : FuncData} {ps ks : List Str} {x : Str} {p pos : Pos} {kws : List Keyword} {ix : List Nat} {m : Nat}
theorem de_call (F : FnG X.prog X.w X.K X.mg X.base CX k f fd ps (spD X.K T)) (hr : Room k X.A) (hgu : X.A.guards = some []) (hm : X.mg x = some (.ref f)) (hk : PySem.W.keepIn X.K (.ref f) = true) (hb : Binds X.K fd ps []) (hx : Passes CX X E) (he : HX X.K B EX E)
    (ha : PA X (e :: es) (LAf X.K B ta)) (hg : Gl X x := by rfl) (hdb : (x == ("__debug__" : Str)) = false := by decide) (hs : starEach (e :: es) X.env = (false, eval e X.env) :: starEach es X.env := by rfl) (hpl : (backTo pos (starEach es X.env)).any (·.1) = false := by rfl) :
    PE X (.Call (.Name x p) (e :: es) [] pos) (LE X.K B (dCall T EX ta)) := PEi (pe_g F hr hgu hm hk hb .nil hx ha hg hdb hs hpl) fun _ _ _ => le_call he
theorem de_call0 (F : FnG X.prog X.w X.K X.mg X.base CX k f fd ps (spD X.K T)) (hr : Room k X.A) (hgu : X.A.guards = some []) (hm : X.mg x = some (.ref f)) (hk : PySem.W.keepIn X.K (.ref f) = true) (hb : Binds X.K fd ps []) (hx : Passes CX X E) (he : HX X.K B EX E)
    (hg : Gl X x := by rfl) (hdb : (x == ("__debug__" : Str)) = false := by decide) :
    PE X (.Call (.Name x p) [] [] pos) (LE X.K B (dCall T EX dNil)) := PEi (pe_g0 F hr hgu hm hk hb .nil hx hg hdb) fun _ _ _ h => laf_nil (le_call he h)
theorem de_callK (F : FnG X.prog X.w X.K X.mg X.base CX k f fd ps (spD X.K T)) (hr : Room k X.A) (hgu : X.A.guards = some []) (hm : X.mg x = some (.ref f)) (hk : PySem.W.keepIn X.K (.ref f) = true) (hb : KB X.K fd ps ks m ix) (hx : Passes CX X E) (hex : HX X.K B EX E)
    (ha : PA X (e :: es) (LAf X.K B ta)) (hkw : PK X kws (LAf X.K B tk)) (hg : Gl X x := by rfl) (hall : (backToKw pos (keywordEach kws X.env)).all (·.1.isSome) = true := by rfl) (hks : (backToKw pos (keywordEach kws X.env)).filterMap (·.1) = ks := by rfl)
    (hdb : (x == ("__debug__" : Str)) = false := by decide) (he : starEach (e :: es) X.env = (false, eval e X.env) :: starEach es X.env := by rfl)
    (hpl : ((backTo pos (starEach (e :: es) X.env)).any (·.1) || (backToKw pos (keywordEach kws X.env)).any (·.1.isNone)) = false := by rfl) :
    PE X (.Call (.Name x p) (e :: es) kws pos) (LE X.K B (dCallK T EX ix m ks.length ta tk)) := PEi (pe_gK F hr hgu hm hk hb hx ha hkw hg hall hks hdb he hpl) fun _ _ _ => le_callK hex
theorem de_callK0 (F : FnG X.prog X.w X.K X.mg X.base CX k f fd ps (spD X.K T)) (hr : Room k X.A) (hgu : X.A.guards = some []) (hm : X.mg x = some (.ref f)) (hk : PySem.W.keepIn X.K (.ref f) = true) (hb : KB X.K fd ps ks 0 ix) (hx : Passes CX X E) (hex : HX X.K B EX E)
    (hkw : PK X kws (LAf X.K B tk)) (hg : Gl X x := by rfl) (hall : (backToKw pos (keywordEach kws X.env)).all (·.1.isSome) = true := by rfl) (hks : (backToKw pos (keywordEach kws X.env)).filterMap (·.1) = ks := by rfl)
    (hdb : (x == ("__debug__" : Str)) = false := by decide)
    (hpl : ((backTo pos (starEach [] X.env)).any (·.1) || (backToKw pos (keywordEach kws X.env)).any (·.1.isNone)) = false := by rfl) :
    PE X (.Call (.Name x p) [] kws pos) (LE X.K B (dCallK T EX ix 0 ks.length dNil tk)) := PEi (pe_gK0 F hr hgu hm hk hb hx hkw hg hall hks hdb hpl) fun _ _ _ h => laf_nil (le_callK hex h)
end
/-! ### a def by its body -/
def startR (N : List Str) (rs : List R) : List (Option R) := rs.map some ++ List.replicate (N.length - rs.length) none
def endsOf (PQ : R → Nat → Prop) : DEnds := { nx := fun ρ => PQ (.val .non) ρ.β, rt := fun r ρ => PQ r ρ.β }
section
variable {P : Program} {w : World} {K : PySem.W.Frag} {mg : Str → Option Value} {base : Heap}
theorem fs_start {N : List Str} {G H : Hp} {rs : List R} {vs : List V} {β : Nat} (x : ExG G H) (b : Bud H β) (r : RRs K H G H rs vs) (fz : Fz rs) (hl : rs.length ≤ N.length) : FS K ⟨G, H⟩ G ⟨startR N rs, β⟩ (L2.start N vs) H := by
  have lv := r.length
  have get : ∀ (i : Nat) (z : R), (startR N rs)[i]? = some (some z) → rs[i]? = some z := fun i z e => by
    unfold startR at e
    by_cases hi : i < rs.length
    · rw [List.getElem?_append_left (by simpa using hi), List.getElem?_map] at e
      cases q : rs[i]? with
      | none => rw [q] at e; cases e
      | some a => rw [q] at e; cases e; rfl
    · rw [List.getElem?_append_right (by simpa using hi), List.getElem?_replicate] at e
      split at e <;> cases e
  have fzi : ∀ (i : Nat) (z : R), rs[i]? = some z → (∃ d, z = .val d) ∨ z = .gen := fun i z e => fz z (List.mem_of_getElem? e)
  refine ⟨Stp.refl x, b, ?_, fun i z e => ?_, fun i j ds es p e1 => ?_, fun i ds e => ?_⟩
  · unfold startR L2.start
    simp only [List.length_append, List.length_map, List.length_replicate]
    rw [lv]
  · have e' := get i z e
    have go : ∀ {rs : List R} {vs : List V} {i : Nat}, RRs K H G H rs vs → rs[i]? = some z → ∃ v, vs[i]? = some v ∧ RR K H G H z v := by
      intro rs vs i r
      induction r generalizing i with
      | nil => intro e; cases e
      | cons a t ih =>
        intro e
        cases i with
        | zero => cases e; exact ⟨_, rfl, a⟩
        | succ i =>
          rw [List.getElem?_cons_succ] at e ⊢
          exact ih e
    obtain ⟨v, hv, rr⟩ := go r e'
    refine ⟨v, ?_, rr⟩
    unfold L2.start
    have hi : i < vs.length := (List.getElem?_eq_some_iff.mp hv).1
    rw [List.getElem?_append_left (by simpa using hi), List.getElem?_map, hv]
    rfl
  · rcases fzi i _ (get i _ e1) with ⟨d, q⟩ | q <;> cases q
  · rcases fzi i _ (get i _ e) with ⟨d, q⟩ | q <;> cases q
/-- THE RULE: a def that lets no exception out -/
theorem fnD {x qual : Str} {st : Stmt} {f : Addr} {fd : FuncData} {N ps : List Str} {k : Nat} {T : DSpec} (F : Fun K x qual st f fd) (S : FnScope N ps (defScope st)) (len : ∀ rs β Q E, T rs β Q E → rs.length = ps.length ∧ Fz rs) (t : DS)
    (hb : ∀ (cdv : Value) (A : Around) (outer : List PySem.Env) (s : Shared) (H G : Hp) (E : XK), Room k (A.deeper (envOfC qual (defScope st) s.heap.objs.size f cdv)) → A.guards = some [] →
      PSs (cxOf CX0 P w K mg base N qual (defScope st) f cdv A outer s H E).nox (defBody st) (LS K ⟨G, H⟩ t))
    (spec : ∀ rs β PQ PE, T rs β PQ PE → t (endsOf PQ) ⟨startR N rs, β⟩) : FnG P w K mg base CX0 (k + 1) f fd ps (spD K T) := by
  obtain ⟨oc, od, kV, doc, pm, an, cdv, ct, osl, rfl, lk, hcd⟩ := F.ex
  have hpl : ps.length ≤ N.length := by have := congrArg List.length S.pre; rw [List.length_take] at this; omega
  refine fnG_of lk hcd S (fun vs H Q E h => ?_) fun A outer s H vs Q E hr hg h => ?_
  · obtain ⟨G, rs, β, PQ, PE, x, b, r, hT, _⟩ := h
    rw [← r.length]
    exact (len _ _ _ _ hT).1
  · obtain ⟨G, rs, β, PQ, PE, x, b, r, hT, hq, hx⟩ := h
    obtain ⟨hl, fz⟩ := len _ _ _ _ hT
    refine ⟨LS K ⟨G, H⟩ t, (hb cdv A outer s H G E hr hg).nox, G, _, endsOf PQ, fs_start x b r fz (by rw [hl]; exact hpl), spec rs β PQ PE hT, ?_⟩
    exact ⟨fun σ' H' G' ρ' _ fs h => hq _ _ h _ H' G' fs.stp fs.bd .non, fun _ _ _ _ _ _ h => h.elim, fun _ _ _ _ _ _ h => h.elim, fun v σ' H' G' r' ρ' fs rr h => hq r' ρ'.β h v H' G' fs.stp fs.bd rr⟩
/-- a def that may raise -/
theorem fnDX {x qual : Str} {st : Stmt} {f : Addr} {fd : FuncData} {N ps : List Str} {k : Nat} {T : DSpec} (F : Fun K x qual st f fd) (S : FnScope N ps (defScope st)) (len : ∀ rs β Q E, T rs β Q E → rs.length = ps.length ∧ Fz rs) (t : EK → DS)
    (hb : ∀ (cdv : Value) (A : Around) (outer : List PySem.Env) (s : Shared) (H G : Hp) (E : XK) (EX : EK), Room k (A.deeper (envOfC qual (defScope st) s.heap.objs.size f cdv)) → A.guards = some [] → HX K ⟨G, H⟩ EX E →
      PSs (cxOf (L2.CX P w) P w K mg base N qual (defScope st) f cdv A outer s H E) (defBody st) (LS K ⟨G, H⟩ (t EX)))
    (spec : ∀ rs β PQ PE, T rs β PQ PE → t PE (endsOf PQ) ⟨startR N rs, β⟩) : FnG P w K mg base (L2.CX P w) (k + 1) f fd ps (spD K T) := by
  obtain ⟨oc, od, kV, doc, pm, an, cdv, ct, osl, rfl, lk, hcd⟩ := F.ex
  have hpl : ps.length ≤ N.length := by have := congrArg List.length S.pre; rw [List.length_take] at this; omega
  refine fnG_of lk hcd S (fun vs H Q E h => ?_) fun A outer s H vs Q E hr hg h => ?_
  · obtain ⟨G, rs, β, PQ, PE, x, b, r, hT, _⟩ := h
    rw [← r.length]
    exact (len _ _ _ _ hT).1
  · obtain ⟨G, rs, β, PQ, PE, x, b, r, hT, hq, hx⟩ := h
    obtain ⟨hl, fz⟩ := len _ _ _ _ hT
    refine ⟨LS K ⟨G, H⟩ (t PE), hb cdv A outer s H G E PE hr hg hx, G, _, endsOf PQ, fs_start x b r fz (by rw [hl]; exact hpl), spec rs β PQ PE hT, ?_⟩
    exact ⟨fun σ' H' G' ρ' _ fs h => hq _ _ h _ H' G' fs.stp fs.bd .non, fun _ _ _ _ _ _ h => h.elim, fun _ _ _ _ _ _ h => h.elim, fun v σ' H' G' r' ρ' fs rr h => hq r' ρ'.β h v H' G' fs.stp fs.bd rr⟩
end
end DL
namespace DL
open PySem L2
section
variable {X : Cx} {K : PySem.W.Frag} {B : Ba} {st : Stmt} {rest : List Stmt} {t u : DS} {e a b c : Expr} {te ta tb : DE} {tA : DT} {pos : Pos} {σ : SL} {H : Hp} {Dn : Ends}
/-! ### blocks -/
def dNext : DS := fun d ρ => d.nx ρ
def dSeq (t u : DS) : DS := fun d ρ => t { d with nx := u d } ρ
theorem LS.mk {G : Hp} {ρ : Env} {d : DEnds} (s : FS K B G ρ σ H) (h : t d ρ) (l : Le K B G d Dn) : LS K B t Dn σ H := ⟨G, ρ, d, s, h, l⟩
theorem ls_seq (h : LS K B (dSeq t u) Dn σ H) : tSeq (LS K B t) (LS K B u) Dn σ H := by
  obtain ⟨G, ρ, d, s, h, l⟩ := h
  exact ⟨G, ρ, { d with nx := u d }, s, h, ⟨fun σ' H' G' ρ' sb s' q => ⟨G', ρ', d, s', q, l.mono sb⟩, l.bk, l.ct, l.rt⟩⟩
theorem dss_nil : PSs X [] (LS X.K B dNext) := PSsi pss_nil fun Dn σ H h => by
  obtain ⟨G, ρ, d, s, h, l⟩ := h
  exact l.nx _ _ _ _ (Sub.refl _) s h
theorem dss_cons (h1 : PS X st (LS X.K B t)) (h2 : PSs X rest (LS X.K B u)) : PSs X (st :: rest) (LS X.K B (dSeq t u)) := PSsi (pss_cons h1 h2) fun _ _ _ => ls_seq
theorem dss_one (h1 : PS X st (LS X.K B t)) : PSs X [st] (LS X.K B t) := pss_one h1
/-- a join: what holds behind the first part is told -/
def dCut (J : Env → Prop) (t u : DS) : DS := fun d ρ => t { d with nx := J } ρ ∧ ∀ ρ', J ρ' → u d ρ'
theorem dss_cut (J : Env → Prop) (h1 : PS X st (LS X.K B t)) (h2 : PSs X rest (LS X.K B u)) : PSs X (st :: rest) (LS X.K B (dCut J t u)) := PSsi (pss_cons h1 h2) fun Dn σ H h => by
  obtain ⟨G, ρ, d, s, ⟨h, hj⟩, l⟩ := h
  exact ⟨G, ρ, { d with nx := J }, s, h, ⟨fun σ' H' G' ρ' sb s' q => ⟨G', ρ', d, s', hj ρ' q, l.mono sb⟩, l.bk, l.ct, l.rt⟩⟩
/-! ### freezing -/
def frz (i : Nat) (sl : List (Option R)) : List (Option R) := match sl[i]? with
  | some (some (.own ds)) => sl.set i (some (.val (.lst ds)))
  | _ => sl
theorem FS.frz {G : Hp} {ρ : Env} (s : FS K B G ρ σ H) (i : Nat) : ∃ G', Sub G G' ∧ FS K B G' ⟨DL.frz i ρ.sl, ρ.β⟩ σ H := by
  unfold DL.frz
  split
  case h_2 => exact ⟨G, Sub.refl G, s⟩
  rename_i ds e
  obtain ⟨v, ev, rr⟩ := s.sl i _ e
  obtain ⟨p, vs, e2, hp, rs, g, h0⟩ := rr.ex
  have il : i < ρ.sl.length := (List.getElem?_eq_some_iff.mp e).1
  have sb : Sub G (upd G p (.lst vs)) := sub_upd g
  refine ⟨upd G p (.lst vs), sb, ⟨s.stp.freeze h0 hp not_soft_lst, s.bd, by rw [List.length_set]; exact s.len, fun j r ej => ?_, fun j k es fs q e1 e3 e4 e5 => ?_, fun j es ej => ?_⟩⟩
  · by_cases hj : i = j
    · subst hj
      rw [List.getElem?_set_self il] at ej
      cases ej
      refine ⟨v, ev, ?_⟩
      rw [e2]
      exact Rep.lst (.inl (.inl upd_same)) (rs.mono sb)
    · rw [List.getElem?_set_ne hj] at ej
      obtain ⟨w, ew, rw'⟩ := s.sl j r ej
      refine ⟨w, ew, ?_⟩
      have own : ∀ es, Own K B.H G H es w → (∀ q, w = .ref q → q ≠ p) → Own K B.H (upd G p (.lst vs)) H es w := fun es o hne => by
        obtain ⟨q, ws, e6, hq, rq, gq, hq0⟩ := o.ex
        exact ⟨q, ws, e6, hq, rq.mono sb, by rw [upd_ne (hne q e6)]; exact gq, hq0⟩
      cases r with
      | val d => exact Rep.mono sb rw'
      | own es => exact own es rw' fun q eq z => hj (s.ow i j ds es p e ej (by rw [ev, e2]) (by rw [ew, eq, z]))
      | peek es => exact absurd ej (s.np j es)
      | gen => exact rw'
  · have hj : i ≠ j := fun z => by
      subst z
      rw [List.getElem?_set_self il] at e1
      cases e1
    have hk : i ≠ k := fun z => by
      subst z
      rw [List.getElem?_set_self il] at e3
      cases e3
    rw [List.getElem?_set_ne hj] at e1
    rw [List.getElem?_set_ne hk] at e3
    exact s.ow j k es fs q e1 e3 e4 e5
  · by_cases hj : i = j
    · subst hj
      rw [List.getElem?_set_self il] at ej
      cases ej
    · rw [List.getElem?_set_ne hj] at ej
      exact s.np j es ej
def dFrz (i : Nat) (t : DS) : DS := fun d ρ => t d ⟨frz i ρ.sl, ρ.β⟩
theorem ls_frz {i : Nat} (h : LS K B (dFrz i t) Dn σ H) : LS K B t Dn σ H := by
  obtain ⟨G, ρ, d, s, h, l⟩ := h
  obtain ⟨G', sb, s'⟩ := s.frz i
  exact ⟨G', _, d, s', h, l.mono sb⟩
theorem ds_frz (i : Nat) (h : PS X st (LS X.K B t)) : PS X st (LS X.K B (dFrz i t)) := PSi h fun _ _ _ => ls_frz
theorem dss_frz (i : Nat) {sts : List Stmt} (h : PSs X sts (LS X.K B t)) : PSs X sts (LS X.K B (dFrz i t)) := PSsi h fun _ _ _ => ls_frz
/-! ### small statements -/
def dBreak : DS := fun d ρ => d.bk ρ
def dCont : DS := fun d ρ => d.ct ρ
theorem ds_pass : PS X (.Pass pos) (LS X.K B dNext) := PSi ps_pass fun Dn σ H h => by
  obtain ⟨G, ρ, d, s, h, l⟩ := h
  exact l.nx _ _ _ _ (Sub.refl _) s h
theorem ds_break : PS X (.Break pos) (LS X.K B dBreak) := PSi ps_break fun Dn σ H h => by
  obtain ⟨G, ρ, d, s, h, l⟩ := h
  exact l.bk _ _ _ _ (Sub.refl _) s h
theorem ds_continue : PS X (.Continue pos) (LS X.K B dCont) := PSi ps_continue fun Dn σ H h => by
  obtain ⟨G, ρ, d, s, h, l⟩ := h
  exact l.ct _ _ _ _ (Sub.refl _) s h
def dNever : DS := fun _ _ => False
theorem ds_never : PS X st (LS X.K B dNever) := PSi ps_never fun Dn σ H h => by
  obtain ⟨G, ρ, d, s, h, l⟩ := h
  exact h
theorem dss_never {sts : List Stmt} : PSs X sts (LS X.K B dNever) := PSsi pss_never fun Dn σ H h => by
  obtain ⟨G, ρ, d, s, h, l⟩ := h
  exact h
def dDrop (te : DE) : DS := fun d ρ => te ρ fun _ β => d.nx ⟨ρ.sl, β⟩
theorem ls_drop (h : LS K B (dDrop te) Dn σ H) : tDrop (LE K B te) Dn σ H := by
  obtain ⟨G, ρ, d, s, h, l⟩ := h
  exact ⟨G, ρ, _, s, h, fun r β' hr v H' G' s' b' _ _ => l.nx _ _ _ _ (s'.sub s.ex) (s.step s' b') hr⟩
theorem ds_expr (he : PE X e (LE X.K B te)) (hs : swapsWith e none pos.line X.env = pure false := by rfl) : PS X (.Expr e pos) (LS X.K B (dDrop te)) := PSi (ps_expr he hs) fun _ _ _ => ls_drop
def ofRet : R → R
  | .peek ds => .own ds
  | r => r
def dRet (te : DE) : DS := fun d ρ => te ρ fun r β => d.rt (ofRet r) ⟨ρ.sl, β⟩
theorem ls_ret (h : LS K B (dRet te) Dn σ H) : tRet (LE K B te) Dn σ H := by
  obtain ⟨G, ρ, d, s, h, l⟩ := h
  refine ⟨G, ρ, _, s, h, fun r β' hr v H' G' s' b' r1 _ => l.rt v σ H' G' _ _ (s.step s' b') ?_ hr⟩
  cases r <;> exact r1
theorem ds_ret (he : PE X e (LE X.K B te)) : PS X (.Return (some e) pos) (LS X.K B (dRet te)) := PSi (ps_ret he) fun _ _ _ => ls_ret
def dRetN : DS := fun d ρ => d.rt (.val .non) ρ
theorem ds_retN : PS X (.Return none pos) (LS X.K B dRetN) := PSi ps_retN fun Dn σ H h => by
  obtain ⟨G, ρ, d, s, h, l⟩ := h
  exact l.rt _ σ H G (.val .non) ρ s Rep.non h
def dIfS (c : DT) (t u : DS) : DS := fun d ρ => c ρ fun b β => if b = true then t d ⟨ρ.sl, β⟩ else u d ⟨ρ.sl, β⟩
theorem ls_if (h : LS K B (dIfS tA t u) Dn σ H) : tIfS (LT K B tA) (LS K B t) (LS K B u) Dn σ H := by
  obtain ⟨G, ρ, d, s, h, l⟩ := h
  refine ⟨G, ρ, _, s, h, fun b β' hb H' G' s' b' => ?_⟩
  cases b with
  | true =>
    rw [if_pos rfl] at hb ⊢
    exact ⟨G', _, d, s.step s' b', hb, l.mono (s'.sub s.ex)⟩
  | false =>
    rw [if_neg Bool.false_ne_true] at hb ⊢
    exact ⟨G', _, d, s.step s' b', hb, l.mono (s'.sub s.ex)⟩
theorem ds_if {sa sb : List Stmt} (hc : PT X c (LT X.K B tA)) (ha : PSs X sa (LS X.K B t)) (hb : PSs X sb (LS X.K B u)) : PS X (.If c sa sb pos) (LS X.K B (dIfS tA t u)) := PSi (ps_if hc ha hb) fun _ _ _ => ls_if
/-! ### stores -/
def storR (r : R) (Q : R → Prop) : Prop := match r with
  | .peek _ => False
  | r => Q r
theorem storR_np {r : R} {Q : R → Prop} (h : storR r Q) : Q r ∧ ∀ ds, r ≠ .peek ds := by
  cases r with
  | peek _ => exact h.elim
  | _ => exact ⟨h, fun _ z => by cases z⟩
theorem FS.store {G0 G : Hp} {H0 : Hp} {ρ : Env} {r : R} {v : V} {β : Nat} (s : FS K B G0 ρ σ H0) (q : Stp G0 H0 G H) (b : Bud H β) (rr : RR K B.H G H r v) (rf : RF H0 r v) (np : ∀ ds, r ≠ .peek ds) (i : Nat) : FS K B G ⟨ρ.sl.set i (some r), β⟩ (σ.set i (some v)) H := by
  have s1 := s.step q b
  have old : ∀ {j : Nat} {z : R}, j ≠ i → (ρ.sl.set i (some r))[j]? = some (some z) → ρ.sl[j]? = some (some z) := fun hj e => by rwa [List.getElem?_set_ne (Ne.symm hj)] at e
  have new : ∀ {z : R}, (ρ.sl.set i (some r))[i]? = some (some z) → z = r ∧ i < σ.length := fun {z} e => by
    have hl : i < ρ.sl.length := by
      have := (List.getElem?_eq_some_iff.mp e).1
      rwa [List.length_set] at this
    rw [List.getElem?_set_self hl] at e
    cases e
    exact ⟨rfl, by rw [← s.len]; exact hl⟩
  refine ⟨s1.stp, b, by rw [List.length_set, List.length_set]; exact s.len, fun j z e => ?_, fun j k ds es p e1 e2 e3 e4 => ?_, fun j ds e => ?_⟩
  · by_cases hj : j = i
    · subst hj
      obtain ⟨rfl, hl⟩ := new e
      exact ⟨v, by rw [List.getElem?_set_self hl], rr⟩
    · obtain ⟨w, ew, rw'⟩ := s1.sl j z (old hj e)
      exact ⟨w, by rw [List.getElem?_set_ne (Ne.symm hj)]; exact ew, rw'⟩
  · -- a new list stands apart from all that was
    have apart : ∀ {j : Nat} {ds es : List D}, j ≠ i → ρ.sl[j]? = some (some (.own es)) → σ[j]? = some (some (.ref p)) → r = .own ds → v = .ref p → False := fun {j ds es} hj a1 a3 er ev => by
      rw [er, ev] at rf
      obtain ⟨p', ep, hp⟩ := rf
      cases ep
      obtain ⟨w, ew, rw'⟩ := s.sl j _ a1
      rw [a3] at ew
      cases ew
      obtain ⟨q', vs, eq, hq, _⟩ := rw'.ex
      cases eq
      rw [hp] at hq
      cases hq
    by_cases hj : j = i
    · by_cases hk : k = i
      · rw [hj, hk]
      · subst hj
        obtain ⟨er, hl⟩ := new e1
        rw [List.getElem?_set_self hl] at e3
        rw [List.getElem?_set_ne (Ne.symm hk)] at e4
        cases e3
        exact (apart hk (old hk e2) e4 er.symm rfl).elim
    · rw [List.getElem?_set_ne (Ne.symm hj)] at e3
      by_cases hk : k = i
      · subst hk
        obtain ⟨er, hl⟩ := new e2
        rw [List.getElem?_set_self hl] at e4
        cases e4
        exact (apart hj (old hj e1) e3 er.symm rfl).elim
      · rw [List.getElem?_set_ne (Ne.symm hk)] at e4
        exact s.ow j k ds es p (old hj e1) (old hk e2) e3 e4
  · by_cases hj : j = i
    · subst hj
      exact np ds (new e).1.symm
    · exact s.np j ds (old hj e)
def dSet (i : Nat) (te : DE) : DS := fun d ρ => te ρ fun r β => storR r fun r => d.nx ⟨ρ.sl.set i (some r), β⟩
theorem ls_set {i : Nat} (h : LS K B (dSet i te) Dn σ H) : tAsg (LE K B te) (gName i) Dn σ H := by
  obtain ⟨G, ρ, d, s, h, l⟩ := h
  refine ⟨G, ρ, _, s, h, fun r β' hr v H' G' s' b' r1 f1 => ?_⟩
  obtain ⟨hr, np⟩ := storR_np hr
  exact l.nx _ _ _ _ (s'.sub s.ex) (s.store s' b' r1 f1 np i) hr
theorem ds_set (i : Nat) {x : Str} {pos' : Pos} (hN : X.N.Nodup) (he : PE X e (LE X.K B te)) (hi : X.N[i]? = some x := by rfl) (hx : Loc X.env.scope x := by first | exact Or.inl rfl | exact Or.inr rfl) (hs : swapsWith e (some (.Name x pos')) pos.line X.env = pure false := by rfl)
    (hf : X.fn x = true ∨ X.env.scope.names.lookup x = some .local := by first | exact .inl rfl | exact .inr rfl | assumption) : PS X (.Assign [.Name x pos'] e pos) (LS X.K B (dSet i te)) :=
  PSi (ps_set hN hi hx he hs hf) fun _ _ _ => ls_set
/-- xs.append(e) of a list of one's own -/
def dApp (i : Nat) (te : DE) : DS := fun d ρ => match ρ.sl[i]? with
  | some (some (.own ds)) => te ρ fun r β => durV r fun x => ds.length ≤ 1000000 ∧ d.nx ⟨ρ.sl.set i (some (.own (ds ++ [x]))), β⟩
  | _ => False
theorem durV_step {H0 G H G' H' : Hp} {r : R} {v : V} {Q' : D → Prop} (s1 : Stp G H G' H') (rr : RR K H0 G' H' r v) (rf : RF H r v) (q : durV r Q') :
    ∃ G2 d, Stp G H G2 H' ∧ Rep K G2 v d ∧ Sub G' G2 ∧ (∀ p, H p ≠ none → G2 p = G p) ∧ Q' d := by
  cases r with
  | val d => exact ⟨G', d, s1, rr, fun _ _ h => h, s1.old, q⟩
  | own ds =>
    obtain ⟨p, vs, e, hp, rs, g, h0⟩ := rr.ex
    obtain ⟨p', e', hn⟩ := rf
    have e3 : p = p' := by
      rw [e] at e'
      exact V.ref.inj e'
    subst e3
    have s2 := s1.freeze hn hp not_soft_lst
    refine ⟨upd G' p (.lst vs), .lst ds, s2, ?_, sub_upd g, s2.old, q⟩
    rw [e]
    exact Rep.lst (.inl (.inl upd_same)) (rs.mono (sub_upd g))
  | gen => exact q.elim
  | peek ds => exact q.elim
/-- a list of one's own is changed -/
theorem FS.mut {G : Hp} {ρ : Env} {i : Nat} {ds es : List D} {p : Addr} {vs ws : List V} (s : FS K B G ρ σ H) (e : ρ.sl[i]? = some (some (.own ds))) (ev : σ[i]? = some (some (.ref p))) (hp : H p = some (.lst vs)) (g : G p = none) (h0 : B.H p = none) (r : RepAll K G ws es) :
    FS K B G ⟨ρ.sl.set i (some (.own es)), ρ.β⟩ σ (upd H p (.lst ws)) := by
  have il : i < ρ.sl.length := (List.getElem?_eq_some_iff.mp e).1
  have st' : Stp B.G B.H G (upd H p (.lst ws)) := ⟨s.stp.old, s.stp.kp.mut h0, fun a o z => by
    have hne : a ≠ p := fun q => by rw [q, g] at z; cases z
    rw [upd_ne hne]
    exact s.ex a o z⟩
  have own_at : ∀ {j : Nat} {z : R}, (ρ.sl.set i (some (.own es)))[j]? = some (some z) → (j = i ∧ z = .own es) ∨ (j ≠ i ∧ ρ.sl[j]? = some (some z)) := fun {j z} q => by
    by_cases hj : j = i
    · subst hj
      rw [List.getElem?_set_self il] at q
      cases q
      exact .inl ⟨rfl, rfl⟩
    · rw [List.getElem?_set_ne (Ne.symm hj)] at q
      exact .inr ⟨hj, q⟩
  refine ⟨st', s.bd.upd not_soft_lst, by rw [List.length_set]; exact s.len, fun j z q => ?_, fun j k fs hs q e1 e2 e3 e4 => ?_, fun j fs q => ?_⟩
  · rcases own_at q with ⟨rfl, rfl⟩ | ⟨hj, q⟩
    · exact ⟨_, ev, ⟨p, ws, rfl, upd_same, r, g, h0⟩⟩
    · obtain ⟨w, ew, rw'⟩ := s.sl j z q
      refine ⟨w, ew, ?_⟩
      cases z with
      | val d => exact rw'
      | own fs =>
        obtain ⟨q', us, e6, hq, rq, gq, hq0⟩ := rw'.ex
        have hne : q' ≠ p := fun z => hj (s.ow j i fs ds p q e (by rw [ew, e6, z]) ev)
        exact ⟨q', us, e6, by rw [upd_ne hne]; exact hq, rq, gq, hq0⟩
      | peek fs => exact absurd q (s.np j fs)
      | gen =>
        obtain ⟨g', n, e6, hg⟩ := rw'
        have hne : g' ≠ p := fun z => by
          rw [z, hp] at hg
          cases hg
        exact ⟨g', n, e6, by rw [upd_ne hne]; exact hg⟩
  · have back : ∀ {j : Nat} {fs : List D}, (ρ.sl.set i (some (.own es)))[j]? = some (some (.own fs)) → ∃ fs', ρ.sl[j]? = some (some (.own fs')) := fun {j fs} q => by
      rcases own_at q with ⟨rfl, _⟩ | ⟨_, q⟩
      · exact ⟨_, e⟩
      · exact ⟨_, q⟩
    obtain ⟨f1, e1⟩ := back e1
    obtain ⟨f2, e2⟩ := back e2
    exact s.ow j k f1 f2 q e1 e2 e3 e4
  · rcases own_at q with ⟨_, z⟩ | ⟨_, q⟩
    · cases z
    · exact s.np j fs q
theorem ls_app {i : Nat} (h : LS K B (dApp i te) Dn σ H) : tDrop (tBM K "list" rAppend (tVar i) (tCons (LE K B te) tNil)) Dn σ H := by
  obtain ⟨G, ρ, d, s, h, l⟩ := h
  unfold dApp at h
  split at h
  case h_2 => exact h.elim
  rename_i ds e
  obtain ⟨v, ev, rr⟩ := s.sl i _ e
  obtain ⟨p, vs, rfl, hp, rs, g, h0⟩ := rr.ex
  refine ⟨_, ev, .inl ⟨rfl, vs, .inl (.inl hp)⟩, G, ρ, _, s, h, fun r β' hr w H' G' s' b' r1 f1 => ?_⟩
  obtain ⟨G2, x, s2, rx, sb, old, hl, hn⟩ := durV_step s' r1 f1 hr
  have hp' : H' p = some (.lst vs) := s2.kp.hard _ _ hp not_soft_lst
  have F2 := s.step s2 b'
  refine ⟨p, vs, w, rfl, rfl, hp', by rw [rs.length]; exact big_lt hl, l.nx _ _ _ _ (s2.sub s.ex) (FS.mut (ρ := ⟨ρ.sl, β'⟩) F2 e ev hp' ((old p (by rw [hp]; simp)).trans g) h0 ((rs.mono (s2.sub s.ex)).append (.cons rx .nil))) hn⟩
theorem ds_app (i : Nat) {x : Str} {px apos cpos : Pos} (he : PE X e (LE X.K B te)) (hN : X.N[i]? = some x := by rfl) (hv : Vis X.env.scope x := by first | exact Or.inl rfl | exact Or.inr (Or.inl rfl) | exact Or.inr (Or.inr rfl)) (hd : (x == ("__debug__" : Str)) = false := by decide) (hcd : (x == ("__classdict__" : Str)) = false := by decide)
    (hbase : attributeBase (.Name x px) "append" X.env (eval (.Name x px) X.env) = eval (.Name x px) X.env := by rfl)
    (hfew : ((backTo cpos (starEach [e] X.env)).all (fun x => !x.1) && (backToKw cpos (keywordEach [] X.env)).all (fun x => x.1.isSome)
      && decide ([e].length + ([] : List Keyword).length + (if ([] : List Keyword).isEmpty then 0 else 1) < 30)) = true := by rfl)
    (hline : (apos.endLine == cpos.line) = true := by rfl) (hs : starEach [e] X.env = [(false, eval e X.env)] := by rfl) (hsw : swapsWith (.Call (.Attribute (.Name x px) "append" apos) [e] [] cpos) none pos.line X.env = pure false := by rfl) :
    PS X (.Expr (.Call (.Attribute (.Name x px) "append" apos) [e] [] cpos) pos) (LS X.K B (dApp i te)) :=
  PSi (ps_expr (pe_bm PySem.F.plainAttrs_list PySem.F.slot_list_append PySem.F.type_list_append mt_append (pe_var hN hv hd hcd) (pa_cons he pa_nil hs) hbase hfew hline hs rfl) hsw) fun _ _ _ => ls_app
end
end DL
namespace DL
open PySem L2
section
variable {X : Cx} {K : PySem.W.Frag} {B : Ba} {st : Stmt} {rest : List Stmt} {t u : DS} {e a b c : Expr} {te ta tb tc ti : DE} {tA : DT} {pos : Pos} {σ : SL} {H : Hp} {Dn : Ends} {Q : VK}
/-! ### x[k] = e of a list of one's own -/
def dSetIx (i : Nat) (te ti : DE) : DS := fun d ρ => match ρ.sl[i]? with
  | some (some (.own ds)) => te ρ fun r β => durV r fun x => ti ⟨ρ.sl, β⟩ fun r2 β2 => match r2 with
    | .val (.int k) => ∃ m, ixN ds.length k = some m ∧ d.nx ⟨ρ.sl.set i (some (.own (ds.set m x))), β2⟩
    | _ => False
  | _ => False
theorem ls_setix {i : Nat} (h : LS K B (dSetIx i te ti) Dn σ H) : tAsg (LE K B te) (gSub (tVar i) (LE K B ti) rSetL) Dn σ H := by
  obtain ⟨G, ρ, d, s, h, l⟩ := h
  unfold dSetIx at h
  split at h
  case h_2 => exact h.elim
  rename_i ds e1
  obtain ⟨v, ev, rr⟩ := s.sl i _ e1
  obtain ⟨p, vs, rfl, hp, rs, g, h0⟩ := rr.ex
  refine ⟨G, ρ, _, s, h, fun r β hr w H1 G1 s1 b1 r1 f1 => ?_⟩
  obtain ⟨G2, x, s2, rx, sb, old, h2⟩ := durV_step s1 r1 f1 hr
  have F2 := s.step s2 b1
  refine ⟨_, ev, G2, ⟨ρ.sl, β⟩, _, F2, h2, fun r2 β2 hr2 iv H3 G3 s3 b3 r3 f3 => ?_⟩
  split at hr2
  case h_2 => exact hr2.elim
  rename_i k
  obtain ⟨m, hm, hn⟩ := hr2
  cases r3
  have s23 := s2.trans s3
  have hp3 : H3 p = some (.lst vs) := s23.kp.hard _ _ hp not_soft_lst
  refine ⟨p, vs, k, m, rfl, rfl, hp3, by rw [rs.length]; exact hm, l.nx _ _ _ _ (s23.sub s.ex) (FS.mut (ρ := ⟨ρ.sl, β2⟩) (F2.step s3 b3) e1 ev hp3 (s23.none (by rw [hp]; simp) g) h0 ((rs.mono (s23.sub s.ex)).set (rx.mono (s3.sub F2.ex)) m)) hn⟩
theorem ds_setix (i : Nat) {x : Str} {px p1 : Pos} {ie : Expr} (he : PE X e (LE X.K B te)) (hi : PE X ie (LE X.K B ti)) (hN : X.N[i]? = some x := by rfl) (hv : Vis X.env.scope x := by first | exact Or.inl rfl | exact Or.inr (Or.inl rfl) | exact Or.inr (Or.inr rfl)) (hd : (x == ("__debug__" : Str)) = false := by decide) (hcd : (x == ("__classdict__" : Str)) = false := by decide)
    (ha : ∀ v, assign (.Subscript (.Name x px) ie p1) X.env v = (do
      let ov ← holding [v] (eval (.Name x px) X.env)
      let iv ← holding [v, ov] (eval ie X.env)
      standAt p1
      holding [v, ov, iv] (setItem ov iv v)
      release [v, ov, iv] []) := by intro _; rfl)
    (hs : swapsWithSole [.Subscript (.Name x px) ie p1] e pos.line X.env = pure false := by rfl) (hw : swappedStores [.Subscript (.Name x px) ie p1] e X.env = pure none := by rfl)
    (h1 : (assignEach [.Subscript (.Name x px) ie p1] X.env).map (·.2) = [assign (.Subscript (.Name x px) ie p1) X.env] := by rfl) :
    PS X (.Assign [.Subscript (.Name x px) ie p1] e pos) (LS X.K B (dSetIx i te ti)) :=
  PSi (ps_asg he (pg_sub (pe_var hN hv hd hcd) hi set_list ha) hs hw h1) fun _ _ _ => ls_setix
/-! ### targets -/
/-- a value of data stored by a target -/
def DG := D → Env → (Env → Prop) → Prop
def LG (K : PySem.W.Frag) (B : Ba) (g : DG) : TG := fun v σ H Q => ∃ G ρ P d, FS K B G ρ σ H ∧ Rep K G v d ∧ g d ρ P ∧ ∀ ρ' σ', P ρ' → FS K B G ρ' σ' H → Q σ' H
def dgName (i : Nat) : DG := fun d ρ P => P ⟨ρ.sl.set i (some (.val d)), ρ.β⟩
def setAll : List (Option R) → List Nat → List D → List (Option R)
  | sl, i :: is, d :: ds => setAll (sl.set i (some (.val d))) is ds
  | sl, _, _ => sl
def dgTup (is : List Nat) : DG := fun d ρ P => match d with
  | .tup ds => ds.length = is.length ∧ P ⟨setAll ρ.sl is ds, ρ.β⟩
  | _ => False
theorem lg_name {i : Nat} {v : V} {Q : SL → Hp → Prop} (h : LG K B (dgName i) v σ H Q) : gName i v σ H Q := by
  obtain ⟨G, ρ, P, d, s, r, g, w⟩ := h
  exact w _ _ g (s.store (Stp.refl s.ex) s.bd (r := .val d) r trivial (fun _ z => by cases z) i)
theorem dg_name (i : Nat) {x : Str} {p : Pos} (hN : X.N.Nodup) (hi : X.N[i]? = some x := by rfl) (hx : Loc X.env.scope x := by first | exact Or.inl rfl | exact Or.inr rfl) (hf : X.fn x = true ∨ X.env.scope.names.lookup x = some .local := by first | exact .inl rfl | exact .inr rfl | assumption) : PG X (.Name x p) (LG X.K B (dgName i)) :=
  ⟨fun pins s σ H v u Q I r h => (pg_name hN hi hx hf).run pins s σ H v u Q I r (lg_name h)⟩
/-- gCons of names -/
def gNames : List Nat → TGs
  | [] => gNil
  | i :: is => gCons (gName i) (gNames is)
theorem pgs_name {x : Str} {p : Pos} {es : List Expr} {is : List Nat} (i : Nat) (hN : X.N.Nodup) (hr : PGs X es (gNames is)) (hi : X.N[i]? = some x := by rfl) (hx : Loc X.env.scope x := by first | exact Or.inl rfl | exact Or.inr rfl) (hf : X.fn x = true ∨ X.env.scope.names.lookup x = some .local := by first | exact .inl rfl | exact .inr rfl | assumption)
    (hs : (assignEach (.Name x p :: es) X.env).map (·.2) = assign (.Name x p) X.env :: (assignEach es X.env).map (·.2) := by rfl) : PGs X (.Name x p :: es) (gNames (i :: is)) := pgs_cons (pg_name hN hi hx hf) hr hs
theorem gNames_run {G : Hp} : ∀ {is : List Nat} {vs : List V} {ds : List D} {ρ : Env} {σ : SL} {Q : SL → Hp → Prop}, FS K B G ρ σ H → RepAll K G vs ds → ds.length = is.length → (∀ σ', FS K B G ⟨setAll ρ.sl is ds, ρ.β⟩ σ' H → Q σ' H) → gNames is vs σ H Q
  | [], vs, ds, ρ, σ, Q, s, r, hl, q => by
    have e : ds = [] := List.eq_nil_of_length_eq_zero hl
    subst e
    cases r
    exact ⟨rfl, q σ s⟩
  | i :: is, vs, ds, ρ, σ, Q, s, r, hl, q => by
    cases r with
    | nil => cases hl
    | cons rv rr =>
      refine ⟨_, _, rfl, ?_⟩
      exact gNames_run (s.store (Stp.refl s.ex) s.bd (r := .val _) rv trivial (fun _ z => by cases z) i) rr (Nat.succ.inj hl) q
theorem lg_tup {is : List Nat} {v : V} {Q : SL → Hp → Prop} (h : LG K B (dgTup is) v σ H Q) : gTup K is.length (gNames is) v σ H Q := by
  obtain ⟨G, ρ, P, d, s, r, g, w⟩ := h
  unfold dgTup at g
  split at g
  case h_2 => exact g.elim
  rename_i ds
  cases r with
  | tup hs ra =>
    exact ⟨_, _, rfl, Sub.sqt (fun a o e => (s.ex a o e).1) hs, ra.length.trans g.1, gNames_run s ra g.1 fun σ' s' => w _ _ g.2 s'⟩
theorem dg_tup {es : List Expr} {k : Nat} {is : List Nat} (hc : X.calm = true) (h : PGs X es (gNames is)) (hn : (assignEach es X.env).length = is.length := by rfl) (hst : (assignEach es X.env).findIdx? (·.1) = none := by rfl) : PG X (.Tuple es k pos) (LG X.K B (dgTup is)) :=
  ⟨fun pins s σ H v u Q I r q => (pg_tup hc h hn hst).run pins s σ H v u Q I r (lg_tup q)⟩
/-! ### target = value, the target a tuple of names -/
def dSetG (g : DG) (te : DE) : DS := fun d ρ => te ρ fun r β => durV r fun x => g x ⟨ρ.sl, β⟩ d.nx
theorem ls_setg {g : DG} (h : LS K B (dSetG g te) Dn σ H) : tAsg (LE K B te) (LG K B g) Dn σ H := by
  obtain ⟨G, ρ, d, s, h, l⟩ := h
  refine ⟨G, ρ, _, s, h, fun r β hr v H1 G1 s1 b1 r1 f1 => ?_⟩
  obtain ⟨G2, x, s2, rx, sb, old, h2⟩ := durV_step s1 r1 f1 hr
  exact ⟨G2, ⟨ρ.sl, β⟩, _, x, s.step s2 b1, rx, h2, fun ρ' σ' hp s' => l.nx _ _ _ _ (s2.sub s.ex) s' hp⟩
theorem ds_setg {tg : Expr} {g : DG} (he : PE X e (LE X.K B te)) (hg : PG X tg (LG X.K B g)) (hs : swapsWithSole [tg] e pos.line X.env = pure false := by rfl) (hw : swappedStores [tg] e X.env = pure none := by rfl)
    (h1 : (assignEach [tg] X.env).map (·.2) = [assign tg X.env] := by rfl) : PS X (.Assign [tg] e pos) (LS X.K B (dSetG g te)) := PSi (ps_asg he hg hs hw h1) fun _ _ _ => ls_setg
/-! ### a, b = x, y; a, b, c = x, y, z -/
def dSet2 (i j : Nat) (ta tb : DE) : DS := fun d ρ => ta ρ fun r1 β1 => storR r1 fun r1 => tb ⟨ρ.sl, β1⟩ fun r2 β2 => storR r2 fun r2 => d.nx ⟨(ρ.sl.set i (some r1)).set j (some r2), β2⟩
def dSet3 (i j k : Nat) (ta tb tc : DE) : DS := fun d ρ => ta ρ fun r1 β1 => storR r1 fun r1 => tb ⟨ρ.sl, β1⟩ fun r2 β2 => storR r2 fun r2 => tc ⟨ρ.sl, β2⟩ fun r3 β3 => storR r3 fun r3 => d.nx ⟨((ρ.sl.set i (some r1)).set j (some r2)).set k (some r3), β3⟩
theorem ls_set2p {i j : Nat} (h : LS K B (dSet2 i j ta tb) Dn σ H) : tPar i j (tCons (LE K B ta) (tCons (LE K B tb) tNil)) Dn σ H := by
  obtain ⟨G, ρ, d, s, h, l⟩ := h
  refine ⟨G, ρ, _, s, h, fun r1 β1 h1 v1 H1 G1 s1 b1 rr1 f1 => ?_⟩
  obtain ⟨h1, n1⟩ := storR_np h1
  refine ⟨G1, _, _, s.step s1 b1, h1, fun r2 β2 h2 v2 H2 G2 s2 b2 rr2 f2 => ?_⟩
  obtain ⟨h2, n2⟩ := storR_np h2
  exact ⟨v1, v2, rfl, l.nx _ _ _ _ ((s1.trans s2).sub s.ex) ((s.store s1 b1 rr1 f1 n1 i).store s2 b2 rr2 f2 n2 j) h2⟩
theorem ls_set3p {i j k : Nat} (h : LS K B (dSet3 i j k ta tb tc) Dn σ H) : tPar3 i j k (tCons (LE K B ta) (tCons (LE K B tb) (tCons (LE K B tc) tNil))) Dn σ H := by
  obtain ⟨G, ρ, d, s, h, l⟩ := h
  refine ⟨G, ρ, _, s, h, fun r1 β1 h1 v1 H1 G1 s1 b1 rr1 f1 => ?_⟩
  obtain ⟨h1, n1⟩ := storR_np h1
  refine ⟨G1, _, _, s.step s1 b1, h1, fun r2 β2 h2 v2 H2 G2 s2 b2 rr2 f2 => ?_⟩
  obtain ⟨h2, n2⟩ := storR_np h2
  refine ⟨G2, _, _, (s.step s1 b1).step s2 b2, h2, fun r3 β3 h3 v3 H3 G3 s3 b3 rr3 f3 => ?_⟩
  obtain ⟨h3, n3⟩ := storR_np h3
  exact ⟨v1, v2, v3, rfl, l.nx _ _ _ _ (((s1.trans s2).trans s3).sub s.ex) (((s.store s1 b1 rr1 f1 n1 i).store s2 b2 rr2 f2 n2 j).store s3 b3 rr3 f3 n3 k) h3⟩
theorem ds_par2 (i j : Nat) {x y : Str} {px py pt pt2 : Pos} {kt k2 : Nat} (hc : X.calm = true) (hN : X.N.Nodup) (ha : PE X a (LE X.K B ta)) (hb : PE X b (LE X.K B tb)) (hi : X.N[i]? = some x := by rfl) (hj : X.N[j]? = some y := by rfl) (hij : i ≠ j := by decide)
    (hx : X.env.scope.names.lookup x = some .local := by rfl) (hy : X.env.scope.names.lookup y = some .local := by rfl)
    (hw : swappedStores [.Tuple [.Name x px, .Name y py] kt pt] (.Tuple [a, b] k2 pt2) X.env = pure (some [x, y]) := by rfl) (hs : swapsWithSole [.Tuple [.Name x px, .Name y py] kt pt] (.Tuple [a, b] k2 pt2) pos.line X.env = pure false := by rfl)
    (he : starEach [a, b] X.env = (false, eval a X.env) :: starEach [b] X.env := by rfl) (he2 : starEach [b] X.env = [(false, eval b X.env)] := by rfl) :
    PS X (.Assign [.Tuple [.Name x px, .Name y py] kt pt] (.Tuple [a, b] k2 pt2) pos) (LS X.K B (dSet2 i j ta tb)) :=
  PSi (ps_par hc hN hi hj hij hx hy (pa_cons ha (pa_cons hb pa_nil he2) he) hw hs) fun _ _ _ => ls_set2p
theorem ds_par3 (i j k : Nat) {x y z : Str} {px py pz pt pt2 : Pos} {kt k2 : Nat} (hc : X.calm = true) (hN : X.N.Nodup) (ha : PE X a (LE X.K B ta)) (hb : PE X b (LE X.K B tb)) (hcc : PE X c (LE X.K B tc)) (hi : X.N[i]? = some x := by rfl) (hj : X.N[j]? = some y := by rfl) (hk : X.N[k]? = some z := by rfl) (hij : i ≠ j := by decide) (hik : i ≠ k := by decide) (hjk : j ≠ k := by decide)
    (hx : X.env.scope.names.lookup x = some .local := by rfl) (hy : X.env.scope.names.lookup y = some .local := by rfl) (hz : X.env.scope.names.lookup z = some .local := by rfl)
    (hw : swappedStores [.Tuple [.Name x px, .Name y py, .Name z pz] kt pt] (.Tuple [a, b, c] k2 pt2) X.env = pure (some [x, y, z]) := by rfl) (hs : swapsWithSole [.Tuple [.Name x px, .Name y py, .Name z pz] kt pt] (.Tuple [a, b, c] k2 pt2) pos.line X.env = pure false := by rfl)
    (he : starEach [a, b, c] X.env = (false, eval a X.env) :: starEach [b, c] X.env := by rfl) (he2 : starEach [b, c] X.env = (false, eval b X.env) :: starEach [c] X.env := by rfl) (he3 : starEach [c] X.env = [(false, eval c X.env)] := by rfl) :
    PS X (.Assign [.Tuple [.Name x px, .Name y py, .Name z pz] kt pt] (.Tuple [a, b, c] k2 pt2) pos) (LS X.K B (dSet3 i j k ta tb tc)) :=
  PSi (ps_par3 hc hN hi hj hk hij hik hjk hx hy hz (pa_cons ha (pa_cons hb (pa_cons hcc pa_nil he3) he2) he) hw hs) fun _ _ _ => ls_set3p
/-- through a tuple -/
theorem two1000 {n : Nat} (h : n ≤ 10) : n ≤ sizeLine := Nat.le_trans h (by decide)
theorem ls_set2t {i j : Nat} (h : LS K B (dSet2 i j ta tb) Dn σ H) : tAsg (tTup (tCons (LE K B ta) (tCons (LE K B tb) tNil))) (gTup K 2 (gNames [i, j])) Dn σ H := by
  obtain ⟨G, ρ, d, s, h, l⟩ := h
  refine ⟨G, ρ, _, s, h, fun r1 β1 h1 v1 H1 G1 s1 b1 rr1 f1 => ?_⟩
  obtain ⟨h1, n1⟩ := storR_np h1
  refine ⟨G1, _, _, s.step s1 b1, h1, fun r2 β2 h2 v2 H2 G2 s2 b2 rr2 f2 => ?_⟩
  obtain ⟨h2, n2⟩ := storR_np h2
  refine ⟨two1000 (by simp), fun p hp => ?_⟩
  have F := (s.store s1 b1 rr1 f1 n1 i).store s2 b2 rr2 f2 n2 j
  have F' := F.step (Stp.new (o := .tup [v1, v2]) F.ex hp) (F.bd.upd not_soft_tup)
  exact ⟨p, _, rfl, .inl (.inl upd_same), rfl, _, _, rfl, _, _, rfl, rfl, l.nx _ _ _ _ ((s1.trans s2).sub s.ex) F' h2⟩
theorem ls_set3t {i j k : Nat} (h : LS K B (dSet3 i j k ta tb tc) Dn σ H) : tAsg (tTup (tCons (LE K B ta) (tCons (LE K B tb) (tCons (LE K B tc) tNil)))) (gTup K 3 (gNames [i, j, k])) Dn σ H := by
  obtain ⟨G, ρ, d, s, h, l⟩ := h
  refine ⟨G, ρ, _, s, h, fun r1 β1 h1 v1 H1 G1 s1 b1 rr1 f1 => ?_⟩
  obtain ⟨h1, n1⟩ := storR_np h1
  refine ⟨G1, _, _, s.step s1 b1, h1, fun r2 β2 h2 v2 H2 G2 s2 b2 rr2 f2 => ?_⟩
  obtain ⟨h2, n2⟩ := storR_np h2
  refine ⟨G2, _, _, (s.step s1 b1).step s2 b2, h2, fun r3 β3 h3 v3 H3 G3 s3 b3 rr3 f3 => ?_⟩
  obtain ⟨h3, n3⟩ := storR_np h3
  refine ⟨two1000 (by simp), fun p hp => ?_⟩
  have F := ((s.store s1 b1 rr1 f1 n1 i).store s2 b2 rr2 f2 n2 j).store s3 b3 rr3 f3 n3 k
  have F' := F.step (Stp.new (o := .tup [v1, v2, v3]) F.ex hp) (F.bd.upd not_soft_tup)
  exact ⟨p, _, rfl, .inl (.inl upd_same), rfl, _, _, rfl, _, _, rfl, _, _, rfl, rfl, l.nx _ _ _ _ (((s1.trans s2).trans s3).sub s.ex) F' h3⟩
theorem ds_set2 {es : List Expr} {kt k2 : Nat} {pt pt2 : Pos} (i j : Nat) (hc : X.calm = true) (hg : PGs X es (gNames [i, j])) (ha : PE X a (LE X.K B ta)) (hb : PE X b (LE X.K B tb))
    (he : starEach [a, b] X.env = (false, eval a X.env) :: starEach [b] X.env := by rfl) (he2 : starEach [b] X.env = [(false, eval b X.env)] := by rfl) (hn : (assignEach es X.env).length = 2 := by rfl) (hst : (assignEach es X.env).findIdx? (·.1) = none := by rfl)
    (hs : swapsWithSole [.Tuple es kt pt] (.Tuple [a, b] k2 pt2) pos.line X.env = pure false := by rfl) (hw : swappedStores [.Tuple es kt pt] (.Tuple [a, b] k2 pt2) X.env = pure none := by rfl)
    (h1 : (assignEach [.Tuple es kt pt] X.env).map (·.2) = [assign (.Tuple es kt pt) X.env] := by rfl) : PS X (.Assign [.Tuple es kt pt] (.Tuple [a, b] k2 pt2) pos) (LS X.K B (dSet2 i j ta tb)) :=
  PSi (ps_asg (pe_tup (pa_cons ha (pa_cons hb pa_nil he2) he)) (pg_tup hc hg hn hst) hs hw h1) fun _ _ _ => ls_set2t
theorem ds_set3 {es : List Expr} {kt k2 : Nat} {pt pt2 : Pos} (i j k : Nat) (hc : X.calm = true) (hg : PGs X es (gNames [i, j, k])) (ha : PE X a (LE X.K B ta)) (hb : PE X b (LE X.K B tb)) (hcc : PE X c (LE X.K B tc))
    (he : starEach [a, b, c] X.env = (false, eval a X.env) :: starEach [b, c] X.env := by rfl) (he2 : starEach [b, c] X.env = (false, eval b X.env) :: starEach [c] X.env := by rfl) (he3 : starEach [c] X.env = [(false, eval c X.env)] := by rfl) (hn : (assignEach es X.env).length = 3 := by rfl) (hst : (assignEach es X.env).findIdx? (·.1) = none := by rfl)
    (hs : swapsWithSole [.Tuple es kt pt] (.Tuple [a, b, c] k2 pt2) pos.line X.env = pure false := by rfl) (hw : swappedStores [.Tuple es kt pt] (.Tuple [a, b, c] k2 pt2) X.env = pure none := by rfl)
    (h1 : (assignEach [.Tuple es kt pt] X.env).map (·.2) = [assign (.Tuple es kt pt) X.env] := by rfl) : PS X (.Assign [.Tuple es kt pt] (.Tuple [a, b, c] k2 pt2) pos) (LS X.K B (dSet3 i j k ta tb tc)) :=
  PSi (ps_asg (pe_tup (pa_cons ha (pa_cons hb (pa_cons hcc pa_nil he3) he2) he)) (pg_tup hc hg hn hst) hs hw h1) fun _ _ _ => ls_set3t
end
end DL
namespace DL
open PySem L2
section
variable {X : Cx} {K : PySem.W.Frag} {B : Ba} {st : Stmt} {rest : List Stmt} {t u tb : DS} {e a b c tg iter : Expr} {te ta ti : DE} {tA : DT} {pos : Pos} {σ : SL} {H : Hp} {Dn : Ends} {Q : VK} {g : DG}
/-! ### while -/
def dWhile (c : DT) (tb : DS) : DS := fun d ρ => ∃ W : Nat → Env → Prop, (∃ m, W m ρ) ∧ ∀ m ρ, W m ρ →
  c ρ fun b β => if b = true then tb { d with nx := fun ρ' => ∃ m', m' < m ∧ W m' ρ', ct := fun ρ' => ∃ m', m' < m ∧ W m' ρ', bk := d.nx } ⟨ρ.sl, β⟩ else d.nx ⟨ρ.sl, β⟩
theorem ls_while (h : LS K B (dWhile tA tb) Dn σ H) : tWhile (LT K B tA) (LS K B tb) Dn σ H := by
  obtain ⟨G, ρ, d, s, ⟨W, ⟨m0, w0⟩, turn⟩, l⟩ := h
  refine ⟨fun m σ H => ∃ G' ρ', Sub G G' ∧ FS K B G' ρ' σ H ∧ W m ρ', ⟨m0, G, ρ, Sub.refl G, s, w0⟩, ?_⟩
  rintro m σ H ⟨G1, ρ1, sb, s1, w1⟩
  refine ⟨G1, ρ1, _, s1, turn m ρ1 w1, fun b β hb H2 G2 s2 b2 => ?_⟩
  have sb2 := sb.trans (s2.sub s1.ex)
  cases b with
  | true =>
    rw [if_pos rfl] at hb
    dsimp only
    rw [if_pos rfl]
    refine ⟨fun σ' H' => ∃ m', m' < m ∧ ∃ G' ρ', Sub G G' ∧ FS K B G' ρ' σ' H' ∧ W m' ρ', fun σ' H' q => q, G2, _, _, s1.step s2 b2, hb, ?_⟩
    exact ⟨fun σ' H' G' ρ' sb' s' ⟨m', hm, w'⟩ => ⟨m', hm, G', ρ', sb2.trans sb', s', w'⟩, fun σ' H' G' ρ' sb' s' q => l.nx σ' H' G' ρ' (sb2.trans sb') s' q, fun σ' H' G' ρ' sb' s' ⟨m', hm, w'⟩ => ⟨m', hm, G', ρ', sb2.trans sb', s', w'⟩, l.rt⟩
  | false =>
    rw [if_neg Bool.false_ne_true] at hb
    dsimp only
    rw [if_neg Bool.false_ne_true]
    exact l.nx _ _ _ _ sb2 (s1.step s2 b2) hb
theorem ds_while {body : List Stmt} (hp : PassesOwn (model X.prog X.w) X.A X.env X.xe) (hc : PT X c (LT X.K B tA)) (hb : PSs X body (LS X.K B tb)) : PS X (.While c body [] pos) (LS X.K B (dWhile tA tb)) := PSi (ps_while hp hc hb) fun _ _ _ => ls_while
/-! ### what is walked -/
/-- how many items, which ones -/
abbrev DI := Env → (Nat → (Nat → Option D) → Nat → Prop) → Prop
def ItOk (K : PySem.W.Frag) (J : It) (n : Nat) (item : Nat → Option D) (G0 : Hp) : Prop := ∀ (i : Nat) (G H : Hp), Sub G0 G → ExG G H →
  (n ≤ i → J.stop i H) ∧ (i < n → J.go i H ∧ ∀ x H', J.yld i H x H' → ∃ d G', item i = some d ∧ Stp G H G' H' ∧ (∀ β, Bud H β → Bud H' β) ∧ Rep K G' x d)
def LI (K : PySem.W.Frag) (B : Ba) (t : DI) : TI := fun σ H R => ∃ G ρ P, FS K B G ρ σ H ∧ t ρ P ∧ ∀ n item β, P n item β → ∀ J H' G', Stp G H G' H' → Bud H' β → ItOk K J n item G' → R J H'
def dFor (ti : DI) (g : DG) (tb : DS) : DS := fun d ρ => ti ρ fun n item β => ∃ W : Nat → Env → Prop, W 0 ⟨ρ.sl, β⟩ ∧
  (∀ i x ρ', i < n → item i = some x → W i ρ' → g x ρ' fun ρ2 => tb { d with nx := W (i + 1), ct := W (i + 1), bk := d.nx } ρ2) ∧ ∀ ρ', W n ρ' → d.nx ρ'
theorem ls_for {ti : DI} (h : LS K B (dFor ti g tb) Dn σ H) : tFor (LI K B ti) (LG K B g) (LS K B tb) Dn σ H := by
  obtain ⟨G, ρ, d, s, h, l⟩ := h
  refine ⟨G, ρ, _, s, h, fun n item β hn J H1 G1 s1 b1 ok => ?_⟩
  obtain ⟨W, w0, turn, fin⟩ := hn
  have sb1 := s1.sub s.ex
  refine ⟨fun i m σ H => m = n - i ∧ i ≤ n ∧ ∃ G' ρ', Sub G1 G' ∧ FS K B G' ρ' σ H ∧ W i ρ', ⟨n, by simp, Nat.zero_le _, G1, _, Sub.refl G1, s.step s1 b1, w0⟩, ?_⟩
  rintro i m σ H ⟨rfl, hi, G2, ρ2, sb2, s2, w2⟩
  obtain ⟨o1, o2⟩ := ok i G2 H sb2 s2.ex
  by_cases hlt : i < n
  · obtain ⟨go, yl⟩ := o2 hlt
    refine .inr ⟨go, fun σ' H' => ∃ G' ρ', Sub G1 G' ∧ FS K B G' ρ' σ' H' ∧ W (i + 1) ρ', fun σ' H' q => ⟨n - (i + 1), by omega, rfl, hlt, q⟩, fun x H3 y => ?_⟩
    obtain ⟨dx, G3, ei, s3, b3, r3⟩ := yl x H3 y
    have s2' := s2.step s3 (b3 _ s2.bd)
    refine ⟨G3, ⟨ρ2.sl, ρ2.β⟩, _, dx, s2', r3, turn i dx ρ2 hlt ei w2, fun ρ4 σ4 h4 s4 => ?_⟩
    have sb14 := sb2.trans (s3.sub s2.ex)
    exact ⟨G3, ρ4, _, s4, h4, fun σ' H' G' ρ' sb' s' w' => ⟨G', ρ', sb14.trans sb', s', w'⟩, fun σ' H' G' ρ' sb' s' q => l.nx σ' H' G' ρ' ((sb1.trans sb14).trans sb') s' q, fun σ' H' G' ρ' sb' s' w' => ⟨G', ρ', sb14.trans sb', s', w'⟩, l.rt⟩
  · have e : i = n := by omega
    subst e
    exact .inl ⟨o1 (Nat.le_refl _), l.nx _ _ _ _ (sb1.trans sb2) s2 (fin _ w2)⟩
theorem ds_for {body : List Stmt} {ti : DI} (hp : PassesOwn (model X.prog X.w) X.A X.env X.xe) (hc : X.calm = true) (hi : PI X tg iter (LI X.K B ti)) (hg : PG X tg (LG X.K B g)) (hb : PSs X body (LS X.K B tb))
    (hs : ∀ x, foldedSetIterable iter X.env x = pure x := by intro _; rfl) : PS X (.For tg iter body [] pos) (LS X.K B (dFor ti g tb)) := PSi (ps_for hp hc hi hg hb hs) fun _ _ _ => ls_for
theorem PIi {wi wi' : TI} (h : PI X tg iter wi) (i : ∀ σ H R, wi' σ H R → wi σ H R) : PI X tg iter wi' := ⟨fun pins s σ H R I q => h.run pins s σ H R I (i σ H R q)⟩
/-- a list -/
def diList (te : DE) : DI := fun ρ Q => te ρ fun r β => durV r fun d => match d with
  | .lst ds => Q ds.length (fun i => ds[i]?) β
  | _ => False
theorem sql_uniq_len {vs : List V} {ds : List D} {G : Hp} (r : RepAll K G vs ds) {i : Nat} (h : i < ds.length) : ∃ v, vs[i]? = some v := ⟨vs[i]'(by rw [r.length]; exact h), List.getElem?_eq_getElem _⟩
theorem it_list {p : Addr} {vs : List V} {ds : List D} {G0 : Hp} (hs : SqL K G0 p vs) (r : RepAll K G0 vs ds) : ItOk K (Itl K p) ds.length (fun i => ds[i]?) G0 := by
  intro i G H sb x
  have sH : SqL K H p vs := (sb.trans fun a o e => (x a o e).1).sql hs
  refine ⟨fun h => ⟨vs, sH, by rw [r.length]; exact h⟩, fun h => ?_⟩
  obtain ⟨v, hv⟩ := sql_uniq_len r h
  refine ⟨⟨vs, v, sH, hv⟩, fun y H' q => ?_⟩
  obtain ⟨eH, q⟩ := q
  subst eH
  have e2 := q vs sH
  obtain ⟨d, hd, rd⟩ := r.get' e2
  exact ⟨d, G, hd, Stp.refl x, fun _ z => z, rd.mono sb⟩
theorem li_list (h : ∀ (R : It → Hp → Prop), LI K B (diList te) σ H R → iList K (LE K B te) σ H R) : True := trivial
theorem pi_l (he : PE X e (LE X.K B te)) : PI X tg e (LI X.K B (diList te)) := PIi (pi_list he) fun σ H R h => by
  obtain ⟨G, ρ, P, s, h, w⟩ := h
  refine ⟨G, ρ, _, s, h, fun r β hr v H1 G1 s1 b1 r1 f1 => ?_⟩
  obtain ⟨G2, x, s2, rx, sb, old, h2⟩ := durV_step s1 r1 f1 hr
  split at h2
  case h_2 => exact h2.elim
  rename_i ds
  cases rx with
  | lst hs ra => exact ⟨_, rfl, ⟨_, Sub.sql (fun a o e => (s2.ex a o e).1) hs⟩, w _ _ _ h2 _ H1 G2 s2 b1 (it_list hs ra)⟩
/-- a tuple -/
def diTup (te : DE) : DI := fun ρ Q => te ρ fun r β => durV r fun d => match d with
  | .tup ds => Q ds.length (fun i => ds[i]?) β
  | _ => False
theorem it_tup {p : Addr} {vs : List V} {ds : List D} {G0 : Hp} (hs : SqT K G0 p vs) (r : RepAll K G0 vs ds) : ItOk K (Itt K p) ds.length (fun i => ds[i]?) G0 := by
  intro i G H sb x
  have sH : SqT K H p vs := (sb.trans fun a o e => (x a o e).1).sqt hs
  refine ⟨fun h => ⟨vs, sH, by rw [r.length]; exact h⟩, fun h => ?_⟩
  obtain ⟨v, hv⟩ := sql_uniq_len r h
  refine ⟨⟨vs, v, sH, hv⟩, fun y H' q => ?_⟩
  obtain ⟨eH, q⟩ := q
  subst eH
  have e2 := q vs sH
  obtain ⟨d, hd, rd⟩ := r.get' e2
  exact ⟨d, G, hd, Stp.refl x, fun _ z => z, rd.mono sb⟩
theorem pi_t (he : PE X e (LE X.K B te)) : PI X tg e (LI X.K B (diTup te)) := PIi (pi_tup he) fun σ H R h => by
  obtain ⟨G, ρ, P, s, h, w⟩ := h
  refine ⟨G, ρ, _, s, h, fun r β hr v H1 G1 s1 b1 r1 f1 => ?_⟩
  obtain ⟨G2, x, s2, rx, sb, old, h2⟩ := durV_step s1 r1 f1 hr
  split at h2
  case h_2 => exact h2.elim
  rename_i ds
  cases rx with
  | tup hs ra => exact ⟨_, rfl, ⟨_, Sub.sqt (fun a o e => (s2.ex a o e).1) hs⟩, w _ _ _ h2 _ H1 G2 s2 b1 (it_tup hs ra)⟩
/-- range(n), range(m, n) -/
def diR1 (te : DE) : DI := fun ρ Q => te ρ fun r β => match r with
  | .val (.int j) => (-(2 ^ 62) ≤ j ∧ j < 2 ^ 62) ∧ Q j.toNat (fun i => some (.int (i : Int))) β
  | _ => False
def diR2 (ta tb : DE) : DI := fun ρ Q => ta ρ fun r β => tb ⟨ρ.sl, β⟩ fun r2 β2 => match r, r2 with
  | .val (.int i), .val (.int j) => ((-(2 ^ 62) ≤ i ∧ i < 2 ^ 62) ∧ -(2 ^ 62) ≤ j ∧ j < 2 ^ 62) ∧ Q (j - i).toNat (fun m => some (.int (i + (m : Int)))) β2
  | _, _ => False
theorem it_rng {lo : Int} {n : Nat} {G0 : Hp} : ItOk K (Itr lo n) n (fun i => some (.int (lo + (i : Int)))) G0 := by
  intro i G H sb x
  refine ⟨fun h => h, fun h => ⟨h, fun y H' q => ?_⟩⟩
  obtain ⟨eH, e2⟩ := q
  subst eH e2
  exact ⟨_, G, rfl, Stp.refl x, fun _ z => z, .int _⟩
theorem pi_r1 {p : Pos} (hm : X.mg "range" = none) (ha : PE X a (LE X.K B ta)) (hg : Gl X "range" := by rfl) (hs : starEach [a] X.env = [(false, eval a X.env)] := by rfl) : PI X tg (.Call (.Name "range" p) [a] [] pos) (LI X.K B (diR1 ta)) :=
  PIi (pi_range1 hg hm (pa_cons ha pa_nil hs) hs) fun σ H R h => by
  obtain ⟨G, ρ, P, s, h, w⟩ := h
  refine ⟨G, ρ, _, s, h, fun r β hr v H1 G1 s1 b1 r1 f1 => ?_⟩
  split at hr
  case h_2 => exact hr.elim
  rename_i j
  cases r1
  refine ⟨j, rfl, hr.1.1, hr.1.2, w _ _ _ hr.2 _ H1 G1 s1 b1 ?_⟩
  have q := it_rng (K := X.K) (lo := 0) (n := j.toNat) (G0 := G1)
  simp only [Int.zero_add] at q
  exact q
theorem pi_r2 {tb : DE} {p : Pos} (hm : X.mg "range" = none) (ha : PE X a (LE X.K B ta)) (hb : PE X b (LE X.K B tb)) (hg : Gl X "range" := by rfl) (hs : starEach [a, b] X.env = [(false, eval a X.env), (false, eval b X.env)] := by rfl) (hs2 : starEach [b] X.env = [(false, eval b X.env)] := by rfl)
    (he : starEach [a, b] X.env = (false, eval a X.env) :: starEach [b] X.env := by rfl) : PI X tg (.Call (.Name "range" p) [a, b] [] pos) (LI X.K B (diR2 ta tb)) :=
  PIi (pi_range2 hg hm (pa_cons ha (pa_cons hb pa_nil hs2) he) hs hs2) fun σ H R h => by
  obtain ⟨G, ρ, P, s, h, w⟩ := h
  refine ⟨G, ρ, _, s, h, fun r β hr v H1 G1 s1 b1 r1 f1 => ⟨G1, ⟨ρ.sl, β⟩, _, s.step s1 b1, hr, fun r2 β2 hr2 v2 H2 G2 s2 b2 r2' f2 => ?_⟩⟩
  split at hr2
  case h_2 => exact hr2.elim
  rename_i i j
  cases r1
  cases r2'
  exact ⟨i, j, rfl, ⟨hr2.1.1.1, hr2.1.1.2, hr2.1.2.1, hr2.1.2.2⟩, w _ _ _ hr2.2 _ H2 G2 (s1.trans s2) b2 it_rng⟩
/-- enumerate(xs) -/
def diEnum (te : DE) : DI := fun ρ Q => te ρ fun r β => durV r fun d => match d with
  | .lst ds => Q ds.length (fun i => ds[i]?.map fun d => .tup [.int (i : Int), d]) β
  | _ => False
theorem it_enum {p : Addr} {vs : List V} {ds : List D} {G0 : Hp} (hs : SqL K G0 p vs) (r : RepAll K G0 vs ds) : ItOk K (Ite K p) ds.length (fun i => ds[i]?.map fun d => .tup [.int (i : Int), d]) G0 := by
  intro i G H sb x
  have sH : SqL K H p vs := (sb.trans fun a o e => (x a o e).1).sql hs
  refine ⟨fun h => ⟨vs, sH, by rw [r.length]; exact h⟩, fun h => ?_⟩
  obtain ⟨v, hv⟩ := sql_uniq_len r h
  refine ⟨⟨vs, v, sH, hv⟩, fun y H' q => ?_⟩
  obtain ⟨T, z, ey, hT, eH, q⟩ := q
  subst ey eH
  have e2 := q vs sH
  obtain ⟨d, hd, rd⟩ := r.get' e2
  have g : G T = none := by
    cases w : G T with
    | none => rfl
    | some o => rw [(x T o w).1] at hT; cases hT
  refine ⟨.tup [.int (i : Int), d], upd G T (.tup [.int (i : Nat), z]), by dsimp only; rw [hd]; rfl, (Stp.new x hT).freeze hT upd_same not_soft_tup, fun _ b => b.upd not_soft_tup, ?_⟩
  exact .tup (.inl (.inl upd_same)) (.cons (.int _) (.cons (rd.mono (sb.trans (sub_upd g))) .nil))
theorem pi_en {p tpos : Pos} {elts : List Expr} {kk : Nat} (hm : X.mg "enumerate" = none) (ha : PE X a (LE X.K B ta)) (hg : Gl X "enumerate" := by rfl) (hs : starEach [a] X.env = [(false, eval a X.env)] := by rfl) :
    PI X (.Tuple elts kk tpos) (.Call (.Name "enumerate" p) [a] [] pos) (LI X.K B (diEnum ta)) := PIi (pi_enum hg hm (pa_cons ha pa_nil hs) hs) fun σ H R h => by
  obtain ⟨G, ρ, P, s, h, w⟩ := h
  refine ⟨G, ρ, _, s, h, fun r β hr v H1 G1 s1 b1 r1 f1 => ?_⟩
  obtain ⟨G2, x, s2, rx, sb, old, h2⟩ := durV_step s1 r1 f1 hr
  split at h2
  case h_2 => exact h2.elim
  rename_i ds
  cases rx with
  | lst hs ra => exact ⟨_, _, rfl, Sub.sql (fun a o e => (s2.ex a o e).1) hs, w _ _ _ h2 _ H1 G2 s2 b1 (it_enum hs ra)⟩
/-! ### comprehensions -/
def LTs := LT
/-- [e for x in .. if ..]: what is made so far is told by W; the element is frozen -/
def dLc (ti : DI) (g : DG) (tt : DT) (te : DE) (vs : List Nat) : DE := fun ρ Q => ti ρ fun n item β => n ≤ 1000000 ∧ ∃ W : Nat → List D → Nat → Prop, W 0 [] β ∧
  (∀ i x acc β, i < n → item i = some x → W i acc β → g x ⟨vs.foldr (fun v sl => sl.set v none) ρ.sl, β⟩ fun ρ2 => tt ρ2 fun b β2 => if b = true then te ⟨ρ2.sl, β2⟩ fun r β3 => durV r fun d => W (i + 1) (acc ++ [d]) β3 else W (i + 1) acc β2) ∧
  ∀ acc β, W n acc β → Q (.own acc) β
theorem wipe_foldr (σ : SL) : ∀ vs : List Nat, wipe σ vs = vs.foldr (fun v sl => sl.set v none) σ
  | [] => rfl
  | v :: vs => by
    unfold wipe
    rw [wipe_foldr σ vs]
    rfl
theorem FS.forget {G : Hp} {ρ : Env} (s : FS K B G ρ σ H) (i : Nat) : FS K B G ⟨ρ.sl.set i none, ρ.β⟩ (σ.set i none) H := by
  have at_ : ∀ {j : Nat} {z : R}, (ρ.sl.set i none)[j]? = some (some z) → j ≠ i ∧ ρ.sl[j]? = some (some z) := fun {j z} q => by
    by_cases hj : j = i
    · subst hj
      by_cases hl : j < ρ.sl.length
      · rw [List.getElem?_set_self hl] at q
        cases q
      · rw [List.getElem?_eq_none (by rw [List.length_set]; omega)] at q
        cases q
    · rw [List.getElem?_set_ne (Ne.symm hj)] at q
      exact ⟨hj, q⟩
  have ts : ∀ {j : Nat}, j ≠ i → (σ.set i none)[j]? = σ[j]? := fun hj => List.getElem?_set_ne (Ne.symm hj)
  refine ⟨s.stp, s.bd, by rw [List.length_set, List.length_set]; exact s.len, fun j z e => ?_, fun j k ds es p e1 e2 e3 e4 => ?_, fun j ds e => ?_⟩
  · obtain ⟨hj, e⟩ := at_ e
    rw [ts hj]
    exact s.sl j z e
  · obtain ⟨hj, e1⟩ := at_ e1
    obtain ⟨hk, e2⟩ := at_ e2
    rw [ts hj] at e3
    rw [ts hk] at e4
    exact s.ow j k ds es p e1 e2 e3 e4
  · exact s.np j ds (at_ e).2
theorem FS.wipe {G : Hp} {ρ : Env} (s : FS K B G ρ σ H) : ∀ vs : List Nat, FS K B G ⟨vs.foldr (fun v sl => sl.set v none) ρ.sl, ρ.β⟩ (L2.wipe σ vs) H
  | [] => s
  | v :: vs => by
    have q := (FS.wipe s vs).forget v
    unfold L2.wipe
    exact q
/-- the target's stores touch the block's own slots alone -/
def GOwn (g : TG) (vs : List Nat) : Prop := ∀ v σ H (Q : SL → Hp → Prop), g v (wipe σ vs) H Q → g v (wipe σ vs) H fun σ2 H2 => wipe σ2 vs = wipe σ vs ∧ Q σ2 H2
theorem le_lc {ti : DI} {tt : DT} {vs : List Nat} {gg : TG} (hgo : ∀ v (σ0 : SL) H (Q : SL → Hp → Prop), LG K B g v (wipe σ0 vs) H Q → gg v (wipe σ0 vs) H fun σ2 H2 => wipe σ2 vs = wipe σ0 vs ∧ Q σ2 H2)
    (h : LE K B (dLc ti g tt te vs) σ H Q) : tLc (LI K B ti) gg (LT K B tt) (LE K B te) vs σ H Q := by
  obtain ⟨G, ρ, P, s, h, w⟩ := h
  refine ⟨G, ρ, _, s, h, fun n item β hn J H1 G1 s1 b1 ok D hD => ?_⟩
  obtain ⟨hbig, W, w0, turn, fin⟩ := hn
  have F1 := s.step s1 b1
  have gD : G1 D = none := by
    cases z : G1 D with
    | none => rfl
    | some o => rw [(s1.ex D o z).1] at hD; cases hD
  have hD0 : H D = none := back_none s1.kp hD
  have k0 : B.H D = none := back_none (s.stp.kp.trans s1.kp) hD
  -- the state at turn i: the list at D holds acc, told by W
  refine ⟨fun i m H' => m = n - i ∧ i ≤ n ∧ ∃ G' acc avs β', Stp G1 H1 G' H' ∧ Bud H' β' ∧ H' D = some (.lst avs) ∧ RepAll K G' avs acc ∧ G' D = none ∧ acc.length ≤ i ∧ W i acc β', ?_, ?_⟩
  · exact ⟨n, by simp, Nat.zero_le _, G1, [], [], β, Stp.new s1.ex hD, b1.upd not_soft_lst, upd_same, .nil, gD, Nat.le_refl _, w0⟩
  · rintro i m H2 ⟨rfl, hi, G2, acc, avs, β2, s2, b2, hD2, ra, gD2, hl, w2⟩
    obtain ⟨o1, o2⟩ := ok i G2 H2 (s2.sub s1.ex) s2.ex
    by_cases hlt : i < n
    · obtain ⟨go, yl⟩ := o2 hlt
      refine .inr ⟨go, fun H' => i + 1 ≤ n ∧ ∃ G' acc avs β', Stp G1 H1 G' H' ∧ Bud H' β' ∧ H' D = some (.lst avs) ∧ RepAll K G' avs acc ∧ G' D = none ∧ acc.length ≤ i + 1 ∧ W (i + 1) acc β', fun H' q => ⟨n - (i + 1), by omega, rfl, q.1, q.2⟩, fun x H3 y => ?_⟩
      obtain ⟨dx, G3, ei, s3, b3, r3⟩ := yl x H3 y
      have s13 := s2.trans s3
      have F3 := (F1.step s13 (b3 _ b2)).wipe vs
      have t1 := turn i dx acc β2 hlt ei w2
      refine hgo x σ H3 _ ⟨G3, ⟨vs.foldr (fun v sl => sl.set v none) ρ.sl, β2⟩, _, dx, F3, r3, t1, fun ρ4 σ4 h4 f4 => ?_⟩
      have hD3 : H3 D = some (.lst avs) := s3.kp.hard _ _ hD2 not_soft_lst
      have gD3 : G3 D = none := s3.none (by rw [hD2]; simp) gD2
      refine ⟨G3, ρ4, _, f4, h4, fun b β4 hb H5 G5 s5 b5 => ?_⟩
      have hD5 : H5 D = some (.lst avs) := s5.kp.hard _ _ hD3 not_soft_lst
      have gD5 : G5 D = none := s5.none (by rw [hD3]; simp) gD3
      have s15 := s13.trans s5
      have ra5 := (ra.mono (s3.sub s2.ex)).mono (s5.sub s3.ex)
      cases b with
      | false =>
        rw [if_neg Bool.false_ne_true] at hb
        dsimp only
        rw [if_neg Bool.false_ne_true]
        exact ⟨hlt, G5, acc, avs, β4, s15, b5, hD5, ra5, gD5, Nat.le_succ_of_le hl, hb⟩
      | true =>
        rw [if_pos rfl] at hb
        dsimp only
        rw [if_pos rfl]
        refine ⟨G5, ⟨ρ4.sl, β4⟩, _, f4.step s5 b5, hb, fun r β6 hr v H6 G6 s6 b6 r6 f6 => ?_⟩
        obtain ⟨G7, dv, s7, rv, sb7, old7, hn7⟩ := durV_step s6 r6 f6 hr
        have hD6 : H6 D = some (.lst avs) := s7.kp.hard _ _ hD5 not_soft_lst
        have gD7 : G7 D = none := s7.none (by rw [hD5]; simp) gD5
        have s17 := s15.trans s7
        refine ⟨avs, hD6, by rw [ra.length]; exact big_lt (by omega), hlt, G7, acc ++ [dv], avs ++ [v], β6, ⟨s17.old, s17.kp.mut hD, fun a o z => ?_⟩, b6.upd not_soft_lst, upd_same, (ra5.mono (s7.sub s5.ex)).append (.cons rv .nil), gD7, by rw [List.length_append]; simp; omega, hn7⟩
        have hne : a ≠ D := fun q => by rw [q, gD7] at z; cases z
        rw [upd_ne hne]
        exact s17.ex a o z
    · have e : i = n := by omega
      subst e
      refine .inl ⟨o1 (Nat.le_refl _), ?_⟩
      have hq := fin acc β2 w2
      exact w _ _ hq _ H2 G2 (s1.trans s2) b2 ⟨D, avs, rfl, hD2, ra, gD2, k0⟩ ⟨D, rfl, hD0⟩
theorem go_name {i : Nat} {vs : List Nat} (hi : i ∈ vs) : ∀ v (σ0 : SL) H (Q : SL → Hp → Prop), LG K B (dgName i) v (wipe σ0 vs) H Q → gName i v (wipe σ0 vs) H fun σ2 H2 => wipe σ2 vs = wipe σ0 vs ∧ Q σ2 H2 := fun v σ0 H Q h => by
  refine ⟨?_, lg_name h⟩
  clear h
  have key : ∀ (vs : List Nat) (a b : SL), a.length = b.length → (∀ j, j ∉ vs → a[j]? = b[j]?) → wipe a vs = wipe b vs := by
    intro vs
    induction vs with
    | nil =>
      intro a b hl h
      exact List.ext_getElem? fun j => h j (by simp)
    | cons x vs ih =>
      intro a b hl h
      unfold wipe
      refine List.ext_getElem? fun j => ?_
      have la : (wipe a vs).length = (wipe b vs).length := by rw [wipe_length, wipe_length, hl]
      by_cases hj : x = j
      · subst hj
        rw [List.getElem?_set, List.getElem?_set, if_pos rfl, if_pos rfl, la]
      · rw [List.getElem?_set_ne hj, List.getElem?_set_ne hj]
        by_cases hm : j ∈ vs
        · -- both are forgotten there
          have forgot : ∀ (vs : List Nat) (c : SL), j ∈ vs → (wipe c vs)[j]? = if j < c.length then some none else none := by
            intro vs
            induction vs with
            | nil => intro c hm; cases hm
            | cons y vs ih2 =>
              intro c hm
              unfold wipe
              by_cases hy : y = j
              · subst hy
                rw [List.getElem?_set, if_pos rfl, wipe_length]
              · rw [List.getElem?_set_ne hy]
                rcases List.mem_cons.mp hm with e | hm
                · exact absurd e.symm hy
                · exact ih2 c hm
          rw [forgot vs a hm, forgot vs b hm, hl]
        · have out : ∀ (vs : List Nat) (c : SL), j ∉ vs → (wipe c vs)[j]? = c[j]? := fun vs c h => wipe_out h
          rw [out vs a hm, out vs b hm]
          exact h j fun z => by
            rcases List.mem_cons.mp z with e | z
            · exact hj e.symm
            · exact hm z
  refine key vs _ _ ?_ fun j hj => ?_
  · rw [List.length_set, wipe_length]
  · have hne : i ≠ j := fun z => hj (z ▸ hi)
    rw [List.getElem?_set_ne hne, wipe_out hj]
def dYes : DT := fun ρ Q => Q true ρ.β
theorem dts_nil : PTs X [] (LT X.K B dYes) := ⟨fun pins s σ H Q I h => by
  obtain ⟨G, ρ, P, f, h, w⟩ := h
  exact pts_nil.run pins s σ H Q I (w _ _ h H G (Stp.refl f.ex) f.bd)⟩
theorem dts_one (h : PT X c (LT X.K B tA)) : PTs X [c] (LT X.K B tA) := pts_one h
theorem de_lc {elt : Expr} {ifs : List Expr} {scope : Scope} {own : List (Str × Nat)} {ti : DI} {gg : TG} {tt : DT} (hc : X.calm = true) (hN : X.N.Nodup) (hi : PI X tg iter (LI X.K B ti)) (ok : BlkOk X.N X.env.scope scope own)
    (hgo : ∀ v (σ0 : SL) H (Q : SL → Hp → Prop), LG X.K B g v (wipe σ0 (own.map (·.2))) H Q → gg v (wipe σ0 (own.map (·.2))) H fun σ2 H2 => wipe σ2 (own.map (·.2)) = wipe σ0 (own.map (·.2)) ∧ Q σ2 H2)
    (hg : ∀ (s : Shared) (H : Hp) (C : Addr) (cl : List (Str × Addr)) (fp : List Addr), PG (X.blk s H scope (compEnvC scope cl C X.env) fp) tg gg) (ht : ∀ (s : Shared) (H : Hp) (C : Addr) (cl : List (Str × Addr)) (fp : List Addr), PTs (X.blk s H scope (compEnvC scope cl C X.env) fp) ifs (LT X.K B tt))
    (he : ∀ (s : Shared) (H : Hp) (C : Addr) (cl : List (Str × Addr)) (fp : List Addr), PE (X.blk s H scope (compEnvC scope cl C X.env) fp) elt (LE X.K B te)) (hs : ∀ x, foldedSetIterable iter X.env x = pure x := by intro _; rfl) :
    PE X (.ListComp elt [⟨tg, iter, ifs, 0⟩] scope pos) (LE X.K B (dLc ti g tt te (own.map (·.2)))) := PEi (pe_lc hc hN hi ok hg ht he hs) fun _ _ _ => le_lc hgo
theorem ds_setlc (i : Nat) {y : Str} {py spos : Pos} {elt : Expr} {ifs : List Expr} {scope : Scope} {own : List (Str × Nat)} {ti : DI} {gg : TG} {tt : DT} (hc : X.calm = true) (hN : X.N.Nodup) (hi : PI X tg iter (LI X.K B ti)) (ok : BlkOk X.N X.env.scope scope own)
    (hgo : ∀ v (σ0 : SL) H (Q : SL → Hp → Prop), LG X.K B g v (wipe σ0 (own.map (·.2))) H Q → gg v (wipe σ0 (own.map (·.2))) H fun σ2 H2 => wipe σ2 (own.map (·.2)) = wipe σ0 (own.map (·.2)) ∧ Q σ2 H2)
    (hg : ∀ (s : Shared) (H : Hp) (C : Addr) (cl : List (Str × Addr)) (fp : List Addr), PG (X.blk s H scope (compEnvC scope cl C X.env) fp) tg gg) (ht : ∀ (s : Shared) (H : Hp) (C : Addr) (cl : List (Str × Addr)) (fp : List Addr), PTs (X.blk s H scope (compEnvC scope cl C X.env) fp) ifs (LT X.K B tt))
    (he : ∀ (s : Shared) (H : Hp) (C : Addr) (cl : List (Str × Addr)) (fp : List Addr), PE (X.blk s H scope (compEnvC scope cl C X.env) fp) elt (LE X.K B te))
    (hsw : swapsWith (.ListComp elt [⟨tg, iter, ifs, 0⟩] scope pos) (some (.Name y py)) spos.line X.env = pure true) (hy : X.N[i]? = some y := by rfl) (hyl : X.env.scope.names.lookup y = some .local := by rfl) (hs : ∀ x, foldedSetIterable iter X.env x = pure x := by intro _; rfl) :
    PS X (.Assign [.Name y py] (.ListComp elt [⟨tg, iter, ifs, 0⟩] scope pos) spos) (LS X.K B (dSet i (dLc ti g tt te (own.map (·.2))))) :=
  PSi (ps_setLc hc hN hy hyl hsw hi ok hg ht he hs) fun Dn σ H h => le_lc (te := te) (tt := tt) hgo (ls_set h)
end
end DL
namespace DL
open PySem L2
/-! ### repr -/
mutual
/-- what repr serves -/
def D.shw : D → Prop
  | .non => True
  | .bl _ => True
  | .int i => i.natAbs.log2 < 1920
  | .str x => PyData.strOk x = true
  | .lst ds => D.shws ds
  | .tup ds => D.shws ds
  | .ins _ _ => False
  | .raw _ => False
def D.shws : List D → Prop
  | [] => True
  | d :: ds => D.shw d ∧ D.shws ds
end
mutual
/-- no more signs than this -/
def D.ln : D → Nat
  | .non => 4
  | .bl _ => 5
  | .int i => (toString i).length
  | .str x => 10 * x.length + 2
  | .lst ds => D.lns ds + 3
  | .tup ds => D.lns ds + 3
  | .ins _ _ => 0
  | .raw _ => 0
def D.lns : List D → Nat
  | [] => 0
  | d :: ds => D.ln d + 2 + D.lns ds
end
theorem shws_iff : ∀ {ds : List D}, D.shws ds ↔ ∀ d ∈ ds, D.shw d
  | [] => by rw [D.shws]; exact ⟨fun _ d h => (by cases h), fun _ => trivial⟩
  | d :: ds => by
    rw [D.shws, shws_iff (ds := ds)]
    exact ⟨fun ⟨h, t⟩ e he => by
      rcases List.mem_cons.mp he with rfl | he
      · exact h
      · exact t e he, fun h => ⟨h d (List.mem_cons_self ..), fun e he => h e (List.mem_cons_of_mem _ he)⟩⟩
theorem lns_le {m : Nat} : ∀ {ds : List D}, (∀ d ∈ ds, D.ln d ≤ m) → D.lns ds ≤ ds.length * (m + 2)
  | [], _ => by rw [D.lns]; exact Nat.zero_le _
  | d :: ds, h => by
    rw [D.lns, List.length_cons, Nat.succ_mul]
    have h1 := h d (List.mem_cons_self ..)
    have h2 := lns_le (ds := ds) fun e he => h e (List.mem_cons_of_mem _ he)
    omega
theorem ln_int {i : Int} {k : Nat} (hk : 0 < k) (h : i.natAbs < 10 ^ k) : D.ln (.int i) ≤ k + 1 := by
  rw [D.ln]
  exact int_text_length_le10 hk h
mutual
theorem shown_ln : ∀ d : D, D.shw d → d.py.shown.length ≤ D.ln d
  | .non, _ => by rw [D.py, D.ln]; exact Nat.le_refl 4
  | .bl b, _ => by rw [D.py, D.ln, PyData.shown]; cases b <;> decide
  | .int i, h => by
    rw [D.py, D.ln, PyData.shown]
    show (PySem.Str.ofString (toString i)).length ≤ _
    rw [PySem.ofString_length]
    exact Nat.le_refl _
  | .str x, h => by
    rw [D.shw] at h
    rw [D.py, D.ln, PyData.shown]
    refine StrLaws.reprText_len x fun c hc => ?_
    unfold PyData.strOk at h
    rw [Array.all_eq_true_iff_forall_mem] at h
    have q := of_decide_eq_true (h c (Array.mem_toList_iff.mp hc))
    omega
  | .lst ds, h => by
    rw [D.shw] at h
    rw [D.py, D.ln, PyData.shown]
    have h1 := listText_len_le (PyData.shownAll (D.pys ds))
    have h2 := shown_lns ds h
    omega
  | .tup ds, h => by
    rw [D.shw] at h
    rw [D.py, D.ln, PyData.shown]
    have h1 := tupleText_len_le (PyData.shownAll (D.pys ds))
    have h2 := shown_lns ds h
    omega
  | .ins _ _, h => by rw [D.shw] at h; exact h.elim
  | .raw _, h => by rw [D.shw] at h; exact h.elim
theorem shown_lns : ∀ ds : List D, D.shws ds → ((PyData.shownAll (D.pys ds)).map (·.length)).sum + 2 * (PyData.shownAll (D.pys ds)).length ≤ D.lns ds
  | [], _ => by rw [D.pys, PyData.shownAll, D.lns]; exact Nat.le_refl 0
  | d :: ds, h => by
    rw [D.shws] at h
    rw [D.pys, PyData.shownAll, D.lns, List.map_cons, List.sum_cons, List.length_cons]
    have h1 := shown_ln d h.1
    have h2 := shown_lns ds h.2
    omega
end
/-- what repr gives -/
def fRepr : F1 := fun a Q => match look a with
  | some d => D.shp 60 d ∧ D.shw d ∧ D.ln d ≤ 1000000 ∧ Q (.val (.str d.py.shown))
  | none => False
mutual
theorem shw_py : ∀ {n : Nat} {d : D}, D.shw d → D.shp n d → d.py.showable = true ∧ d.py.hasDict = false
  | _, .non, _, _ => by rw [D.py]; exact ⟨rfl, rfl⟩
  | _, .bl b, _, _ => by rw [D.py]; exact ⟨rfl, rfl⟩
  | _, .int i, h, _ => by rw [D.shw] at h; rw [D.py, PyData.showable]; exact ⟨decide_eq_true h, rfl⟩
  | _, .str x, _, _ => by rw [D.py]; exact ⟨rfl, rfl⟩
  | n, .lst ds, h, q => by
    rw [D.shw] at h; rw [D.shp] at q; rw [D.py, PyData.showable, PyData.hasDict]
    exact shws_py (n := n - 1) h q.2
  | n, .tup ds, h, q => by
    rw [D.shw] at h; rw [D.shp] at q; rw [D.py, PyData.showable, PyData.hasDict]
    exact shws_py (n := n - 1) h q.2
  | _, .ins _ _, h, _ => by rw [D.shw] at h; exact h.elim
  | _, .raw _, h, _ => by rw [D.shw] at h; exact h.elim
theorem shws_py : ∀ {n : Nat} {ds : List D}, D.shws ds → D.shps n ds → PyData.showableAll (D.pys ds) = true ∧ PyData.hasDictAll (D.pys ds) = false
  | _, [], _, _ => by rw [D.pys]; exact ⟨rfl, rfl⟩
  | n, d :: ds, h, q => by
    rw [D.shws] at h; rw [D.shps] at q; rw [D.pys, PyData.showableAll, PyData.hasDictAll]
    obtain ⟨a1, a2⟩ := shw_py h.1 q.1
    obtain ⟨b1, b2⟩ := shws_py h.2 q.2
    rw [a1, a2, b1, b2]
    exact ⟨rfl, rfl⟩
end
def rRepr (K : PySem.W.Frag) : List V → Hp → VK → Prop := fun xs H Q => ∃ x d n, xs = [x] ∧ Rep K H x d ∧ D.shp n d ∧ n ≤ 60 ∧ D.shw d ∧ D.ln d ≤ 1000000 ∧ Q (.str d.py.shown) H
theorem cr_repr {X : Cx} (hg : X.A.guards = some []) (hu : X.A.units + 65 < cLine) : CallR X (.builtin "repr") (rRepr X.K) := by
  intro pins s σ H xs us Q I r h
  obtain ⟨x, d, n, rfl, rx, sp, hn, sw, hl, q⟩ := h
  obtain ⟨u, rfl, ru⟩ := vals1 r
  have hz : d.py.shown.length ≤ sizeLine := Nat.le_trans (shown_ln d sw) (big_le hl)
  have at_ : ∀ a, u = .ref a → wpAny (model X.prog X.w) X.A (call (.builtin "repr") [u]) (EP X pins σ Q) X.xe s := fun a e => by
    subst e
    obtain ⟨as, rd⟩ := Dp.reads I d.py x (.ref a) (rep_dp rx sp) ru
    obtain ⟨h1, h2⟩ := shw_py sw sp
    have hd := shp_depth sp
    refine PySem.repr_of_reads' rd h1 (fun z => by rw [h2] at z; cases z) hg (by omega) (fun _ _ e => e) (fun h' u tk hk => ⟨.str _, H, I.kept hk, ⟨_, rfl⟩, q⟩) (hsz := hz)
  cases rx with
  | non =>
    cases ru
    rw [D.py] at q
    exact PySem.P.repr_of_none ⟨.str _, H, I.tok _, ⟨_, rfl⟩, q⟩
  | bl b =>
    cases ru
    rw [D.py] at q
    refine PySem.P.repr_of_bool ⟨.str _, H, I.tok _, ⟨_, rfl⟩, ?_⟩
    cases b <;> exact q
  | int i =>
    obtain ⟨t, rfl⟩ := ru
    rw [D.shw] at sw
    rw [D.py] at q
    exact PySem.P.repr_of_int sw ⟨.str _, H, I.tok _, ⟨_, rfl⟩, q⟩
  | str z =>
    obtain ⟨t, rfl⟩ := ru
    rw [D.py] at q hz
    exact PySem.P.repr_of_str ⟨.str _, H, I.tok _, ⟨_, rfl⟩, q⟩ (hsz := hz)
  | lst _ _ => exact at_ _ ru
  | tup _ _ => exact at_ _ ru
  | ins _ _ => rw [D.shw] at sw; exact sw.elim
  | raw _ => rw [D.shw] at sw; exact sw.elim
theorem c_repr {K : PySem.W.Frag} : CaC K (rRepr K) fRepr := by
  intro H0 G H a v Q' Q x k ra h q
  unfold fRepr at h
  split at h
  case h_2 => exact h.elim
  rename_i d e
  exact ⟨v, d, 60, rfl, rr_look x ra e, h.1, Nat.le_refl _, h.2.1, h.2.2.1, fin_val x q (.str _) h.2.2.2⟩
end DL
namespace DL
open PySem L2 PySem.Spec PyProof.Rows
/-! ### a source of numbers opened and closed -/
structure GB (x y z : Int) (n : Nat) : Prop where
  x0 : 0 ≤ x
  x1 : x < 10 ^ 600
  y0 : 0 ≤ y
  y1 : y < 2147483647
  z0 : 0 ≤ z
  z1 : z + (n : Int) * 2 ^ 12 ≤ 2 ^ 62
section
variable {X : Cx} {pins : List (Addr × Obj)} {σ : SL} {H : Hp} {s : Shared} {g : Addr} {n : Nat}
theorem Inv.again {o : HO} (I : Inv X pins σ H s) (mu : Mut (H g)) (new : ObjOk X.prog X.w (upd H g o) s.heap g o) (ex : ∃ u, s.heap.get? g = some u) : Inv X pins σ (upd H g o) s :=
  I.write (h' := s.heap) (t' := s.toks) mu (.inl rfl) (fun _ _ _ e => e) ex new
theorem gen_open (I : Inv X pins σ H s) (h : H g = some (GenO g n)) : ∃ x y z, GB x y z n ∧ Inv X pins σ (upd H g (.lst [.int x, .int y, .int z])) s := by
  obtain ⟨p, ex, _⟩ := I.hok g _ h
  obtain ⟨x, y, z, t, u, v, m, e, b1, b2, b3, b4, b5, b6⟩ := p
  exact ⟨x, y, z, ⟨b1, b2, b3, b4, b5, b6⟩, Inv.again I (by rw [h]; trivial) ⟨by show 3 ≤ sizeLine; decide, [.int x t, .int y u, .int z v], m, .cons ⟨t, rfl⟩ (.cons ⟨u, rfl⟩ (.cons ⟨v, rfl⟩ .nil)), e⟩ ex⟩
theorem gen_ok {P : Program} {w : World} {H H1 : Hp} {h : Heap} {x y z : Int} (ok : ObjOk P w H h g (.lst [.int x, .int y, .int z])) (b : GB x y z n) : ObjOk P w H1 h g (GenO g n) := by
  obtain ⟨_, its, m, r, e⟩ := ok
  have sh : ∃ t u v, its = [.int x t, .int y u, .int z v] := by
    cases r with
    | cons r1 r =>
      cases r with
      | cons r2 r =>
        cases r with
        | cons r3 r =>
          cases r
          obtain ⟨t, rfl⟩ := r1
          obtain ⟨u, rfl⟩ := r2
          obtain ⟨v, rfl⟩ := r3
          exact ⟨t, u, v, rfl⟩
  obtain ⟨t, u, v, rfl⟩ := sh
  refine ⟨⟨x, y, z, t, u, v, m, e, b.x0, b.x1, b.y0, b.y1, b.z0, b.z1⟩, ⟨_, e⟩, fun h1 h2 p st => ?_⟩
  obtain ⟨x, y, z, t, u, v, m, e, c⟩ := p
  exact ⟨x, y, z, t, u, v, m, st _ e, c⟩
theorem gen_close {x y z : Int} (I : Inv X pins σ H s) (h : H g = some (.lst [.int x, .int y, .int z])) (b : GB x y z n) : Inv X pins σ (upd H g (GenO g n)) s :=
  Inv.again I (by rw [h]; trivial) (gen_ok (I.hok g _ h) b) (by obtain ⟨_, its, m, _, e⟩ := I.hok g _ h; exact ⟨_, e⟩)
end
/-- a heap without g -/
def sans (H : Hp) (g : Addr) : Hp := fun a => if a = g then none else H a
theorem sans_same {H : Hp} {g : Addr} : sans H g g = none := if_pos rfl
theorem sans_ne {H : Hp} {g a : Addr} (h : a ≠ g) : sans H g a = H a := if_neg h
/-! ### the drawing of a number -/
/-- a number below the bound; one call less is left -/
def tRandom : DSpec := fun rs β Q _ => match rs with
  | [.gen, .val (.int b)] => 0 < b ∧ b.natAbs.log2 < 8000 ∧ 1 ≤ β ∧ ∀ r : Int, 0 ≤ r → r < b → Q (.val (.int r)) (β - 1)
  | _ => False
def tHash : DSpec := fun rs β Q _ => match rs with
  | [.val (.int s), .val (.int i)] => (0 ≤ s ∧ s < 2147483647 ∧ 0 ≤ i ∧ i < 2 ^ 63) ∧ ∀ r : Int, 0 ≤ r → r < 2147483647 → Q (.val (.int r)) β
  | _ => False
abbrev rAdd0 : R2 := rI0 fun i j => .int (i + j)
abbrev rGt0 : R2 := rI0 fun i j => .bl (decide (j < i))
abbrev rMod0 : R2 := rI (fun _ j => j ≠ 0) fun i j => .int (i.fmod j)
abbrev rDiv0 : R2 := rI CDv fun i j => .int (i.fdiv j)
abbrev rMul0 : R2 := rI CMulW fun i j => .int (i * j)
abbrev rInt0 : List V → Hp → VK → Prop := fun xs H Q => (∃ i, xs = [.int i] ∧ Q (.int i) H) ∨ ∃ k, xs = [.bl k] ∧ Q (.int (if k then 1 else 0)) H
/-- generator[k] -/
abbrev tGen (K : PySem.W.Frag) (k : Int) : TE := tOp (rIxL K) (tVar 0) (tC (.int k))
def tRnd1 (K : PySem.W.Frag) : TS := tSeq (tAsg (tOp rMod0 (tCB rInt0 (tCons (tGen K 0) tNil)) (tVar 1)) (gName 2)) (tSeq (tAsg (tOp rDiv0 (tGen K 0) (tVar 1)) (gSub (tVar 0) (tC (.int 0)) rSetL)) (tRet (tVar 2)))
def tRnd2 (K : PySem.W.Frag) (E : XK) : TS := tSeq (tAsg (tOp rAdd0 (tGen K 2) (tC (.int 1))) (gSub (tVar 0) (tC (.int 2)) rSetL))
  (tAsg (tOp rAdd0 (tOp rMul0 (tVar 2) (tC (.int 2147483587))) (tCall (spD K tHash) [] E (tCons (tGen K 1) (tCons (tGen K 2) tNil)))) (gName 2))
def tRnd (K : PySem.W.Frag) (E : XK) : TS := tSeq (tIfS (tTest (tOp rGt0 (tGen K 0) (tC (.int 0)))) (tRnd1 K) tNext)
  (tSeq (tAsg (tC (.int 0)) (gName 2)) (tSeq (tFor (iRng1 (tCons (tOp rAdd0 (tC (.int 1)) (tOp rDiv0 (tBits (tVar 1)) (tC (.int 30)))) tNil)) (gName 3) (tRnd2 K E))
    (tRet (tOp rMod0 (tCB rInt0 (tCons (tVar 2) tNil)) (tVar 1)))))
theorem fmod_in {a b : Int} (h : 0 < b) : 0 ≤ a.fmod b ∧ a.fmod b < b := by
  rw [Int.fmod_eq_emod_of_nonneg a (Int.le_of_lt h)]
  exact ⟨Int.emod_nonneg a (by omega), Int.emod_lt_of_pos a h⟩
theorem keep_sans {H H' : Hp} {g : Addr} {o : HO} (k : Keep (sans H g) H') : Keep (sans H g) (upd H' g o) := k.mut sans_same
/-- behind a step that keeps all but the source -/
structure Gat (H0 : Hp) (β : Nat) (g : Addr) (x y z : Int) (H : Hp) : Prop where
  bd : Bud H β
  k : Keep (sans H0 g) H
  at' : H g = some (.lst [.int x, .int y, .int z])
theorem Gat.put {H0 H : Hp} {β : Nat} {g : Addr} {x y z x' y' z' : Int} (a : Gat H0 β g x y z H) : Gat H0 β g x' y' z' (upd H g (.lst [.int x', .int y', .int z'])) := ⟨a.bd.upd not_soft_lst, keep_sans a.k, upd_same⟩
theorem sans_keep {H : Hp} {g : Addr} : Keep (sans H g) H := ⟨fun a o e _ => by
    have hne : a ≠ g := fun q => by rw [q, sans_same] at e; cases e
    rwa [sans_ne hne] at e, fun a n e => by
    have hne : a ≠ g := fun q => by rw [q, sans_same] at e; cases e
    rw [sans_ne hne] at e
    exact ⟨n, e⟩, fun a e => by
    have hne : a ≠ g := fun q => e (by rw [q, sans_same])
    rwa [sans_ne hne] at e⟩
theorem random_run {K : PySem.W.Frag} {E : XK} {H0 H : Hp} {β : Nat} {g : Addr} {x y z b : Int} {n : Nat} {v2 v3 : Option V} {D : Ends} (a : Gat H0 β g x y z H) (gb : GB x y z (n + 1)) (hb0 : 0 < b) (hb1 : b.natAbs.log2 < 8000)
    (hq : ∀ r x' y' z' H', 0 ≤ r → r < b → GB x' y' z' n → Gat H0 β g x' y' z' H' → D.rt (.int r) H') : tRnd K E D [some (.ref g), some (.int b), v2, v3] H := by
  obtain ⟨x0, x1, y0, y1, z0, z1⟩ := gb
  have bne : b ≠ 0 := by omega
  have z2 : z + ((n : Int) + 1) * 2 ^ 12 ≤ 2 ^ 62 := by have := z1; push_cast at this; exact this
  refine ⟨_, rfl, g, _, 0, _, rfl, rfl, .inl (.inl a.at'), rfl, x, 0, rfl, rfl, _, rfl, ?_⟩
  by_cases c : (0 : Int) < x
  · rw [decide_eq_true c]
    refine iteT ?_
    refine ⟨_, rfl, g, _, 0, _, rfl, rfl, .inl (.inl a.at'), rfl, .inl ⟨x, rfl, _, rfl, x, b, rfl, rfl, bne, ?_⟩⟩
    refine ⟨_, rfl, g, _, 0, _, rfl, rfl, .inl (.inl a.at'), rfl, _, rfl, x, b, rfl, rfl, ⟨bne, by omega⟩, _, rfl, g, _, 0, 0, rfl, rfl, a.at', rfl, _, rfl, ?_⟩
    obtain ⟨r0, r1⟩ := fmod_in (a := x) hb0
    have d0 : 0 ≤ x.fdiv b := Int.fdiv_nonneg x0 (by omega)
    have d1 : x.fdiv b ≤ x := by
      rw [Int.fdiv_eq_ediv_of_nonneg x (by omega)]
      exact Int.ediv_le_self b x0
    exact hq _ _ _ _ _ r0 r1 ⟨d0, by omega, y0, y1, z0, by omega⟩ a.put
  · rw [decide_eq_false c]
    refine iteF ?_
    have hbits : Builtin.Int.intBits b ≤ 8000 := by
      unfold Builtin.Int.intBits
      split <;> omega
    have hd : (((Builtin.Int.intBits b : Nat) : Int)).fdiv 30 = (((Builtin.Int.intBits b) / 30 : Nat) : Int) := by
      rw [Int.fdiv_eq_ediv_of_nonneg _ (by omega)]
      omega
    refine ⟨_, rfl, b, rfl, _, _, rfl, rfl, ⟨by omega, by decide⟩, 1, _, rfl, rfl, ?_⟩
    rw [hd]
    refine ⟨_, rfl, by omega, by omega, ?_⟩
    generalize hm : (1 + ((Builtin.Int.intBits b / 30 : Nat) : Int)).toNat = m
    have hm2 : m ≤ 300 := by omega
    refine for_range (lo := 0) (n := m) (fun i σ H' => ∃ (d : Int) (v : Option V) (w : Int), σ = [some (.ref g), some (.int b), some (.int d), v] ∧ 0 ≤ d ∧ d.natAbs < 2 ^ (32 * i + 1) ∧ w = z + i ∧ Gat H0 β g x y w H')
      ⟨0, v3, z, rfl, Int.le_refl 0, by decide, by simp, a⟩ ?_ ?_
    · rintro i σ H' hi ⟨d, v, w, rfl, d0, d1, rfl, a'⟩
      have zi : z + (i : Int) + 1 < 2 ^ 63 := by
        have h1 : (0 : Int) ≤ ((n : Int)) * 2 ^ 12 := Int.mul_nonneg (by omega) (by decide)
        have h2 : ((n : Int) + 1) * 2 ^ 12 = (n : Int) * 2 ^ 12 + 2 ^ 12 := by rw [Int.add_mul]; simp
        have h3 : ((2 : Int) ^ 12) = 4096 := by decide
        have h4 : ((2 : Int) ^ 62) = 4611686018427387904 := by decide
        have h5 : ((2 : Int) ^ 63) = 9223372036854775808 := by decide
        omega
      refine ⟨_, rfl, g, _, 2, _, rfl, rfl, .inl (.inl a'.at'), rfl, _, 1, rfl, rfl, _, rfl, g, _, 2, 2, rfl, rfl, a'.at', rfl, ?_⟩
      have a2 : Gat H0 β g x y (z + (i : Int) + 1) (upd H' g (.lst [.int x, .int y, .int (z + (i : Int) + 1)])) := a'.put
      refine ⟨_, rfl, d, _, rfl, rfl, wide_mul (a := 32 * i + 1) (b := 32) d1 (by decide) (by omega) (by decide) (by omega), _, rfl, g, _, 1, _, rfl, rfl, .inl (.inl a2.at'), rfl, _, rfl, g, _, 2, _, rfl, rfl, .inl (.inl a2.at'), rfl, ?_⟩
      refine ⟨fun _ => none, [.val (.int y), .val (.int (z + (i : Int) + 1))], β, fun r β' => ∃ q : Int, 0 ≤ q ∧ q < 2147483647 ∧ r = .val (.int q) ∧ β' = β, noE, fun _ _ e => (by cases e), a2.bd, .cons (.int _) (.cons (.int _) .nil), ⟨⟨y0, y1, by omega, zi⟩, fun r h0 h1 => ⟨r, h0, h1, rfl, rfl⟩⟩, ?_, fun _ _ _ _ _ _ _ h => h.elim⟩
      rintro r β' ⟨q, q0, q1, rfl, rfl⟩ v' H2 G2 s2 b2 rr
      cases rr
      refine ⟨_, _, rfl, rfl, d * 2147483587 + q, _, z + (i : Int) + 1, rfl, by omega, ?_, by omega, ⟨b2, ?_, s2.kp.hard _ _ a2.at' not_soft_lst⟩⟩
      · have e1 : (d * 2147483587 + q).natAbs < 2 ^ (32 * i + 1) * 2 ^ 32 := by
          have e2 : 2 ^ (32 * i + 1) * 2 ^ 32 = 2 ^ (32 * i + 1) * 4294967296 := rfl
          rw [e2]
          omega
        rw [← Nat.pow_add] at e1
        have e3 : 32 * i + 1 + 32 = 32 * (i + 1) + 1 := by omega
        rw [e3] at e1
        exact e1
      · exact a2.k.trans s2.kp
    · rintro σ H' ⟨d, v, w, rfl, d0, d1, rfl, a'⟩
      refine ⟨_, rfl, .inl ⟨d, rfl, _, rfl, d, b, rfl, rfl, bne, ?_⟩⟩
      obtain ⟨r0, r1⟩ := fmod_in (a := d) hb0
      have h2 : ((n : Int) + 1) * 2 ^ 12 = (n : Int) * 2 ^ 12 + 2 ^ 12 := by rw [Int.add_mul]; simp
      have h3 : ((2 : Int) ^ 12) = 4096 := by decide
      exact hq _ _ _ _ _ r0 r1 ⟨x0, x1, y0, y1, by omega, by omega⟩ a'
section
variable {P : Program} {w : World} {K : PySem.W.Frag} {mg : Str → Option Value} {base : Heap}
theorem sans_close {H H' : Hp} {g : Addr} {n m : Nat} (h : H g = some (GenO g n)) (k : Keep (sans H g) H') : Keep H (upd H' g (GenO g m)) :=
  ⟨fun a o e ns => by
    have hne : a ≠ g := fun q => by
      rw [q, h] at e
      cases e
      exact ns trivial
    rw [upd_ne hne]
    exact k.hard a o (by rw [sans_ne hne]; exact e) ns, fun a n' e => by
    by_cases q : a = g
    · subst q
      exact ⟨m, upd_same⟩
    · rw [upd_ne q]
      exact k.gens a n' (by rw [sans_ne q]; exact e), fun a e => by
    by_cases q : a = g
    · subst q
      rw [upd_same]
      simp
    · rw [upd_ne q]
      exact k.there a (by rw [sans_ne q]; exact e)⟩
/-- two sources at one place are told by one number at most: the less -/
theorem fnRandom {x qual : Str} {st : Stmt} {f : Addr} {fd : FuncData} {N ps : List Str} {k : Nat} (F : Fun K x qual st f fd) (S : FnScope N ps (defScope st)) (hps : ps.length = 2) (hN : N.length = 4)
    (hb : ∀ (cdv : Value) (A : Around) (outer : List PySem.Env) (s : Shared) (H : Hp) (E : XK), Room k (A.deeper (envOfC qual (defScope st) s.heap.objs.size f cdv)) → A.guards = some [] →
      PSs (cxOf CX0 P w K mg base N qual (defScope st) f cdv A outer s H E).nox (defBody st) (tRnd K E0)) : FnG P w K mg base CX0 (k + 1) f fd ps (spD K tRandom) := by
  obtain ⟨oc, od, kV, doc, pm, an, cdv, ct, osl, rfl, lk, hcd⟩ := F.ex
  refine fnG_of lk hcd S (fun vs H Q E h => ?_) fun A outer s H vs Q E hr hg h => ?_
  · obtain ⟨G, rs, β, PQ, PE, x, b, r, hT, _⟩ := h
    unfold tRandom at hT
    split at hT
    case h_2 => exact hT.elim
    rw [← r.length, hps]
    rfl
  · obtain ⟨G, rs, β, PQ, PE, xg, bd, r, hT, hq, hx⟩ := h
    unfold tRandom at hT
    split at hT
    case h_2 => exact hT.elim
    rename_i b
    obtain ⟨hb0, hb1, hβ, hT⟩ := hT
    cases r with
    | cons r1 r =>
      cases r with
      | cons r2 r =>
        cases r
        obtain ⟨g, n0, rfl, hgen0⟩ := r1
        cases r2
        obtain ⟨n, hn, hgen⟩ := bd g n0 hgen0
        obtain ⟨m, rfl⟩ : ∃ m, n = m + 1 := ⟨n - 1, by omega⟩
        -- the reading: the source opened, the body, the source closed
        refine ⟨fun D σ H1 => H1 = H ∧ D.rt = Q ∧ σ = L2.start N [.ref g, .int b], ⟨fun pins s1 σ H1 D I ⟨e1, e2, e3⟩ => ?_⟩, rfl, rfl, rfl⟩
        subst e1 e3
        obtain ⟨x, y, z, gb, I1⟩ := gen_open I hgen
        have hσ : L2.start N [.ref g, .int b] = [some (.ref g), some (.int b), none, none] := by
          unfold L2.start
          rw [hN]
          rfl
        rw [hσ] at I1
        have run := (hb cdv A outer s H1 E hr hg).nox.run pins s1 _ _
          { nx := fun _ _ => False, rt := fun v H' => ∃ v' x' y' z', v = .int v' ∧ 0 ≤ v' ∧ v' < b ∧ GB x' y' z' m ∧ Gat H1 β g x' y' z' H' } I1
          (random_run (H0 := H1) ⟨bd.upd not_soft_lst, keep_sans sans_keep, upd_same⟩ gb hb0 hb1 fun r x' y' z' H' h0 h1 h2 h3 => ⟨r, x', y', z', rfl, h0, h1, h2, h3⟩)
        refine thn run fun fl s2 q => ?_
        cases fl with
        | next => obtain ⟨_, _, _, q⟩ := q; exact q.elim
        | brk => obtain ⟨_, _, _, q⟩ := q; exact q.elim
        | cont => obtain ⟨_, _, _, q⟩ := q; exact q.elim
        | ret u =>
          obtain ⟨v, σ2, H2, I2, rv, v', x', y', z', rfl, h0, h1, h2, h3⟩ := q
          have I3 := gen_close I2 h3.at' h2
          refine ⟨.int v', σ2, _, I3, rv, ?_⟩
          rw [e2]
          have kp := sans_close (m := m) hgen h3.k
          refine hq _ _ (hT v' h0 h1) _ _ G ⟨fun _ _ => rfl, kp, fun a o e => ⟨kp.hard a o (xg a o e).1 (xg a o e).2, (xg a o e).2⟩⟩ (fun a n' e => ?_) (Rep.int _)
          -- every source is good for one call less
          by_cases q : a = g
          · subst q
            exact ⟨m, by omega, upd_same⟩
          · rw [upd_ne q] at e ⊢
            obtain ⟨n2, h4, h5⟩ := h3.bd a n' e
            exact ⟨n2, by omega, h5⟩
/-- a new list of three numbers becomes a source -/
theorem FnG.toGen {CX : CXT} {k : Nat} {f : Addr} {fd : FuncData} {ps : List Str} {T : DSpec} (F : FnG P w K mg base CX k f fd ps (spD K T)) (n : Nat) :
    FnG P w K mg base CX k f fd ps (spD K fun rs β Q E => β ≤ n ∧ T rs β (fun r β' => ∃ x y z, r = .own [.int x, .int y, .int z] ∧ GB x y z n ∧ β' = β ∧ Q .gen β) E) := by
  refine ⟨fun vs H Q E h => ?_, fun A outer s H args us vs Q E hr hg e0 hb rv h => ?_⟩
  · obtain ⟨G, rs, β, PQ, PE, x, b, r, hT, _⟩ := h
    exact F.len vs H (fun _ _ => True) (fun _ _ _ => True) ⟨G, rs, β, _, PE, x, b, r, hT.2, fun _ _ _ _ _ _ _ _ _ => trivial, fun _ _ _ _ _ _ _ _ => trivial⟩
  · obtain ⟨G, rs, β, PQ, PE, x, b, r, ⟨hn, hT⟩, hq, hx⟩ := h
    refine codeAny_mono (F.go A outer s H args us vs (fun v H' => ∃ p x y z G', v = .ref p ∧ H p = none ∧ H' p = some (.lst [.int x, .int y, .int z]) ∧ GB x y z n ∧ Stp G H G' H' ∧ Bud H' β ∧ G' p = none ∧ PQ .gen β) E hr hg e0 hb rv ⟨G, rs, β, _, PE, x, b, r, hT, ?_, hx⟩) fun z s' hz => ?_
    · rintro r' β' ⟨x, y, z, rfl, gb, rfl, q⟩ v H' G' st bd rr
      obtain ⟨p, vs, rfl, hp, ra, gp, h0⟩ := rr.ex
      have e : vs = [.int x, .int y, .int z] := by
        have q := RepAll.ints (ns := [x, y, z]) ra
        exact q
      subst e
      exact ⟨p, x, y, z, G', rfl, h0, hp, gb, st, bd, gp, q⟩
    · cases z with
      | error z => exact hz
      | ok fl =>
        cases fl with
        | ret u =>
          obtain ⟨v, H', os, bare, un, ok, ru, p, x, y, z, G', rfl, h0, hp, gb, st, bd, gp, q⟩ := hz
          have okp := ok p _ hp
          have kp : Keep H (upd H' p (GenO p n)) := st.kp.mut h0
          refine ⟨.ref p, upd H' p (GenO p n), os, bare, ?_, ?_, ru, hq _ _ q _ _ G' ⟨st.old, kp, fun a o e => ?_⟩ (fun a m e => ?_) ⟨p, n, rfl, upd_same⟩⟩
          · -- what was not tracked stays so
            have np : ∀ b o, s.heap.get? b = some o → b ≠ p := fun b o e z => by
              subst z
              have q := un.free b o e h0 (by simp)
              rw [hp] at q
              cases q
            exact ⟨un.keep, un.slot, fun b o e n h => by rw [upd_ne (np b o e)]; exact un.free b o e n h, un.there, fun b xs e => by
              rw [upd_ne (ne_of_none e h0)]; exact un.tups b xs e, fun b o u e => by
              rw [upd_ne (ne_of_none e h0)]; exact un.frzs b o u e, fun b qs e => by
              rw [upd_ne (ne_of_none e h0)]; exact un.tbls b qs e⟩
          · have ob : ∃ u, s'.heap.get? p = some u := by
              obtain ⟨_, its, m, _, e⟩ := okp
              exact ⟨_, e⟩
            exact ok.write (by rw [hp]; trivial) (.inl rfl) (fun _ _ _ e => e) ob (gen_ok okp gb)
          · have hne : a ≠ p := fun z => by rw [z, gp] at e; cases e
            rw [upd_ne hne]
            exact st.ex a o e
          · by_cases z : a = p
            · subst z
              exact ⟨n, hn, upd_same⟩
            · rw [upd_ne z] at e ⊢
              exact bd a m e
        | next => exact hz
        | brk => exact hz
        | cont => exact hz
end
end DL
namespace DL
open PySem L2 PySem.Spec PyProof.Rows
/-! ### the law's end -/
/-- a list of ints is handed in, True comes out -/
def tLaw : DSpec := fun rs β Q _ => ∃ ns : List Int, ns.length ≤ 63 ∧ β = 2 ^ 40 ∧ rs = [.val (.lst (ns.map D.int))] ∧ ∀ β', Q (.val (.bl true)) β'
theorem law_run {P : Program} {w : World} {K : PySem.W.Frag} {mg mb : Str → Option Value} {k : Nat} {f a : Addr} {fd : FuncData} {x : Str} {s : Shared} {vs : List Value} {ns : List Int}
    (inK : K.In s.heap) (hm : s.heap.Ns mainGlobals mg) (hb : s.heap.Ns builtinsNs mb) (hbb : ∀ x : Str, x ≠ "__name__" → mb x = bootBuiltins x) (lim : s.heap.NoLimit) (hg : s.gens = #[])
    (ha : s.heap.get? a = some { cls := .type "list", data := .seq vs.toArray }) (hi : IntsAre vs ns) (hl : ns.length ≤ 63) (room : Room k callerA)
    (F : ∀ base : Heap, K.In base → base.Ns mainGlobals mg → FnG P w K mg base CX0 k f fd [x] (spD K tLaw)) (bind : ∀ (s : Shared) (u : Value), BindsTo s fd ⟨[u], []⟩ [(x, u)]) :
    codeAny (model P w) callerA (.call (.ref f) ⟨[.ref a], []⟩) (fun r s' => r = .ok (.ret (.bool true)) ∧ OldK s.heap s'.heap ∧ s'.os = s.os ∧ AllBare s'.gens) s := by
  have vi : Vals (ns.map V.int) vs := vals_ints hi
  have lv : vs.length = ns.length := hi.length
  have small : ns.length ≤ sizeLine := Nat.le_trans hl (by decide)
  -- the script is tracked unless it is an object of the module
  obtain ⟨H, hH, hS⟩ : ∃ H : Hp, (∀ b o, H b = some o → b = a ∧ K.lookup a = none ∧ o = .frz { cls := .type "list", data := .seq vs.toArray } (.lst (ns.map V.int))) ∧ SqL K H a (ns.map V.int) := by
    cases q : K.lookup a with
    | some o =>
      have e := inK a o q
      rw [ha] at e
      cases e
      exact ⟨fun _ => none, fun b o e => by (cases e), .inr ⟨_, vs.toArray, _, q, rfl, rfl, rfl, by rw [List.size_toArray, lv]; exact small, by simpa using vi⟩⟩
    | none =>
      refine ⟨fun b => if b = a then some (.frz { cls := .type "list", data := .seq vs.toArray } (.lst (ns.map V.int))) else none, fun b o e => ?_, .inl (.inr ⟨_, if_pos rfl⟩)⟩
      dsimp only at e
      by_cases z : b = a
      · rw [if_pos z] at e
        cases e
        exact ⟨z, rfl, rfl⟩
      · rw [if_neg z] at e
        cases e
  have ok : HOk P w H s.heap := fun b o e => by
    obtain ⟨rfl, _, rfl⟩ := hH b o e
    exact ⟨ha, by rw [List.length_map]; exact small, vs, _, vi, ha⟩
  have other : ∀ {b : Addr} {o : Obj}, s.heap.get? b = some o → (b = a → K.lookup a = none → False) → H b = none := fun {b o} e h => by
    cases q : H b with
    | none => rfl
    | some u =>
      obtain ⟨e1, e2, _⟩ := hH b u q
      exact (h e1 e2).elim
  have ns_ : ∀ {b : Addr} {m : Str → Option Value}, s.heap.Ns b m → (hidT s.heap H).Ns b m := fun {b m} ⟨o, es, ep, e, d, r⟩ => ⟨o, es, ep, hidT_get e (other e fun z _ => by
    rw [z, ha] at e
    cases e
    cases d), d, r⟩
  have kb : K.In (hidT s.heap H) := fun b o e => hidT_get (inK b o e) (other (inK b o e) fun z q => by rw [z, q] at e; cases e)
  have md : Mod K mg (hidT s.heap H) := ⟨kb, ns_ hm, ⟨mb, ns_ hb, hbb⟩, let ⟨mc, h1, h2⟩ := lim; ⟨mc, ns_ h1, h2⟩⟩
  have e0 : Env0 P w K mg (hidT s.heap H) callerA [] s H := ⟨rfl, md, fun b o e => of_hidT e, Nat.le_of_eq (hidT_size _ _), trivial, (fun b hb => by cases hb), ok, .of_eq hg⟩
  have hard : ∀ b o, H b = some o → ¬ Soft o := fun b o e => by
    obtain ⟨_, _, rfl⟩ := hH b o e
    exact fun z => z
  have want : spD K tLaw [.ref a] H (fun v _ => v = .bl true) fun _ _ _ => False := by
    refine ⟨H, [.val (.lst (ns.map D.int))], 2 ^ 40, fun r _ => r = .val (.bl true), noE, fun b o e => ⟨e, hard b o e⟩, fun b n e => ?_, .cons (.lst hS (RepAll.ofInts ns)) .nil, ⟨ns, hl, rfl, rfl, fun _ => rfl⟩, fun r β' h v H' G' st bd rr => ?_, fun _ _ _ _ _ _ _ h => h.elim⟩
    · exact absurd trivial (hard b _ e)
    · subst h
      cases rr
      rfl
  refine codeAny_mono ((F _ kb (ns_ hm)).go callerA [] s H ⟨[.ref a], []⟩ [.ref a] [.ref a] _ _ room rfl e0 (bind s (.ref a)) (.cons rfl .nil) want) fun r s' h => ?_
  cases r with
  | error e => exact False.elim h
  | ok fl =>
    cases fl with
    | ret u =>
      obtain ⟨v, H', os, bare, un, ok', ru, rfl⟩ := h
      obtain rfl : u = Value.bool true := ru
      refine ⟨rfl, OldK.of_keep fun b o e => ?_, os, bare⟩
      cases q : H b with
      | none => exact un.keep b o e q (by intro z; cases z) (by intro z; cases z)
      | some z =>
        obtain ⟨rfl, _, rfl⟩ := hH b z q
        rw [ha] at e
        cases e
        exact (ok' _ _ (un.frzs _ _ _ q)).1
    | _ => exact False.elim h
/-- the goal that k_head leaves, from the law's promise -/
theorem walkD {l : PySem.W.OpenLaw} {k : Nat} {q : Program} {loose : List Str} {XP : (Str → Option Value) → Heap → Prop} {YP : World → Heap → Prop} {d : DefRec} {K : Params → PySem.W.Frag} {x : Str}
    (hn : l.most = some 63) (hdf : d.params.defaults = []) (room : Room k callerA) (hY : ∀ (w : World) (h : Heap), YP w h → (K w.params).In h)
    (F : ∀ (w : World) (mg : Str → Option Value) (fa : Addr) (h : Heap), (K w.params).In h → h.Ns mainGlobals mg → mg d.name = some (.ref fa) →
      ∃ fd : FuncData, (∀ (s : Shared) (u : Value), BindsTo s fd ⟨[u], []⟩ [(x, u)]) ∧ ∀ base : Heap, (K w.params).In base → base.Ns mainGlobals mg → FnG l.prog w (K w.params) mg base CX0 k fa fd [x] (spD (K w.params) tLaw)) :
    PySem.W.WalkO q loose XP YP l.row.toRowW d [] (fun f vs => PySem.call f vs) := by
  refine Att.attach_call hn hdf fun w s0 s1 mg mb fa o pm cd doc a vs ns G Y ho hd hcd hmg hobj hints hlen hg => ?_
  obtain ⟨fd, hb, hF⟩ := F w mg fa _ (hY w _ Y) G.T.g hmg
  exact law_run (hY w _ Y) G.T.g G.T.b G.T.builtins G.T.nolimit hg hobj hints hlen room hF hb
end DL
namespace DL
open PySem L2 PySem.Spec PyProof.Rows
/-! ### what the printed derivations name -/
/-- a def of the module, as its callers see it -/
structure Cal (P : Program) (w : World) (K : PySem.W.Frag) (mg : Str → Option Value) (base : Heap) (CX : CXT) (k : Nat) (x : Str) (ps : List Str) (T : DSpec) : Prop where
  ex : ∃ f fd, FnG P w K mg base CX k f fd ps (spD K T) ∧ mg x = some (.ref f) ∧ PySem.W.keepIn K (.ref f) = true ∧ Binds K fd ps []
/-- its call by keywords -/
structure CalK (P : Program) (w : World) (K : PySem.W.Frag) (mg : Str → Option Value) (base : Heap) (CX : CXT) (k : Nat) (x : Str) (ps ks : List Str) (m : Nat) (ix : List Nat) (T : DSpec) : Prop where
  ex : ∃ f fd, FnG P w K mg base CX k f fd ps (spD K T) ∧ mg x = some (.ref f) ∧ PySem.W.keepIn K (.ref f) = true ∧ KB K fd ps ks m ix
/-- a constant of the module -/
structure Cst (K : PySem.W.Frag) (mg : Str → Option Value) (x : Str) (d : D) : Prop where
  ex : ∃ v u, mg x = some u ∧ RelV v u ∧ ∀ G, Rep K G v d
theorem hx0 {K : PySem.W.Frag} {B : Ba} : HX K B noE E0 := fun _ _ _ _ _ _ _ h => h.elim
theorem u65 {k : Nat} {A : Around} (r : Room k A) : A.units + 65 < cLine := by have := r.un; omega
theorem u64 {k : Nat} {A : Around} (r : Room k A) : A.units + 64 < cLine := r.units
section
variable {X : Cx} {K : PySem.W.Frag} {B : Ba} {e a : Expr} {es : List Expr} {ta tk : DA} {te : DE} {x : Str} {p pos : Pos} {k j m : Nat} {ps ks : List Str} {ix : List Nat} {T : DSpec} {kws : List Keyword} {σ : SL} {H : Hp} {Dn : Ends}
theorem de_c (c : Cal X.prog X.w X.K X.mg X.base CX0 k x ps T) (hr : Room j X.A) (hg : X.A.guards = some []) (ha : PA X (e :: es) (LAf X.K B ta)) (hj : k ≤ j := by decide) (hgl : Gl X x := by rfl) (hdb : (x == ("__debug__" : Str)) = false := by decide)
    (hs : starEach (e :: es) X.env = (false, eval e X.env) :: starEach es X.env := by rfl) (hpl : (backTo pos (starEach es X.env)).any (·.1) = false := by rfl) : PE X (.Call (.Name x p) (e :: es) [] pos) (LE X.K B (dCall T noE ta)) := by
  obtain ⟨f, fd, F, h1, h2, h3⟩ := c.ex
  exact de_call F (hr.mono hj) hg h1 h2 h3 pass0 hx0 ha hgl hdb hs hpl
theorem de_c0 (c : Cal X.prog X.w X.K X.mg X.base CX0 k x ps T) (hr : Room j X.A) (hg : X.A.guards = some []) (hj : k ≤ j := by decide) (hgl : Gl X x := by rfl) (hdb : (x == ("__debug__" : Str)) = false := by decide) :
    PE X (.Call (.Name x p) [] [] pos) (LE X.K B (dCall T noE dNil)) := by
  obtain ⟨f, fd, F, h1, h2, h3⟩ := c.ex
  exact de_call0 F (hr.mono hj) hg h1 h2 h3 pass0 hx0 hgl hdb
theorem de_ck {nk : Nat} (c : CalK X.prog X.w X.K X.mg X.base CX0 k x ps ks m ix T) (hr : Room j X.A) (hg : X.A.guards = some []) (ha : PA X (e :: es) (LAf X.K B ta)) (hkw : PK X kws (LAf X.K B tk)) (hj : k ≤ j := by decide) (hgl : Gl X x := by rfl) (hdb : (x == ("__debug__" : Str)) = false := by decide)
    (hnk : ks.length = nk := by rfl) (hall : (backToKw pos (keywordEach kws X.env)).all (·.1.isSome) = true := by rfl) (hks : (backToKw pos (keywordEach kws X.env)).filterMap (·.1) = ks := by rfl) (he : starEach (e :: es) X.env = (false, eval e X.env) :: starEach es X.env := by rfl)
    (hpl : ((backTo pos (starEach (e :: es) X.env)).any (·.1) || (backToKw pos (keywordEach kws X.env)).any (·.1.isNone)) = false := by rfl) : PE X (.Call (.Name x p) (e :: es) kws pos) (LE X.K B (dCallK T noE ix m nk ta tk)) := by
  subst hnk
  obtain ⟨f, fd, F, h1, h2, h3⟩ := c.ex
  exact de_callK F (hr.mono hj) hg h1 h2 h3 pass0 hx0 ha hkw hgl hall hks hdb he hpl
theorem de_ck0 {nk : Nat} (c : CalK X.prog X.w X.K X.mg X.base CX0 k x ps ks 0 ix T) (hr : Room j X.A) (hg : X.A.guards = some []) (hkw : PK X kws (LAf X.K B tk)) (hj : k ≤ j := by decide) (hgl : Gl X x := by rfl) (hdb : (x == ("__debug__" : Str)) = false := by decide)
    (hnk : ks.length = nk := by rfl) (hall : (backToKw pos (keywordEach kws X.env)).all (·.1.isSome) = true := by rfl) (hks : (backToKw pos (keywordEach kws X.env)).filterMap (·.1) = ks := by rfl)
    (hpl : ((backTo pos (starEach [] X.env)).any (·.1) || (backToKw pos (keywordEach kws X.env)).any (·.1.isNone)) = false := by rfl) : PE X (.Call (.Name x p) [] kws pos) (LE X.K B (dCallK T noE ix 0 nk dNil tk)) := by
  subst hnk
  obtain ⟨f, fd, F, h1, h2, h3⟩ := c.ex
  exact de_callK0 F (hr.mono hj) hg h1 h2 h3 pass0 hx0 hkw hgl hall hks hdb hpl
theorem de_cst {d : D} (c : Cst X.K X.mg x d) (hg : Gl X x := by rfl) (hd : (x == ("__debug__" : Str)) = false := by decide) : PE X (.Name x pos) (LE X.K B (dC d)) := by
  obtain ⟨v, u, h1, h2, h3⟩ := c.ex
  exact de_glob hg h1 h2 h3 hd
/-- name = e, the value frozen -/
def dSetV (i : Nat) (te : DE) : DS := fun d ρ => te ρ fun r β => dur r fun r => d.nx ⟨ρ.sl.set i (some r), β⟩
theorem ls_setv {i : Nat} (h : LS K B (dSetV i te) Dn σ H) : tAsg (LE K B te) (gName i) Dn σ H := by
  obtain ⟨G, ρ, d, s, h, l⟩ := h
  refine ⟨G, ρ, _, s, h, fun r β' hr v H' G' s' b' r1 f1 => ?_⟩
  cases r with
  | val x => exact l.nx _ _ _ _ (s'.sub s.ex) (s.store s' b' r1 f1 (fun _ z => by cases z) i) hr
  | gen => exact l.nx _ _ _ _ (s'.sub s.ex) (s.store s' b' r1 f1 (fun _ z => by cases z) i) hr
  | peek _ => exact hr.elim
  | own ds =>
    obtain ⟨p, vs, e, hp, rs, g, h0⟩ := r1.ex
    obtain ⟨p', e', hn⟩ := f1
    have e3 : p = p' := by
      rw [e] at e'
      exact V.ref.inj e'
    subst e3
    have s2 := s'.freeze hn hp not_soft_lst
    refine l.nx _ _ _ _ (s2.sub s.ex) (s.store (r := .val (.lst ds)) s2 b' ?_ trivial (fun _ z => by cases z) i) hr
    rw [e]
    exact Rep.lst (.inl (.inl upd_same)) (rs.mono (sub_upd g))
theorem ds_setv (i : Nat) {pos' : Pos} (hN : X.N.Nodup) (he : PE X e (LE X.K B te)) (hi : X.N[i]? = some x := by rfl) (hx : Loc X.env.scope x := by first | exact Or.inl rfl | exact Or.inr rfl) (hs : swapsWith e (some (.Name x pos')) pos.line X.env = pure false := by rfl)
    (hf : X.fn x = true ∨ X.env.scope.names.lookup x = some .local := by first | exact .inl rfl | exact .inr rfl | assumption) : PS X (.Assign [.Name x pos'] e pos) (LS X.K B (dSetV i te)) :=
  PSi (ps_set hN hi hx he hs hf) fun _ _ _ => ls_setv
theorem ds_setlcv (i : Nat) {tg iter : Expr} {g : DG} {py spos : Pos} {elt : Expr} {ifs : List Expr} {scope : Scope} {own : List (Str × Nat)} {ti : DI} {gg : TG} {tt : DT} {y : Str} (hc : X.calm = true) (hN : X.N.Nodup) (hi : PI X tg iter (LI X.K B ti)) (ok : BlkOk X.N X.env.scope scope own)
    (hgo : ∀ v (σ0 : SL) H (Q : SL → Hp → Prop), LG X.K B g v (wipe σ0 (own.map (·.2))) H Q → gg v (wipe σ0 (own.map (·.2))) H fun σ2 H2 => wipe σ2 (own.map (·.2)) = wipe σ0 (own.map (·.2)) ∧ Q σ2 H2)
    (hg : ∀ (s : Shared) (H : Hp) (C : Addr) (cl : List (Str × Addr)) (fp : List Addr), PG (X.blk s H scope (compEnvC scope cl C X.env) fp) tg gg) (ht : ∀ (s : Shared) (H : Hp) (C : Addr) (cl : List (Str × Addr)) (fp : List Addr), PTs (X.blk s H scope (compEnvC scope cl C X.env) fp) ifs (LT X.K B tt))
    (he : ∀ (s : Shared) (H : Hp) (C : Addr) (cl : List (Str × Addr)) (fp : List Addr), PE (X.blk s H scope (compEnvC scope cl C X.env) fp) elt (LE X.K B te))
    (hsw : swapsWith (.ListComp elt [⟨tg, iter, ifs, 0⟩] scope pos) (some (.Name y py)) spos.line X.env = pure true) (hy : X.N[i]? = some y := by rfl) (hyl : X.env.scope.names.lookup y = some .local := by rfl) (hs : ∀ x, foldedSetIterable iter X.env x = pure x := by intro _; rfl) :
    PS X (.Assign [.Name y py] (.ListComp elt [⟨tg, iter, ifs, 0⟩] scope pos) spos) (LS X.K B (dSetV i (dLc ti g tt te (own.map (·.2))))) :=
  PSi (ps_setLc hc hN hy hyl hsw hi ok hg ht he hs) fun Dn σ H h => le_lc (te := te) (tt := tt) hgo (ls_setv h)
/-- targets of a comprehension -/
theorem pg_n (i : Nat) {x : Str} {p : Pos} (hN : X.N.Nodup) (hi : X.N[i]? = some x := by rfl) (hx : Loc X.env.scope x := by first | exact Or.inl rfl | exact Or.inr rfl) (hf : X.fn x = true ∨ X.env.scope.names.lookup x = some .local := by first | exact .inl rfl | exact .inr rfl | assumption) : PG X (.Name x p) (gName i) := pg_name hN hi hx hf
end
end DL
namespace DL
open PySem L2 PySem.Spec PyProof.Rows
/-! ### a value frozen; targets of a comprehension that are tuples -/
section
variable {X : Cx} {K : PySem.W.Frag} {B : Ba} {e a : Expr} {te ta : DE} {pos : Pos} {σ : SL} {H : Hp} {Q : VK}
def dFz (te : DE) : DE := fun ρ Q => te ρ fun r β => dur r fun r' => Q r' β
theorem le_fz (h : LE K B (dFz te) σ H Q) : LE K B te σ H Q := by
  obtain ⟨G, ρ, P, s, h, w⟩ := h
  refine ⟨G, ρ, _, s, h, fun r β hr v H1 G1 s1 b1 r1 f1 => ?_⟩
  cases r with
  | val d => exact w _ β hr v H1 G1 s1 b1 r1 trivial
  | gen => exact w _ β hr v H1 G1 s1 b1 r1 trivial
  | peek ds => exact hr.elim
  | own ds =>
    obtain ⟨p, vs, e, hp, rs, g, h0⟩ := r1.ex
    obtain ⟨p', e', hn⟩ := f1
    have e3 : p = p' := by
      rw [e] at e'
      exact V.ref.inj e'
    subst e3
    refine w (.val (.lst ds)) β hr v H1 _ (s1.freeze hn hp not_soft_lst) b1 ?_ trivial
    rw [e]
    exact Rep.lst (.inl (.inl upd_same)) (rs.mono (sub_upd g))
theorem de_fz (h : PE X e (LE X.K B te)) : PE X e (LE X.K B (dFz te)) := PEi h fun _ _ _ => le_fz
theorem wipe_in {j : Nat} : ∀ {vs : List Nat} {c : SL}, j ∈ vs → (wipe c vs)[j]? = if j < c.length then some none else none
  | [], _, h => by cases h
  | y :: vs, c, h => by
    unfold wipe
    by_cases e : y = j
    · subst e
      rw [List.getElem?_set, if_pos rfl, wipe_length]
    · rw [List.getElem?_set_ne e]
      rcases List.mem_cons.mp h with z | z
      · exact absurd z.symm e
      · exact wipe_in z
theorem wipe_congr {vs : List Nat} {a b : SL} (hl : a.length = b.length) (h : ∀ j, j ∉ vs → a[j]? = b[j]?) : wipe a vs = wipe b vs := List.ext_getElem? fun j => by
  by_cases m : j ∈ vs
  · rw [wipe_in m, wipe_in m, hl]
  · rw [wipe_out m, wipe_out m]
    exact h j m
theorem wipe_set {vs : List Nat} {a : SL} {i : Nat} {x : Option V} (hi : i ∈ vs) : wipe (a.set i x) vs = wipe a vs := wipe_congr (by rw [List.length_set]) fun j hj => List.getElem?_set_ne fun z => hj (by rw [← z]; exact hi)
theorem wipe_wipe {vs : List Nat} {a : SL} : wipe (wipe a vs) vs = wipe a vs := wipe_congr (by rw [wipe_length]) fun j hj => wipe_out hj
theorem gNames_wipe {own : List Nat} : ∀ {is : List Nat}, (∀ i ∈ is, i ∈ own) → ∀ {xs : List V} {σ : SL} {H : Hp} {Q : SL → Hp → Prop}, gNames is xs σ H Q → gNames is xs σ H fun σ2 H2 => wipe σ2 own = wipe σ own ∧ Q σ2 H2
  | [], _, xs, σ, H, Q, h => ⟨h.1, rfl, h.2⟩
  | i :: is, hi, xs, σ, H, Q, h => by
    obtain ⟨v, r, rfl, h⟩ := h
    refine ⟨v, r, rfl, ?_⟩
    have q := gNames_wipe (own := own) (is := is) (fun j hj => hi j (List.mem_cons_of_mem _ hj)) (σ := σ.set i (some v)) h
    rw [wipe_set (hi i (List.mem_cons_self ..))] at q
    exact q
theorem go_tup {is own : List Nat} (hi : ∀ i ∈ is, i ∈ own) : ∀ v (σ0 : SL) H (Q : SL → Hp → Prop), LG K B (dgTup is) v (wipe σ0 own) H Q → gTup K is.length (gNames is) v (wipe σ0 own) H fun σ2 H2 => wipe σ2 own = wipe σ0 own ∧ Q σ2 H2 := fun v σ0 H Q h => by
  obtain ⟨p, xs, e, hs, hl, q⟩ := lg_tup h
  have q2 := gNames_wipe hi q
  rw [wipe_wipe] at q2
  exact ⟨p, xs, e, hs, hl, q2⟩
end
/-! ### powers -/
def CPowW (i j : Int) : Prop := 0 ≤ j ∧ ((i.natAbs.log2 : Int) + 1) * j ≤ 1000000
theorem op_powW {X : Cx} : OpR X (binaryOp .Pow) (rI CPowW fun i j => .int (i ^ j.toNat)) := opI fun i j _ _ _ _ _ hc q => by
  refine pow_int hc.1 (Int.le_trans (Int.mul_le_mul_of_nonneg_right ?_ hc.1) (Int.le_trans hc.2 (by decide))) q
  unfold Builtin.Int.intBits
  split <;> omega
abbrev fPow : F2 := fI CPowW fun i j => .int (i ^ j.toNat)
theorem c_pow {K : PySem.W.Frag} : OpC K (rI CPowW fun i j => .int (i ^ j.toNat)) fPow := opc_I fun _ _ _ => .int _
/-! ### a new list of one or more items, times a number -/
def reps (ds : List D) : Nat → List D
  | 0 => []
  | n + 1 => ds ++ reps ds n
/-! ### sorted(set(xs)) of a list of ints -/
section
variable {P : Program} {w : World} {A : Around} {E : Value → Shared → Prop} {s : Shared}
def blankSet (w : World) : Obj := { cls := .type "set", dict := none, data := .set #[] 0 (.fresh 0 0 (!w.params.followText "set-order")) }
def OneMore (s : Shared) (o : Obj) : Shared := { s with heap := s.heap.push o }
theorem set_made {xs : Array Value} {p : Addr} {ns : List Int} {Q : Value → Shared → Prop} (quiet : A.handled = none) (isl : s.heap.IsList p xs) (hints : IntsAre xs.toList ns) (few : ns.length + 1 < scanBound)
    (fin : ∀ (h2 : Heap) (t2 n2 : Nat), SetR w h2 s.heap.objs.size (fun j => decide (j ∈ ns)) n2 → n2 ≤ ns.length → (∀ b o, s.heap.get? b = some o → h2.get? b = some o) → Q (.ref s.heap.objs.size) { s with heap := h2, toks := t2 }) :
    wpAny (model P w) A (call (.type "set") [.ref p]) Q E s := by
  have size : xs.size = ns.length := by rw [← Array.length_toList]; exact IntsAre.length hints
  have mk := F.called_set
  obtain ⟨c0, t0, hmro⟩ := mk.mro
  have hmade := mk.made
  have hsub := mk.sub
  refine wpAny_call (codeAny_of_tree ?_)
  show wpAny _ _ (callAny (.type "set") _) _ _ _
  refine wpAny_pure ⟨Code.quiet_builtin _ (by decide +kernel), codeAny_builtin F.entry_type_call ?_⟩
  rw [Around.under_plain (weight_type_call_type "set" [.ref p] []) rfl]
  have n1 := mk.notType
  have n2 := mk.canCreate
  have n3 := F.typeCall_set_1 (.ref p)
  repeat (any_goals (first | assumption | wp_step))
  refine codeAny_mono (code_set_led1 (.ref p) (E := E) (Q₁ := fun x z => x = .ref s.heap.objs.size ∧ z = OneMore s (blankSet w)) ⟨rfl, rfl⟩) fun r z hz => ?_
  cases r with
  | error e => exact hz
  | ok fl =>
    cases fl with
    | ret x =>
      obtain ⟨rfl, rfl⟩ := hz
      have g0 : (s.heap.push (blankSet w)).get? s.heap.objs.size = some (blankSet w) := Heap.get?_push_size _ rfl
      have ty : Shared.TypeIs (OneMore s (blankSet w)) (.ref s.heap.objs.size) "set" := ⟨_, g0, rfl⟩
      have i1 := mk.init.lookup
      have i2 := mk.init.bind (.ref s.heap.objs.size)
      unfold OneMore blankSet at *
      repeat (any_goals (first | assumption | wp_step))
      refine codeAny_mono (codeAny_call_builtin (R := wants (fun x z => x = .none ∧ ∃ h2 t2 m2, z = { s with heap := h2, toks := t2 } ∧ SetR w h2 s.heap.objs.size (fun j => decide (j ∈ ns)) m2 ∧ m2 ≤ ns.length ∧ (∀ b o, s.heap.get? b = some o → h2.get? b = some o)) E)
        mk.init.plain F.entry_set_init (check_set_init_1 ty ?_)) fun r z hz => ?_
      · obtain ⟨u, hu, cu, nu, du⟩ := isl
        obtain ⟨u1, u2, u3, u4⟩ := u
        dsimp only at cu du
        subst cu du
        have gp := Heap.get?_push_of_some (blankSet w) hu
        unfold blankSet at gp
        have q1 := F.sub_list_set
        have q2 := F.sub_list_frozenset
        have q3 : (Value.type "list" == Value.type "dict") = false := by decide
        have lt : p < s.heap.objs.size := Heap.lt_size hu
        have isl1 : (s.heap.push (blankSet w)).IsList p xs := ⟨_, Heap.get?_push_of_some _ hu, rfl, nu, rfl⟩
        unfold Builtin.«set.__init__» noKeywords Builtin.Frozenset.updateFrom
        generalize hPI : pyIter = PI
        wp_walk
        subst hPI
        refine wpAny_pyIter_list isl1 (wpAny_bind (wpAny_runValue ?_))
        have q4 : A.in1.in1.in1.handled = none := by simp [quiet]
        have sz : (s.heap.push (blankSet w)).objs.size = s.heap.objs.size + 1 := Heap.size_push ..
        have q5 : p ≠ (s.heap.push (blankSet w)).objs.size := by rw [sz]; exact Nat.ne_of_lt (Nat.lt_succ_of_lt lt)
        have q6 : s.heap.objs.size ∉ [(s.heap.push (blankSet w)).objs.size, p] := fun m => by
          rcases List.mem_cons.mp m with z | z
          · rw [sz] at z
            exact absurd z (Nat.ne_of_lt (Nat.lt_succ_self _))
          · rw [List.mem_singleton] at z
            exact absurd z.symm (Nat.ne_of_lt lt)
        have q7 : ∀ (i : Nat) (v : Value), xs[i]? = some v → ∃ k t, ns[i]? = some k ∧ v = .int k t := fun i v hv => by
          have hi : i < ns.length := by rw [← size]; exact (Array.getElem?_eq_some_iff.mp hv).1
          obtain ⟨t, et⟩ := IntsAre.int_at hints i v (by rw [Array.getElem?_toList]; exact hv)
          exact ⟨ns[i], t, List.getElem?_eq_getElem hi, by rw [et, List.getD_eq_getElem?_getD, List.getElem?_eq_getElem hi] <;> rfl⟩
        refine set_update_ints ((Walks.list q4 _ p q5 xs).toS) s.heap.objs.size q6 ns size few q7 (xs.size - 0) 0 _ (by omega) (Nat.zero_le _) ⟨⟨_, Heap.get?_push_size _ rfl, rfl, rfl⟩, isl1.push _⟩ ⟨0, Nat.le_refl 0, setR_new_at (Heap.get?_push_of_some _ g0)⟩ ?_
        rintro ⟨h2, gs2, d2, t2, os2⟩ m2 mv hm2 hR2
        have e1 : gs2 = s.gens := mv.gens
        have e2 : d2 = s.drawn := mv.drawn
        have e3 : os2 = s.os := mv.os
        subst e1 e2 e3
        refine wpAny_pure (wpAny_pure ⟨rfl, h2, t2, m2, rfl, hR2, by rw [← size]; exact hm2, fun b o eb => ?_⟩)
        have lb : b < s.heap.objs.size := Heap.lt_size eb
        refine mv.heap b o (fun m => ?_) (Heap.get?_push_of_some _ (Heap.get?_push_of_some _ eb))
        rcases List.mem_cons.mp m with z | z
        · exact absurd z (Nat.ne_of_lt lb)
        · rw [List.mem_singleton] at z
          have z2 : b = (s.heap.push (blankSet w)).objs.size := z
          rw [sz] at z2
          exact absurd z2 (Nat.ne_of_lt (Nat.lt_succ_of_lt lb))
      · cases r with
        | error e => exact hz
        | ok fl =>
          cases fl with
          | ret x =>
            obtain ⟨rfl, h2, t2, m2, rfl, a1, a2, a3⟩ := hz
            repeat (any_goals (first | assumption | wp_step))
            exact fin _ _ _ a1 a2 a3
          | _ => exact hz.elim
    | _ => exact hz.elim
end
section
variable {X : Cx} {K : PySem.W.Frag} {B : Ba} {a : Expr} {te : DE} {ta : TE} {p p2 q pos : Pos}
def rSortSet (K : PySem.W.Frag) : V → Hp → VK → Prop := fun x H Q => ∃ (l : Addr) (ns : List Int), x = .ref l ∧ SqL K H l (ns.map V.int) ∧ ns.length < 64 ∧
  ∀ (ms : List Int) (p : Addr), ms.Pairwise (· < ·) → (∀ k : Int, k ∈ ms ↔ k ∈ ns) → H p = none → Q (.ref p) (upd H p (.lst (ms.map V.int)))
theorem pe_sortSet (calm : X.calm = true) (m1 : X.mg "sorted" = none) (m2 : X.mg "set" = none) (ha : PE X a ta) (g1 : Gl X "sorted" := by rfl) (g2 : Gl X "set" := by rfl)
    (na : starEach [a] X.env = (false, eval a X.env) :: starEach [] X.env := by rfl) : PE X (.Call (.Name "sorted" p) [.Call (.Name "set" p2) [a] [] q] [] pos) (tUn (rSortSet X.K) ta) := by
  refine ⟨fun pins s σ H Q I h => ?_⟩
  refine Call_ (ld_blt I g1 m1 PyProof.Rows.boot_sorted ?_)
  refine PyProof.Rows.callWith_builtin1 (PyProof.Rows.args_cons ?_ rfl) rfl rfl
  refine Call_ (ld_blt I g2 m2 PyProof.Rows.boot_set ?_)
  refine PyProof.Rows.callWith_type1 (PyProof.Rows.args_cons (thn (ha.run pins s σ H _ I h) fun v s1 z => ?_) na) na rfl
  obtain ⟨x, H1, I1, r1, q1⟩ := z
  refine PyProof.Rows.args_nil ?_
  obtain ⟨l, ns, rfl, hq, h64, q1⟩ := q1
  cases r1
  obtain ⟨its, r, pl, hz⟩ := I1.list hq
  refine set_made (I1.ok.hd calm) pl.isList (ns := ns) (by simpa using r.ints) (by unfold scanBound; omega) fun h2 t2 n2 R2 le2 kp => PyProof.Rows.args_nil ?_
  have I2 : Inv X pins σ H1 { s1 with heap := h2, toks := t2 } := I1.kept kp
  refine sorted_set R2 (I2.ok.hd calm) (by omega) fun s' p out c ms k g o hp hg hi hs hm hl => ?_
  have len : (ms.map V.int).length ≤ sizeLine := by rw [List.length_map, hl, sizeLine_eq]; omega
  have hn : H1 p = none := I2.hok.fresh hp
  have J : Inv X pins σ (upd H1 p (.lst (ms.map V.int))) { { s1 with heap := h2, toks := t2 } with heap := s'.heap, gens := s'.gens, drawn := s'.drawn, toks := s'.toks } :=
    Inv.call (s := { s1 with heap := h2, toks := t2 }) (ch := []) I2 (Un.laid k hp hn) (I2.hok.laid k hp ⟨len, out.toList, c, vals_of_ints hi, hg⟩) (by rw [g]; exact I2.bare) (fun _ z => nomatch z)
  have es : s' = { s1 with heap := s'.heap, gens := s'.gens, drawn := s'.drawn, toks := s'.toks } := by
    obtain ⟨x1, x2, x3, x4, x5⟩ := s'
    have o' : x5 = s1.os := o
    rw [o']
  rw [es]
  exact ⟨.ref p, _, J, rfl, q1 ms p hs (fun j => by rw [hm j, decide_eq_true_eq]) hn⟩
def fSortSet : F1 := fun a Q => ∃ ds ns, look a = some (.lst ds) ∧ D.intsOf ds = some ns ∧ ns.length < 64 ∧ ∀ ms : List Int, ms.Pairwise (· < ·) → (∀ k : Int, k ∈ ms ↔ k ∈ ns) → Q (.own (ms.map D.int))
theorem c_sortSet : UnC K (rSortSet K) fSortSet := by
  intro H0 G H a v Q' Q x k ra h q
  obtain ⟨ds, ns, h1, h2, h3, h⟩ := h
  obtain ⟨p, rfl, hs⟩ := rr_ints x ra h1 h2
  exact ⟨p, ns, rfl, hs, h3, fun ms l h4 h5 hl => fin_new x k q (RepAll.ofInts ms) (h ms h4 h5) hl⟩
theorem de_sortset (calm : X.calm = true) (m1 : X.mg "sorted" = none) (m2 : X.mg "set" = none) (ha : PE X a (LE X.K B te)) (g1 : Gl X "sorted" := by rfl) (g2 : Gl X "set" := by rfl)
    (na : starEach [a] X.env = (false, eval a X.env) :: starEach [] X.env := by rfl) : PE X (.Call (.Name "sorted" p) [.Call (.Name "set" p2) [a] [] q] [] pos) (LE X.K B (dUn fSortSet te)) :=
  PEi (pe_sortSet calm m1 m2 ha g1 g2 na) fun _ _ _ => le_un c_sortSet
end
end DL
namespace DL
open PySem L2 PySem.Spec PyProof.Rows
/-! ### helps of the laws' own proofs -/
theorem natAbs_lt_pow {i : Int} (h1 : -10000000000000000000000000000000000000000 ≤ i) (h2 : i ≤ 10000000000000000000000000000000000000000) : i.natAbs < 2 ^ 134 := by
  have e : (2 : Nat) ^ 134 = 21778071482940061661655974875633165533184 := by decide
  rw [e]
  omega
theorem cm {i j : Int} (h1 : -10000000000000000000000000000000000000000 ≤ i) (h2 : i ≤ 10000000000000000000000000000000000000000) (h3 : -10000000000000000000000000000000000000000 ≤ j) (h4 : j ≤ 10000000000000000000000000000000000000000) : CMulW i j :=
  wide_mul (natAbs_lt_pow h1 h2) (natAbs_lt_pow h3 h4) (by decide) (by decide) (by decide)
theorem cdv {i j : Int} (h1 : 0 < j) (h2 : j ≤ 10000000000000000000000000000000000000000) : CDv i j :=
  ⟨by omega, Nat.lt_of_lt_of_le (PySem.Flt.log2_lt_of (by decide) (natAbs_lt_pow (by omega) h2)) (by decide)⟩
/-- a list of ints -/
abbrev iL (ns : List Int) : D := .lst (ns.map D.int)
/-- a pair of ints -/
abbrev iP (a b : Int) : D := .tup [.int a, .int b]
theorem atI_nat {α : Type} {xs : List α} {i : Nat} (h : i < xs.length) : atI xs (i : Int) = some xs[i] := by
  unfold atI ixN
  rw [if_pos (by omega), if_pos (by omega)]
  simp [h]
theorem atI_int {α : Type} {xs : List α} {i : Int} {j : Nat} (e : i = (j : Int)) (h : j < xs.length) : atI xs i = some xs[j] := by rw [e]; exact atI_nat h
theorem atI_last {α : Type} {xs : List α} (x : α) : atI (xs ++ [x]) (-1) = some x := by
  unfold atI ixN
  rw [if_neg (by omega), if_pos (by simp; omega)]
  have e : (-1 + (((xs ++ [x]).length : Nat) : Int)).toNat = xs.length := by simp; omega
  rw [e]
  simp
theorem eqvAll_def : ∀ ds es : List D, PyData.eqvAll (D.pys ds) (D.pys es) = (ds.length == es.length && (ds.zip es).all fun p => D.eqv p.1 p.2)
  | [], [] => by simp [D.pys, PyData.eqvAll]
  | [], _ :: _ => by simp [D.pys, PyData.eqvAll]
  | _ :: _, [] => by simp [D.pys, PyData.eqvAll]
  | d :: ds, e :: es => by
    rw [D.pys, D.pys, PyData.eqvAll, eqvAll_def ds es]
    simp only [List.length_cons, List.zip_cons_cons, List.all_cons, D.eqv]
    cases PyData.eqv d.py e.py <;> simp
/-- == of lists of data -/
def D.eqs : List D → List D → Bool
  | [], [] => true
  | d :: ds, e :: es => D.eqv d e && D.eqs ds es
  | _, _ => false
theorem eqs_eq : ∀ ds es : List D, PyData.eqvAll (D.pys ds) (D.pys es) = D.eqs ds es
  | [], [] => by simp [D.pys, PyData.eqvAll, D.eqs]
  | [], _ :: _ => by simp [D.pys, PyData.eqvAll, D.eqs]
  | _ :: _, [] => by simp [D.pys, PyData.eqvAll, D.eqs]
  | d :: ds, e :: es => by
    rw [D.pys, D.pys, PyData.eqvAll, eqs_eq ds es, D.eqs]
    rfl
theorem eqv_int (i j : Int) : D.eqv (.int i) (.int j) = decide (i = j) := by
  unfold D.eqv
  rw [D.py, D.py, PyData.eqv] <;> first | rfl | (by_cases h : i = j <;> simp [h])
theorem eqv_lst (ds es : List D) : D.eqv (.lst ds) (.lst es) = D.eqs ds es := by
  unfold D.eqv
  rw [D.py, D.py, PyData.eqv, eqs_eq]
theorem eqv_tup (ds es : List D) : D.eqv (.tup ds) (.tup es) = D.eqs ds es := by
  unfold D.eqv
  rw [D.py, D.py, PyData.eqv, eqs_eq]
theorem eqs_ints : ∀ ns ms : List Int, D.eqs (ns.map D.int) (ms.map D.int) = decide (ns = ms)
  | [], [] => rfl
  | [], _ :: _ => rfl
  | _ :: _, [] => rfl
  | n :: ns, m :: ms => by
    rw [List.map_cons, List.map_cons, D.eqs, eqv_int, eqs_ints ns ms]
    by_cases h : n = m <;> simp [h]
theorem eqs_len {ds es : List D} (h : ds.length ≠ es.length) : D.eqs ds es = false := by
  induction ds generalizing es with
  | nil => cases es with
    | nil => exact absurd rfl h
    | cons _ _ => rfl
  | cons d ds ih => cases es with
    | nil => rfl
    | cons e es =>
      rw [D.eqs, ih (by simpa using h), Bool.and_false]
/-- the empty list apart from the others -/
theorem eqs_nil (ds : List D) : D.eqs ds [] = decide (ds = []) := by cases ds <;> simp [D.eqs]
theorem eqv_pair (a b c d : Int) : D.eqv (iP a b) (iP c d) = (decide (a = c) && decide (b = d)) := by
  rw [eqv_tup]
  simp only [D.eqs, eqv_int, Bool.and_true]
mutual
theorem eqv_self : ∀ {n : Nat} {d : D}, D.shp n d → D.eqv d d = true
  | _, .non, _ => by unfold D.eqv; rw [D.py, PyData.eqv]
  | _, .bl b, _ => by unfold D.eqv; rw [D.py, PyData.eqv] <;> simp
  | _, .int i, _ => by rw [eqv_int]; simp
  | _, .str x, _ => by unfold D.eqv; rw [D.py, PyData.eqv] <;> simp
  | n, .lst ds, h => by rw [D.shp] at h; rw [eqv_lst]; exact eqs_self (n := n - 1) h.2
  | n, .tup ds, h => by rw [D.shp] at h; rw [eqv_tup]; exact eqs_self (n := n - 1) h.2
  | _, .ins _ _, h => by rw [D.shp] at h; exact h.elim
  | _, .raw _, h => by rw [D.shp] at h; exact h.elim
theorem eqs_self : ∀ {n : Nat} {ds : List D}, D.shps n ds → D.eqs ds ds = true
  | _, [], _ => rfl
  | n, d :: ds, h => by rw [D.shps] at h; rw [D.eqs, eqv_self h.1, eqs_self h.2]; rfl
end
theorem shps_ints (n : Nat) (ns : List Int) : D.shps n (ns.map D.int) := shps_iff.mpr fun d h => by
  obtain ⟨i, _, rfl⟩ := List.mem_map.mp h
  rw [D.shp]
  trivial
theorem shp_int (n : Nat) (i : Int) : D.shp n (.int i) := by rw [D.shp]; trivial
theorem shp_bl (n : Nat) (i : Bool) : D.shp n (.bl i) := by rw [D.shp]; trivial
theorem shp_non (n : Nat) : D.shp n .non := by rw [D.shp]; trivial
theorem shp_pair (n : Nat) (a b : Int) : D.shp (n + 1) (iP a b) := shp_tup.mpr (shps_ints n [a, b])
theorem shp_iL (n : Nat) (ns : List Int) : D.shp (n + 1) (iL ns) := shp_lst.mpr (shps_ints n ns)
/-- a def that is never called -/
theorem FnG.never {P : Program} {w : World} {K : PySem.W.Frag} {mg : Str → Option Value} {base : Heap} {k : Nat} {f : Addr} {fd : FuncData} {ps : List Str} : FnG P w K mg base CX0 k f fd ps (spD K fun _ _ _ _ => False) :=
  ⟨fun vs H Q E h => by obtain ⟨_, _, _, _, _, _, _, _, h, _⟩ := h; exact h.elim, fun A outer s H args us vs Q E hr hg he hb hv h => by obtain ⟨_, _, _, _, _, _, _, _, h, _⟩ := h; exact h.elim⟩
/-- a promise weakened -/
theorem FnG.less {P : Program} {w : World} {K : PySem.W.Frag} {mg : Str → Option Value} {base : Heap} {k : Nat} {f : Addr} {fd : FuncData} {ps : List Str} {T T' : DSpec} (F : FnG P w K mg base CX0 k f fd ps (spD K T)) (h : ∀ rs β Q E, T' rs β Q E → T rs β Q E) : FnG P w K mg base CX0 k f fd ps (spD K T') :=
  F.imp fun vs H Q E ⟨G, rs, β, PQ, PE, a, b, c, d, e⟩ => ⟨G, rs, β, PQ, PE, a, b, c, h _ _ _ _ d, e⟩
theorem Fz.nil : Fz [] := fun r h => by cases h
theorem Fz.val {d : D} {rs : List R} (h : Fz rs) : Fz (.val d :: rs) := fun r hr => by
  rcases List.mem_cons.mp hr with rfl | hr
  · exact .inl ⟨d, rfl⟩
  · exact h r hr
theorem Fz.gen {rs : List R} (h : Fz rs) : Fz (.gen :: rs) := fun r hr => by
  rcases List.mem_cons.mp hr with rfl | hr
  · exact .inr rfl
  · exact h r hr
theorem map_item {α : Type} {xs : List α} {g : α → D} {i : Nat} {x : D} (h : (xs.map g)[i]? = some x) : ∃ hi : i < xs.length, x = g xs[i] := by
  rw [List.getElem?_map] at h
  cases e : xs[i]? with
  | none => rw [e] at h; cases h
  | some y =>
    rw [e] at h
    obtain ⟨hi, e2⟩ := List.getElem?_eq_some_iff.mp e
    exact ⟨hi, by rw [e2]; exact (Option.some.inj h).symm⟩
theorem map_item_rev {α : Type} {xs : List α} {g : α → D} {i : Nat} {x : D} (h : (xs.map g).reverse[i]? = some x) : ∃ hi : xs.length - (i + 1) < xs.length, x = g xs[xs.length - (i + 1)] := by
  rw [← List.map_reverse] at h
  obtain ⟨hi, e⟩ := map_item h
  rw [List.length_reverse] at hi
  refine ⟨by omega, ?_⟩
  rw [e, List.getElem_reverse]
  congr 2
  omega
theorem atI_map {α : Type} {xs : List α} {g : α → D} {i : Int} {j : Nat} {x : α} (e : i = (j : Int)) (h : xs[j]? = some x) : atI (xs.map g) i = some (g x) := by
  obtain ⟨hj, e2⟩ := List.getElem?_eq_some_iff.mp h
  rw [atI_int e (by rw [List.length_map]; exact hj), List.getElem_map, e2]
theorem ifT {c : Bool} {P Q : Prop} (e : c = true) (h : P) : if c = true then P else Q := by rw [if_pos e]; exact h
theorem ifF {c : Bool} {P Q : Prop} (e : c = false) (h : Q) : if c = true then P else Q := by rw [e, if_neg Bool.false_ne_true]; exact h
theorem ifB {c : Bool} {P Q : Prop} (h1 : c = true → P) (h2 : c = false → Q) : if c = true then P else Q := by
  cases c with
  | true => exact ifT rfl (h1 rfl)
  | false => exact ifF rfl (h2 rfl)
/-- a test of a proposition -/
theorem ifD {p : Prop} [Decidable p] {P Q : Prop} (h1 : p → P) (h2 : ¬ p → Q) : if decide p = true then P else Q := ifB (fun e => h1 (of_decide_eq_true e)) fun e => h2 (of_decide_eq_false e)
theorem ifDn {p : Prop} [Decidable p] {P Q : Prop} (h1 : p → P) (h2 : ¬ p → Q) : if (false != decide p) = true then P else Q := by
  rw [Bool.false_bne]
  exact ifD h1 h2
theorem ifDx {p : Prop} [Decidable p] {P Q : Prop} (h1 : ¬ p → P) (h2 : p → Q) : if (true != decide p) = true then P else Q := by
  rw [Bool.true_bne]
  by_cases h : p
  · exact ifF (by rw [decide_eq_true h]; rfl) (h2 h)
  · exact ifT (by rw [decide_eq_false h]; rfl) (h1 h)
/-- a comprehension without a test, item by item; the count of draws stands still -/
def Wm (f : Nat → D) (β : Nat) : Nat → List D → Nat → Prop := fun i acc β' => acc = (List.range i).map f ∧ β' = β
/-- a comprehension that picks out -/
def Wf (p : Nat → Bool) (it : Nat → D) (β : Nat) : Nat → List D → Nat → Prop := fun i acc β' => acc = ((List.range i).filter p).map it ∧ β' = β
theorem lcmT {f : Nat → D} {y x : D} {v β β' i : Nat} {sl : List (Option R)} {te : DE} {acc : List D} (hx : x = y) (hw : Wm f β i acc β')
    (he : ∀ P : R → Nat → Prop, P (.val (f i)) β → te ⟨(sl.set v none).set v (some (.val y)), β⟩ P) :
    dgName v x ⟨[v].foldr (fun v sl => sl.set v none) sl, β'⟩ fun ρ2 => dYes ρ2 fun b β2 => if b = true then te ⟨ρ2.sl, β2⟩ fun r β3 => durV r fun d => Wm f β (i + 1) (acc ++ [d]) β3 else Wm f β (i + 1) acc β2 := by
  obtain ⟨rfl, rfl⟩ := hw
  subst hx
  unfold dgName dYes
  refine ifT rfl (he _ ?_)
  refine ⟨?_, rfl⟩
  rw [List.range_succ, List.map_append]
  rfl
theorem lcfT {p : Nat → Bool} {it : Nat → D} {x : D} {v β β' i : Nat} {sl : List (Option R)} {tt : DT} {acc : List D} (hv : v < sl.length) (hx : x = it i) (hw : Wf p it β i acc β')
    (ht : ∀ P : Bool → Nat → Prop, P (p i) β → tt ⟨(sl.set v none).set v (some (.val (it i))), β⟩ P) :
    dgName v x ⟨[v].foldr (fun v sl => sl.set v none) sl, β'⟩ fun ρ2 => tt ρ2 fun b β2 => if b = true then dVar v ⟨ρ2.sl, β2⟩ fun r β3 => durV r fun d => Wf p it β (i + 1) (acc ++ [d]) β3 else Wf p it β (i + 1) acc β2 := by
  obtain ⟨rfl, rfl⟩ := hw
  subst hx
  unfold dgName
  refine ht _ ?_
  refine ifB (fun e => ?_) fun e => ?_
  · refine ⟨.val (it i), ?_, ?_, rfl⟩
    · dsimp only
      rw [List.foldr_cons, List.foldr_nil, List.getElem?_set_self (by rw [List.length_set]; exact hv)]
    · rw [List.range_succ, List.filter_append, List.map_append, List.filter_cons_of_pos e]
      rfl
  · refine ⟨?_, rfl⟩
    rw [List.range_succ, List.filter_append, List.filter_cons_of_neg (by rw [e]; exact Bool.false_ne_true)]
    simp
theorem filter_none {n : Nat} {p : Nat → Bool} : (List.range n).filter p = [] ↔ ∀ i, i < n → p i = false := by
  rw [List.filter_eq_nil_iff]
  exact ⟨fun h i hi => Bool.eq_false_iff.mpr (h i (List.mem_range.mpr hi)), fun h i hi => by rw [h i (List.mem_range.mp hi)]; exact Bool.false_ne_true⟩
/-- what is picked out is nothing: the test -/
theorem fnil {neg : Bool} {n : Nat} {p : Nat → Bool} {it : Nat → D} {Q : R → Prop} (hs : ∀ i, i < n → D.shp 63 (it i)) (h1 : (∀ i, i < n → p i = false) → Q (.val (.bl !neg))) (h2 : ¬ (∀ i, i < n → p i = false) → Q (.val (.bl neg))) : fEq neg (.own (((List.range n).filter p).map it)) (.own []) Q := by
  have sh : D.shp 64 (.lst (((List.range n).filter p).map it)) := shp_lst.mpr (shps_iff.mpr fun d hd => by
    obtain ⟨i, hi, rfl⟩ := List.mem_map.mp hd
    exact hs i (List.mem_range.mp (List.mem_filter.mp hi).1))
  have e : D.eqv (.lst (((List.range n).filter p).map it)) (.lst []) = decide (∀ i, i < n → p i = false) := by
    rw [eqv_lst, eqs_nil]
    congr 1
    rw [List.map_eq_nil_iff, filter_none]
  show D.shp 64 _ ∧ D.shp 64 _ ∧ Q (.val (.bl (neg != D.eqv (.lst (((List.range n).filter p).map it)) (.lst []))))
  refine ⟨sh, shp_iL 63 [], ?_⟩
  rw [e]
  by_cases z : ∀ i, i < n → p i = false
  · rw [decide_eq_true z]
    have := h1 z
    cases neg <;> exact this
  · rw [decide_eq_false z]
    have := h2 z
    cases neg <;> exact this
theorem rng_item {n : Nat} {lo : Int} : ∀ i x, i < n → (fun m : Nat => some (D.int (lo + (m : Int)))) i = some x → x = (fun m : Nat => D.int (lo + (m : Int))) i := fun i x _ h => (Option.some.inj h).symm
theorem rng0_item {n : Nat} : ∀ i x, i < n → (fun m : Nat => some (D.int (m : Int))) i = some x → x = (fun m : Nat => D.int (m : Int)) i := fun i x _ h => (Option.some.inj h).symm
theorem lst_item {α : Type} {xs : List α} {g : α → D} {n : Nat} (z : α) : ∀ i x, i < n → (fun i => (xs.map g)[i]?) i = some x → x = (fun i => g (xs.getD i z)) i := fun i x _ h => by
  obtain ⟨hi, e⟩ := map_item h
  rw [e]
  dsimp only
  rw [List.getD_eq_getElem?_getD, List.getElem?_eq_getElem hi]
  rfl
theorem eqP {α : Type} {P : α → Nat → Prop} {β : Nat} {a b : α} (e : a = b) (h : P b β) : P a β := by rw [e]; exact h
theorem eqPI {P : R → Nat → Prop} {β : Nat} {a b : Int} (e : a = b) (h : P (.val (.int b)) β) : P (.val (.int a)) β := by rw [e]; exact h
theorem eqPB {P : R → Nat → Prop} {β : Nat} {a b : Bool} (e : a = b) (h : P (.val (.bl b)) β) : P (.val (.bl a)) β := by rw [e]; exact h
theorem range_getD {α : Type} {g : Int → α} (ns : List Int) : (List.range ns.length).map (fun i => g (ns.getD i 0)) = ns.map g := by
  refine List.ext_getElem (by simp) fun i h1 h2 => ?_
  rw [List.length_map] at h2
  rw [List.getElem_map, List.getElem_map, List.getElem_range, List.getD_eq_getElem?_getD, List.getElem?_eq_getElem h2]
  rfl
/-- a list of one's own lent out for a test -/
def dtBor (i : Nat) (t : DT) : DT := fun ρ Q => t ⟨frz i ρ.sl, ρ.β⟩ Q
theorem lt_bor {K : PySem.W.Frag} {B : Ba} {i : Nat} {t : DT} {σ : SL} {H : Hp} {Q : Bool → Hp → Prop} (h : LT K B (dtBor i t) σ H Q) : LT K B t σ H Q := by
  obtain ⟨G, ρ, P, s, h, w⟩ := h
  obtain ⟨G', sb, s'⟩ := s.frz i
  exact ⟨G', _, _, s', h, fun b β' hb H1 G1 s1 b1 => w b β' hb H1 G ⟨fun _ _ => rfl, s1.kp, fun a o e => ⟨s1.kp.hard a o (s.ex a o e).1 (s.ex a o e).2, (s.ex a o e).2⟩⟩ b1⟩
theorem dt_bor (i : Nat) {X : Cx} {B : Ba} {e : Expr} {t : DT} (h : PT X e (LT X.K B t)) : PT X e (LT X.K B (dtBor i t)) := PTi h fun _ _ _ => lt_bor
/-- x[e] = e' in words of the heap -/
theorem ps_sx {X : Cx} {e ie : Expr} {te ti : TE} {x : Str} {px p1 pos : Pos} (i : Nat) (he : PE X e te) (hi : PE X ie ti) (hN : X.N[i]? = some x := by rfl) (hv : Vis X.env.scope x := by first | exact Or.inl rfl | exact Or.inr (Or.inl rfl) | exact Or.inr (Or.inr rfl)) (hd : (x == ("__debug__" : Str)) = false := by decide) (hcd : (x == ("__classdict__" : Str)) = false := by decide)
    (ha : ∀ v, assign (.Subscript (.Name x px) ie p1) X.env v = (do
      let ov ← holding [v] (eval (.Name x px) X.env)
      let iv ← holding [v, ov] (eval ie X.env)
      standAt p1
      holding [v, ov, iv] (setItem ov iv v)
      release [v, ov, iv] []) := by intro _; rfl)
    (hs : swapsWithSole [.Subscript (.Name x px) ie p1] e pos.line X.env = pure false := by rfl) (hw : swappedStores [.Subscript (.Name x px) ie p1] e X.env = pure none := by rfl)
    (h1 : (assignEach [.Subscript (.Name x px) ie p1] X.env).map (·.2) = [assign (.Subscript (.Name x px) ie p1) X.env] := by rfl) :
    PS X (.Assign [.Subscript (.Name x px) ie p1] e pos) (tAsg te (gSub (tVar i) ti rSetL)) := ps_asg he (pg_sub (pe_var hN hv hd hcd) hi set_list ha) hs hw h1
/-! ### the defs of the module, the constants -/
/-- a def of the module -/
structure Dfn (K : PySem.W.Frag) (x : Str) (st : Stmt) : Prop where
  ex : ∃ (f : Addr) (od an : Option Addr) (sl : Array (Option Value)) (oc kV dc pm cd ct : Value), PySem.W.nsIn K mainGlobals x = some (some (.ref f)) ∧
    K.lookup f = some ⟨oc, od, .func (PySem.W.fnOf x x (defArgs st) (defBody st) (defScope st) .none kV dc pm an cd ct), sl⟩ ∧ PySem.W.codeIn K cd x = true ∧ PySem.W.keepIn K (.ref f) = true
theorem Dfn.mk' {K : PySem.W.Frag} {x : Str} {st : Stmt} {f : Addr} {od an : Option Addr} {sl : Array (Option Value)} {oc kV dc pm cd ct : Value} (a : PySem.W.nsIn K mainGlobals x = some (some (.ref f)))
    (l : K.lookup f = some ⟨oc, od, .func (PySem.W.fnOf x x (defArgs st) (defBody st) (defScope st) .none kV dc pm an cd ct), sl⟩) (c : PySem.W.codeIn K cd x = true) (k : PySem.W.keepIn K (.ref f) = true) : Dfn K x st := ⟨⟨f, od, an, sl, oc, kV, dc, pm, cd, ct, a, l, c, k⟩⟩
section
variable {P : Program} {w : World} {K : PySem.W.Frag} {mg : Str → Option Value} {base h : Heap}
theorem Dfn.cal {x : Str} {st : Stmt} {k : Nat} {T : DSpec} {ps : List Str} (d : Dfn K x st) (X : K.In h) (G : h.Ns mainGlobals mg)
    (hb : ∀ (kV doc pm : Value) (an : Option Addr) (cdv ct : Value) (us : List Value), us.length = ps.length → bindArgs (PySem.W.fnOf x x (defArgs st) (defBody st) (defScope st) .none kV doc pm an cdv ct) ⟨us, []⟩ = pure (ps.zip us))
    (F : ∀ f fd, Fun K x x st f fd → FnG P w K mg base CX0 k f fd ps (spD K T)) : Cal P w K mg base CX0 k x ps T := by
  obtain ⟨f, od, an, sl, oc, kV, dc, pm, cd, ct, a, l, c, kp⟩ := d.ex
  have F0 := fun_mk (st := st) l c kp
  exact ⟨⟨f, _, F _ _ F0, PySem.W.mg_of X G a, kp, F0.binds hb⟩⟩
theorem Dfn.calk {x : Str} {st : Stmt} {k m : Nat} {T : DSpec} {ps ks : List Str} {ix : List Nat} (d : Dfn K x st) (X : K.In h) (G : h.Ns mainGlobals mg)
    (hb : ∀ (kV doc pm : Value) (an : Option Addr) (cdv ct : Value) (us ws : List Value), us.length = m → ws.length = ks.length → bindArgs (PySem.W.fnOf x x (defArgs st) (defBody st) (defScope st) .none kV doc pm an cdv ct) ⟨us, ks.zip ws⟩ = pure (ps.zip (pick ix (us ++ ws))))
    (F : ∀ f fd, Fun K x x st f fd → FnG P w K mg base CX0 k f fd ps (spD K T)) : CalK P w K mg base CX0 k x ps ks m ix T := by
  obtain ⟨f, od, an, sl, oc, kV, dc, pm, cd, ct, a, l, c, kp⟩ := d.ex
  have F0 := fun_mk (st := st) l c kp
  exact ⟨⟨f, _, F _ _ F0, PySem.W.mg_of X G a, kp, fun s us ws _ h1 h2 => .of_eq (hb _ _ _ _ _ _ us ws h1 h2)⟩⟩
theorem cst_int {x : Str} {i : Int} {t : Tok} (X : K.In h) (G : h.Ns mainGlobals mg) (a : PySem.W.nsIn K mainGlobals x = some (some (.int i t))) : Cst K mg x (.int i) := ⟨⟨.int i, _, PySem.W.mg_of X G a, ⟨t, rfl⟩, fun _ => .int i⟩⟩
theorem cst_str {x z : Str} {t : Tok} (X : K.In h) (G : h.Ns mainGlobals mg) (a : PySem.W.nsIn K mainGlobals x = some (some (.str z t))) : Cst K mg x (.str z) := ⟨⟨.str z, _, PySem.W.mg_of X G a, ⟨t, rfl⟩, fun _ => .str z⟩⟩
/-- an object of the module told as data -/
structure KRep (K : PySem.W.Frag) (u : Value) (d : D) : Prop where
  ex : ∃ v, RelV v u ∧ ∀ G, Rep K G v d
inductive KReps (K : PySem.W.Frag) : List Value → List D → Prop
  | nil : KReps K [] []
  | cons {u : Value} {us : List Value} {d : D} {ds : List D} : KRep K u d → KReps K us ds → KReps K (u :: us) (d :: ds)
theorem krep_int {i : Int} {t : Tok} : KRep K (.int i t) (.int i) := ⟨⟨.int i, ⟨t, rfl⟩, fun _ => .int i⟩⟩
theorem krep_str {i : Str} {t : Tok} : KRep K (.str i t) (.str i) := ⟨⟨.str i, ⟨t, rfl⟩, fun _ => .str i⟩⟩
theorem KReps.vals : ∀ {us : List Value} {ds : List D}, KReps K us ds → ∃ vs, Vals vs us ∧ ∀ G, RepAll K G vs ds
  | _, _, .nil => ⟨[], .nil, fun _ => .nil⟩
  | _, _, .cons a t => by
    obtain ⟨v, h1, h2⟩ := a.ex
    obtain ⟨vs, h3, h4⟩ := t.vals
    exact ⟨v :: vs, .cons h1 h3, fun G => .cons (h2 G) (h4 G)⟩
theorem KReps.len : ∀ {us : List Value} {ds : List D}, KReps K us ds → us.length = ds.length
  | _, _, .nil => rfl
  | _, _, .cons _ t => congrArg (· + 1) t.len
theorem krep_tup {a : Addr} {od : Option Addr} {its : List Value} {n : Nat} {sl : Array (Option Value)} {ds : List D} (l : K.lookup a = some ⟨.type "tuple", od, .seq its.toArray n, sl⟩) (r : KReps K its ds) (hz : ds.length ≤ 1000 := by exact Nat.le_of_ble_eq_true rfl) : KRep K (.ref a) (.tup ds) := by
  obtain ⟨vs, h1, h2⟩ := r.vals
  exact ⟨⟨.ref a, rfl, fun G => .tup (.inr ⟨_, its.toArray, n, l, rfl, rfl, by rw [List.size_toArray, r.len]; exact le1000 hz, by simpa using h1⟩) (h2 G)⟩⟩
theorem krep_lst {a : Addr} {its : List Value} {n : Nat} {sl : Array (Option Value)} {ds : List D} (l : K.lookup a = some ⟨.type "list", none, .seq its.toArray n, sl⟩) (r : KReps K its ds) (hz : ds.length ≤ 1000 := by exact Nat.le_of_ble_eq_true rfl) : KRep K (.ref a) (.lst ds) := by
  obtain ⟨vs, h1, h2⟩ := r.vals
  exact ⟨⟨.ref a, rfl, fun G => .lst (.inr ⟨_, its.toArray, n, l, rfl, rfl, rfl, by rw [List.size_toArray, r.len]; exact le1000 hz, by simpa using h1⟩) (h2 G)⟩⟩
theorem cst_obj {x : Str} {u : Value} {d : D} (X : K.In h) (G : h.Ns mainGlobals mg) (a : PySem.W.nsIn K mainGlobals x = some (some u)) (r : KRep K u d) : Cst K mg x d := by
  obtain ⟨v, h1, h2⟩ := r.ex
  exact ⟨⟨v, u, PySem.W.mg_of X G a, h1, h2⟩⟩
end
/-- a step of sequence -/
theorem seqI {t u : DS} {d : DEnds} {ρ : Env} (h : t { d with nx := u d } ρ) : dSeq t u d ρ := h
end DL
namespace DL
open PySem L2
/-! ### fractions between -/
/-- p / q lies between a / b and c / d, and no fraction there is simpler -/
structure Smp (a b c d p q : Int) : Prop where
  q1 : 1 ≤ q
  p1 : 1 ≤ p
  lo : a * q < p * b
  hi : p * d < c * q
  least : ∀ x y : Int, 1 ≤ y → a * y < x * b → x * d < c * y → p ≤ x ∧ q ≤ y
theorem smp_stop {a b c d w : Int} (hb : 0 < b) (hd : 0 ≤ d) (ha : 0 ≤ a) (hw : w = a / b) (h : (w + 1) * d < c) : Smp a b c d (w + 1) 1 := by
  have e := Int.emod_add_mul_ediv a b
  have r0 := Int.emod_nonneg a (by omega : b ≠ 0)
  have r1 := Int.emod_lt_of_pos a hb
  have w0 : 0 ≤ w := by rw [hw]; exact Int.ediv_nonneg ha (by omega)
  rw [← hw] at e
  refine ⟨by omega, by omega, ?_, by omega, fun x y hy h1 h2 => ⟨?_, hy⟩⟩
  · rw [Int.add_mul, Int.mul_comm w b]; omega
  · have h3 : w * y * b ≤ a * y := by
      have : w * b ≤ a := by rw [Int.mul_comm w b]; omega
      have q := Int.mul_le_mul_of_nonneg_right this (by omega : 0 ≤ y)
      rw [Int.mul_assoc, Int.mul_comm y b, ← Int.mul_assoc]
      exact q
    have h4 : w * y * b < x * b := by omega
    have h5 : w * y < x := Int.lt_of_mul_lt_mul_right h4 (by omega)
    have h6 : w * 1 ≤ w * y := Int.mul_le_mul_of_nonneg_left hy w0
    omega
theorem smp_step {a b c d w p q : Int} (ha : 0 ≤ a) (hb : 0 < b) (hd : 0 ≤ d) (hac : a * d < c * b) (hw : w = a / b) (hc : c ≤ (w + 1) * d)
    (s : Smp d (c - w * d) (if a = w * b then 1 else b) (if a = w * b then 0 else a - w * b) p q) : Smp a b c d (w * p + q) p := by
  have e := Int.emod_add_mul_ediv a b
  have r0 := Int.emod_nonneg a (by omega : b ≠ 0)
  have r1 := Int.emod_lt_of_pos a hb
  have w0 : 0 ≤ w := by rw [hw]; exact Int.ediv_nonneg ha (by omega)
  rw [← hw] at e
  have wb : w * b ≤ a := by rw [Int.mul_comm w b]; omega
  obtain ⟨q1, p1, lo, hi, least⟩ := s
  have wp0 : 0 ≤ w * p := Int.mul_nonneg w0 (by omega)
  -- hi': p * (a - w b) < b * q, in both cases
  have hi2 : p * (a - w * b) < b * q := by
    by_cases z : a = w * b
    · rw [if_pos z, if_pos z] at hi
      have : a - w * b = 0 := by omega
      rw [this, Int.mul_zero]
      exact Int.mul_pos hb (by omega)
    · rw [if_neg z, if_neg z] at hi
      exact hi
  refine ⟨p1, by omega, ?_, ?_, fun x y hy h1 h2 => ?_⟩
  · have k : p * (a - w * b) = a * p - w * p * b := by
      rw [Int.mul_sub, Int.mul_comm p a, ← Int.mul_assoc, Int.mul_comm p w]
    rw [Int.add_mul, Int.mul_comm q b]
    omega
  · have k : p * (c - w * d) = c * p - w * p * d := by
      rw [Int.mul_sub, Int.mul_comm p c, ← Int.mul_assoc, Int.mul_comm p w]
    rw [Int.add_mul, Int.mul_comm q d]
    omega
  · -- x = w y + r
    have h3 : w * y * b ≤ a * y := by
      have q := Int.mul_le_mul_of_nonneg_right wb (by omega : 0 ≤ y)
      rw [Int.mul_assoc, Int.mul_comm y b, ← Int.mul_assoc]
      exact q
    have h5 : w * y < x := Int.lt_of_mul_lt_mul_right (show w * y * b < x * b by omega) (by omega)
    have k1 : (x - w * y) * b = x * b - w * y * b := Int.sub_mul ..
    have k2 : (a - w * b) * y = a * y - w * y * b := by
      rw [Int.sub_mul, Int.mul_assoc, Int.mul_comm b y, ← Int.mul_assoc]
    have k3 : (x - w * y) * d = x * d - w * y * d := Int.sub_mul ..
    have k4 : (c - w * d) * y = c * y - w * y * d := by
      rw [Int.sub_mul, Int.mul_assoc, Int.mul_comm d y, ← Int.mul_assoc]
    have l := least y (x - w * y) (by omega) (by rw [Int.mul_comm d, Int.mul_comm y]; omega) (by
      by_cases z : a = w * b
      · rw [if_pos z, if_pos z, Int.mul_zero, Int.one_mul]
        omega
      · rw [if_neg z, if_neg z, Int.mul_comm y, Int.mul_comm b]
        omega)
    have l2 : w * p ≤ w * y := Int.mul_le_mul_of_nonneg_left l.1 w0
    omega
/-- the simplest is no greater than the mediant -/
theorem smp_med {a b c d p q : Int} (s : Smp a b c d p q) (hb : 0 < b) (hd : 0 ≤ d) (hac : a * d < c * b) : p ≤ a + c ∧ q ≤ b + d :=
  s.least (a + c) (b + d) (by omega) (by rw [Int.mul_add, Int.add_mul]; omega) (by rw [Int.mul_add, Int.add_mul]; omega)
/-- whole numbers put together -/
def cfr : List Int → Int → Int × Int
  | [], l => (l, 1)
  | w :: ws, l => (w * (cfr ws l).1 + (cfr ws l).2, (cfr ws l).1)
def T_is_whole : DSpec := fun rs β Q _ => ∃ d k, rs = [.val d] ∧ kd (.val d) = some k ∧ Q (.val (.bl (decide (k = .int)))) β
/-- in lowest terms: what the quotients are told by -/
def T_lowest : DSpec := fun rs β Q _ => ∃ n b : Int, rs = [.val (.int n), .val (.int b)] ∧ 0 < b ∧ b ≤ 10000000000000000000000000000000000000000 ∧
  ∀ p q g : Int, 0 < g → n = p * g → b = q * g → 0 < q → Int.gcd p q = 1 → Q (.val (iP p q)) β
def T_is_less : DSpec := fun rs β Q _ => ∃ a b c d : Int, rs = [.val (iP a b), .val (iP c d)] ∧ CMulW a d ∧ CMulW c b ∧ Q (.val (.bl (decide (a * d < c * b)))) β
/-- how much stands ahead of place i -/
def hs (ns : List Int) (i : Nat) : Int := (ns.take i).sum
def hts (ns : List Int) : List Int := (List.range (ns.length + 1)).map (hs ns)
def T_heights : DSpec := fun rs β Q _ => ∃ ns : List Int, rs = [.val (iL ns)] ∧ ns.length ≤ 100000 ∧ Q (.own ((hts ns).map D.int)) β
def T_put_together : DSpec := fun rs β Q _ => ∃ (ws : List Int) (l m : Int), rs = [.val (iL ws), .val (.int l)] ∧ (∀ w ∈ ws, 0 ≤ w) ∧ 1 ≤ l ∧ (cfr ws l).1 ≤ m ∧ (cfr ws l).2 ≤ m ∧ m ≤ 10000000000000000000000000000000000000000 ∧ Q (.val (iP (cfr ws l).1 (cfr ws l).2)) β
def T_found_inside : DSpec := fun rs β Q _ => ∃ a b c d m : Int, rs = [.val (iP a b), .val (iP c d)] ∧ 0 ≤ a ∧ 0 < b ∧ 0 ≤ d ∧ a * d < c * b ∧ a ≤ m ∧ b ≤ m ∧ c ≤ m ∧ d ≤ m ∧ m ≤ 1000000000000000 ∧ ∀ p q, Smp a b c d p q → Q (.val (iP p q)) β
/-- of the pairs that S tells, (v + k) / length: the greatest -/
structure Low (ss : Nat → Int) (S : Nat → Nat → Prop) (a b : Int) : Prop where
  b0 : 0 < b
  co : Int.gcd a b = 1
  is : ∃ p q g, S p q ∧ 0 < g ∧ ss q - ss p - 1 = a * g ∧ (q : Int) - p = b * g
  up : ∀ p q, S p q → (ss q - ss p - 1) * b ≤ a * ((q : Int) - p)
structure High (ss : Nat → Int) (S : Nat → Nat → Prop) (a b : Int) : Prop where
  b0 : 0 < b
  co : Int.gcd a b = 1
  is : ∃ p q g, S p q ∧ 0 < g ∧ ss q - ss p + 1 = a * g ∧ (q : Int) - p = b * g
  dn : ∀ p q, S p q → a * ((q : Int) - p) ≤ (ss q - ss p + 1) * b
def Prs (n : Nat) : Nat → Nat → Prop := fun p q => p < q ∧ q < n
def T_rates_between : DSpec := fun rs β Q _ => ∃ xs : List Int, rs = [.val (iL xs)] ∧ 2 ≤ xs.length ∧ xs.length ≤ 1000 ∧ (∀ x ∈ xs, -1000000000000000000 ≤ x ∧ x ≤ 1000000000000000000) ∧
  ∀ a b c d, Low (fun i => xs.getD i 0) (Prs xs.length) a b → High (fun i => xs.getD i 0) (Prs xs.length) c d → Q (.val (.tup [iP a b, iP c d])) β
/-- every two equally long stretches hold sums that differ by 1 at most -/
def Even (ns : List Int) : Prop := ∀ i j l : Nat, i + l ≤ ns.length → j + l ≤ ns.length → hs ns (i + l) - hs ns i ≤ hs ns (j + l) - hs ns j + 1
/-- a formula of these lengths: factor, start, divisor -/
structure Fml (ns : List Int) (f s d : Int) : Prop where
  d1 : 1 ≤ d
  d2 : d ≤ 2 * (ns.length : Int)
  f0 : 0 ≤ f
  co : Int.gcd f d = 1
  lo : ∀ p q, Prs (ns.length + 1) p q → (hs ns q - hs ns p - 1) * d < f * ((q : Int) - p)
  hi : ∀ p q, Prs (ns.length + 1) p q → f * ((q : Int) - p) < (hs ns q - hs ns p + 1) * d
  up : ∀ i, i ≤ ns.length → d * hs ns i - f * (i : Int) ≤ s
  is : ∃ i, i ≤ ns.length ∧ s = d * hs ns i - f * (i : Int)
  least : ∀ x y : Int, 1 ≤ y → 0 ≤ x → (∀ p q, Prs (ns.length + 1) p q → (hs ns q - hs ns p - 1) * y < x * ((q : Int) - p) ∧ x * ((q : Int) - p) < (hs ns q - hs ns p + 1) * y) → d ≤ y ∧ f ≤ x
def T_found_formula : DSpec := fun rs β Q _ => ∃ ns : List Int, rs = [.val (iL ns)] ∧ 1 ≤ ns.length ∧ ns.length ≤ 200 ∧ (∀ n ∈ ns, 0 ≤ n ∧ n ≤ 1000000000) ∧
  (Even ns → ∀ f s d, Fml ns f s d → Q (.val (.tup [.int f, .int s, .int d])) β) ∧ (¬ Even ns → Q (.val .non) β)
/-- whole numbers put together ahead of a pair -/
def cfs : List Int → Int × Int → Int × Int
  | [], x => x
  | w :: ws, x => (w * (cfs ws x).1 + (cfs ws x).2, (cfs ws x).1)
theorem cfs_snoc (w : Int) (x : Int × Int) : ∀ ws : List Int, cfs (ws ++ [w]) x = cfs ws (w * x.1 + x.2, x.1)
  | [] => rfl
  | v :: ws => by rw [List.cons_append, cfs, cfs, cfs_snoc w x ws]
theorem cfs_cfr (l : Int) : ∀ ws : List Int, cfs ws (l, 1) = cfr ws l
  | [] => rfl
  | v :: ws => by rw [cfs, cfr, cfs_cfr l ws]
/-- what holds ahead of a turn of the search -/
structure FI (a0 b0 c0 d0 m : Int) (ws : List Int) (a b c d : Int) : Prop where
  a1 : 0 ≤ a
  b1 : 0 < b
  d1 : 0 ≤ d
  ac : a * d < c * b
  am : a ≤ m
  bm : b ≤ m
  cm : c ≤ m
  dm : d ≤ m
  ws0 : ∀ w ∈ ws, 0 ≤ w
  few : ws.length = 0 ∨ (b ≤ a ∧ 2 ^ ws.length * ((a + c) * (b + d)) ≤ 8 * (m * m))
  smp : ∀ p q, Smp a b c d p q → Smp a0 b0 c0 d0 (cfs ws (p, q)).1 (cfs ws (p, q)).2
theorem FI.c1 {a0 b0 c0 d0 m : Int} {ws : List Int} {a b c d : Int} (h : FI a0 b0 c0 d0 m ws a b c d) : 0 < c := by
  have h1 := Int.mul_nonneg h.a1 h.d1
  have h2 : 0 < c * b := by have := h.ac; omega
  exact Int.pos_of_mul_pos_left h2 h.b1 |> fun z => z
theorem FI.len {a0 b0 c0 d0 m : Int} {ws : List Int} {a b c d : Int} (h : FI a0 b0 c0 d0 m ws a b c d) (hm : m ≤ 1000000000000000) : ws.length ≤ 120 := by
  rcases h.few with e | ⟨_, e⟩
  · omega
  · refine Nat.le_of_not_lt fun z => ?_
    have c1 := h.c1
    have p1 : (1 : Int) ≤ (a + c) * (b + d) := Int.mul_pos (by have := h.a1; omega) (by have := h.b1; have := h.d1; omega)
    have mm : m * m ≤ 1000000000000000 * 1000000000000000 := Int.mul_le_mul hm hm (by have := h.b1; have := h.bm; omega) (by decide)
    have e2 : (2 : Int) ^ 121 ≤ 2 ^ ws.length := by
      have : (2 : Nat) ^ 121 ≤ 2 ^ ws.length := Nat.pow_le_pow_right (by decide) z
      exact_mod_cast this
    have e3 : (2 : Int) ^ ws.length * 1 ≤ 2 ^ ws.length * ((a + c) * (b + d)) := Int.mul_le_mul_of_nonneg_left p1 (by omega)
    have e4 : (2 : Int) ^ 121 = 2658455991569831745807614120560689152 := by decide
    omega
theorem FI.next {a0 b0 c0 d0 m w : Int} {ws : List Int} {a b c d : Int} (h : FI a0 b0 c0 d0 m ws a b c d) (hw : w = a / b) (hc : c ≤ (w + 1) * d) :
    FI a0 b0 c0 d0 m (ws ++ [w]) d (c - w * d) (if a = w * b then 1 else b) (if a = w * b then 0 else a - w * b) ∧ (c - w * d) + (if a = w * b then 0 else a - w * b) < b + d := by
  obtain ⟨a1, b1, d1, ac, am, bm, cm, dm, ws0, few, smp⟩ := h
  have e := Int.emod_add_mul_ediv a b
  have r0 := Int.emod_nonneg a (by omega : b ≠ 0)
  have r1 := Int.emod_lt_of_pos a b1
  have w0 : 0 ≤ w := by rw [hw]; exact Int.ediv_nonneg a1 (by omega)
  rw [← hw] at e
  have wb : w * b ≤ a := by rw [Int.mul_comm w b]; omega
  have rb : a - w * b < b := by rw [Int.mul_comm w b]; omega
  have hc2 : c - w * d ≤ d := by rw [Int.add_mul] at hc; omega
  have cd : 0 < c - w * d := by
    have h1 : w * b * d ≤ a * d := Int.mul_le_mul_of_nonneg_right wb d1
    have h2 : w * d * b = w * b * d := by rw [Int.mul_assoc, Int.mul_comm d b, ← Int.mul_assoc]
    have h3 : w * d * b < c * b := by omega
    have := Int.lt_of_mul_lt_mul_right h3 (by omega)
    omega
  have wd0 := Int.mul_nonneg w0 d1
  have wb0 := Int.mul_nonneg w0 (by omega : 0 ≤ b)
  have key : d * (if a = w * b then 0 else a - w * b) < (if a = w * b then 1 else b) * (c - w * d) := by
    by_cases z : a = w * b
    · rw [if_pos z, if_pos z, Int.mul_zero, Int.one_mul]
      exact cd
    · rw [if_neg z, if_neg z, Int.mul_sub, Int.mul_sub, Int.mul_comm d a, Int.mul_comm b c]
      have h2 : d * (w * b) = b * (w * d) := by rw [Int.mul_comm d, Int.mul_assoc, Int.mul_comm w, Int.mul_assoc, Int.mul_comm d w]
      omega
  have two : (if a = w * b then (0 : Int) else a - w * b) = a - w * b := by
    by_cases z : a = w * b
    · rw [if_pos z]; omega
    · rw [if_neg z]
  refine ⟨⟨d1, cd, by rw [two]; omega, key, dm, by omega, ?_, by rw [two]; omega, ?_, .inr ⟨by omega, ?_⟩, ?_⟩, by rw [two]; omega⟩
  · split <;> omega
  · intro x hx
    rcases List.mem_append.mp hx with hx | hx
    · exact ws0 x hx
    · rw [List.mem_singleton] at hx
      omega
  · rw [List.length_append, List.length_singleton, Int.pow_succ, two]
    have n1 : d + (if a = w * b then 1 else b) ≤ b + d := by split <;> omega
    have n0 : 0 ≤ d + (if a = w * b then 1 else b) := by split <;> omega
    have f0 : 0 ≤ c - w * d + (a - w * b) := by omega
    have P1 : (d + (if a = w * b then 1 else b)) * (c - w * d + (a - w * b)) ≤ (b + d) * (c - w * d + (a - w * b)) := Int.mul_le_mul_of_nonneg_right n1 f0
    rcases few with z | ⟨z, few⟩
    · rw [z]
      have P2 : (b + d) * (c - w * d + (a - w * b)) ≤ (b + d) * (b + d) := Int.mul_le_mul_of_nonneg_left (by omega) (by omega)
      have P3 : (b + d) * (b + d) ≤ (2 * m) * (2 * m) := Int.mul_le_mul (by omega) (by omega) (by omega) (by omega)
      have P4 : (2 * m) * (2 * m) = 4 * (m * m) := by rw [Int.mul_assoc, Int.mul_left_comm m 2 m, ← Int.mul_assoc]; omega
      rw [Int.pow_zero, Int.one_mul]
      omega
    · have w1 : 1 ≤ w := by
        rw [hw]
        exact Int.le_ediv_of_mul_le b1 (by omega)
      have wd1 : 1 * d ≤ w * d := Int.mul_le_mul_of_nonneg_right w1 d1
      have wb1 : 1 * b ≤ w * b := Int.mul_le_mul_of_nonneg_right w1 (by omega)
      have P2 : (b + d) * (2 * (c - w * d + (a - w * b))) ≤ (b + d) * (a + c) := Int.mul_le_mul_of_nonneg_left (by omega) (by omega)
      have P3 : 2 * ((d + (if a = w * b then 1 else b)) * (c - w * d + (a - w * b))) ≤ (a + c) * (b + d) := by
        rw [Int.mul_left_comm] at P2
        rw [Int.mul_comm (a + c)]
        omega
      have P4 : (2 : Int) ^ ws.length * (2 * ((d + (if a = w * b then 1 else b)) * (c - w * d + (a - w * b)))) ≤ 2 ^ ws.length * ((a + c) * (b + d)) := Int.mul_le_mul_of_nonneg_left P3 (Int.pow_nonneg (by decide))
      rw [Int.mul_assoc]
      omega
  · intro p q s
    rw [cfs_snoc]
    exact smp _ _ (smp_step a1 b1 d1 ac hw hc s)
section
variable {ss : Nat → Int} {S S' : Nat → Nat → Prop} {a b x y g : Int} {i e : Nat}
theorem low_new (hS : ∀ p q, S' p q ↔ S p q ∨ (p = i ∧ q = e)) (no : ∀ p q, ¬ S p q) (hg : 0 < g) (h1 : ss e - ss i - 1 = x * g) (h2 : (e : Int) - i = y * g) (y0 : 0 < y) (co : Int.gcd x y = 1) : Low ss S' x y :=
  ⟨y0, co, ⟨i, e, g, (hS i e).mpr (.inr ⟨rfl, rfl⟩), hg, h1, h2⟩, fun p q h => by
    rcases (hS p q).mp h with h | ⟨rfl, rfl⟩
    · exact absurd h (no p q)
    · rw [h1, h2, Int.mul_right_comm, Int.mul_assoc]
      exact Int.le_refl _⟩
theorem low_better (hS : ∀ p q, S' p q ↔ S p q ∨ (p = i ∧ q = e)) (up : ∀ p q, S p q → p < q) (h : Low ss S a b) (hg : 0 < g) (h1 : ss e - ss i - 1 = x * g) (h2 : (e : Int) - i = y * g) (y0 : 0 < y) (co : Int.gcd x y = 1) (lt : a * y < x * b) : Low ss S' x y :=
  ⟨y0, co, ⟨i, e, g, (hS i e).mpr (.inr ⟨rfl, rfl⟩), hg, h1, h2⟩, fun p q z => by
    rcases (hS p q).mp z with z | ⟨rfl, rfl⟩
    · have k1 := h.up p q z
      have k2 := up p q z
      have k3 : (ss q - ss p - 1) * b * y ≤ a * ((q : Int) - p) * y := Int.mul_le_mul_of_nonneg_right k1 (by omega)
      have k4 : a * y * ((q : Int) - p) ≤ x * b * ((q : Int) - p) := Int.mul_le_mul_of_nonneg_right (by omega) (by omega)
      have k5 : (ss q - ss p - 1) * y * b ≤ x * ((q : Int) - p) * b := by
        rw [Int.mul_right_comm _ y b, Int.mul_right_comm x _ b]
        rw [Int.mul_right_comm a _ y] at k3
        omega
      exact Int.le_of_mul_le_mul_right k5 h.b0
    · rw [h1, h2, Int.mul_right_comm, Int.mul_assoc]
      exact Int.le_refl _⟩
theorem low_keep (hS : ∀ p q, S' p q ↔ S p q ∨ (p = i ∧ q = e)) (h : Low ss S a b) (hg : 0 < g) (h1 : ss e - ss i - 1 = x * g) (h2 : (e : Int) - i = y * g) (no : ¬ a * y < x * b) : Low ss S' a b :=
  ⟨h.b0, h.co, by
    obtain ⟨p, q, g, z, r⟩ := h.is
    exact ⟨p, q, g, (hS p q).mpr (.inl z), r⟩, fun p q z => by
    rcases (hS p q).mp z with z | ⟨rfl, rfl⟩
    · exact h.up p q z
    · rw [h1, h2, Int.mul_right_comm, ← Int.mul_assoc]
      exact Int.mul_le_mul_of_nonneg_right (by omega) (by omega)⟩
theorem high_low {c d : Int} : High ss S c d ↔ Low (fun i => - ss i) S (-c) d := by
  constructor
  · rintro ⟨b0, co, ⟨p, q, g, h1, h2, h3, h4⟩, dn⟩
    refine ⟨b0, by rw [Int.neg_gcd]; exact co, ⟨p, q, g, h1, h2, by rw [Int.neg_mul]; omega, h4⟩, fun p q z => ?_⟩
    have := dn p q z
    have e : (- ss q - - ss p - 1) * d = -((ss q - ss p + 1) * d) := by rw [← Int.neg_mul]; congr 1; omega
    rw [e, Int.neg_mul]
    omega
  · rintro ⟨b0, co, ⟨p, q, g, h1, h2, h3, h4⟩, up⟩
    refine ⟨b0, by rw [Int.neg_gcd] at co; exact co, ⟨p, q, g, h1, h2, by rw [Int.neg_mul] at h3; omega, h4⟩, fun p q z => ?_⟩
    have := up p q z
    have e : (- ss q - - ss p - 1) * d = -((ss q - ss p + 1) * d) := by rw [← Int.neg_mul]; congr 1; omega
    rw [e, Int.neg_mul] at this
    omega
end
/-- the pairs gone through: all that begin ahead of i, and of those that begin at i the first m -/
def Done (n i m : Nat) : Nat → Nat → Prop := fun p q => (p < i ∨ (p = i ∧ q < i + 1 + m)) ∧ p < q ∧ q < n
def RB (ss : Nat → Int) (S : Nat → Nat → Prop) (l h : D) : Prop := (l = .non ∧ h = .non ∧ ∀ p q, ¬ S p q) ∨ ∃ a b c d, l = iP a b ∧ h = iP c d ∧ Low ss S a b ∧ High ss S c d
theorem RB.congr {ss : Nat → Int} {S S' : Nat → Nat → Prop} {l h : D} (e : ∀ p q, S p q ↔ S' p q) (r : RB ss S l h) : RB ss S' l h := by
  have : S = S' := funext fun p => funext fun q => propext (e p q)
  rw [← this]; exact r
theorem done_next {n i m : Nat} (h : i + 1 + m < n) (p q : Nat) : Done n i (m + 1) p q ↔ Done n i m p q ∨ (p = i ∧ q = i + 1 + m) := by unfold Done; omega
theorem done_row {n i : Nat} (p q : Nat) : Done n i (n - (i + 1)) p q ↔ Done n (i + 1) 0 p q := by unfold Done; omega
theorem done_all {n : Nat} (p q : Nat) : Done n n 0 p q ↔ Prs n p q := by unfold Done Prs; omega
theorem low_le {ss : Nat → Int} {n i m : Nat} {a b B : Int} (h : Low ss (Done n i m) a b) (hB : ∀ p q, Done n i m p q → -B ≤ ss q - ss p - 1 ∧ ss q - ss p - 1 ≤ B) (B0 : 0 ≤ B) : b ≤ n ∧ -B ≤ a ∧ a ≤ B := by
  obtain ⟨p, q, g, hs, hg, e1, e2⟩ := h.is
  have hb := h.b0
  obtain ⟨k1, k2⟩ := hB p q hs
  have hq := hs.2.2
  have e3 : b * 1 ≤ b * g := Int.mul_le_mul_of_nonneg_left (by omega) (by omega)
  refine ⟨by omega, ?_, ?_⟩
  · by_cases z : 0 ≤ a
    · omega
    · have : a * g ≤ a * 1 := Int.mul_le_mul_of_nonpos_left (by omega) (by omega)
      omega
  · by_cases z : 0 ≤ a
    · have : a * 1 ≤ a * g := Int.mul_le_mul_of_nonneg_left (by omega) (by omega)
      omega
    · omega
theorem hs_nonneg {ns : List Int} {B : Int} (h : ∀ n ∈ ns, 0 ≤ n ∧ n ≤ B) : ∀ i j : Nat, 0 ≤ hs ns (i + j) - hs ns i ∧ (0 ≤ B → hs ns (i + j) - hs ns i ≤ B * j)
  | i, 0 => by simp
  | i, j + 1 => by
    obtain ⟨h1, h2⟩ := hs_nonneg h i j
    have step : hs ns (i + j + 1) - hs ns (i + j) = 0 ∨ (0 ≤ hs ns (i + j + 1) - hs ns (i + j) ∧ hs ns (i + j + 1) - hs ns (i + j) ≤ B) := by
      by_cases z : i + j < ns.length
      · right
        have := h _ (List.getElem_mem z)
        have e : hs ns (i + j + 1) = hs ns (i + j) + ns[i + j] := by
          unfold hs
          rw [List.take_succ, List.getElem?_eq_getElem z, List.sum_append]
          simp
        omega
      · left
        unfold hs
        rw [List.take_of_length_le (by omega), List.take_of_length_le (by omega)]
        omega
    have e : ((j + 1 : Nat) : Int) = (j : Int) + 1 := by omega
    rw [← Nat.add_assoc, e, Int.mul_add, Int.mul_one]
    refine ⟨by omega, fun b => ?_⟩
    have := h2 b
    omega
theorem even_sep {ns : List Int} (ev : Even ns) : ∀ (k L M p p' : Nat), L + M ≤ k → 0 < L → 0 < M → p + L ≤ ns.length → p' + M ≤ ns.length → (hs ns (p + L) - hs ns p - 1) * (M : Int) < (hs ns (p' + M) - hs ns p' + 1) * (L : Int)
  | 0, L, M, _, _, h, l0, _, _, _ => by omega
  | k + 1, L, M, p, p', h, l0, m0, h1, h2 => by
    rcases Nat.lt_trichotomy L M with c | c | c
    · have ih := even_sep ev k L (M - L) p (p' + L) (by omega) l0 (by omega) h1 (by omega)
      have e := ev p p' L h1 (by omega)
      rw [show p' + L + (M - L) = p' + M by omega] at ih
      have em : (M : Int) = (L : Int) + ((M - L : Nat) : Int) := by omega
      rw [em, Int.mul_add]
      have k1 : (hs ns (p + L) - hs ns p - 1) * (L : Int) ≤ (hs ns (p' + L) - hs ns p') * (L : Int) := Int.mul_le_mul_of_nonneg_right (by omega) (by omega)
      have k2 : (hs ns (p' + M) - hs ns p' + 1) * (L : Int) = (hs ns (p' + L) - hs ns p') * (L : Int) + (hs ns (p' + M) - hs ns (p' + L) + 1) * (L : Int) := by rw [← Int.add_mul]; congr 1; omega
      omega
    · subst c
      have e := ev p p' L h1 h2
      exact Int.mul_lt_mul_of_pos_right (by omega) (by omega)
    · have ih := even_sep ev k (L - M) M (p + M) p' (by omega) (by omega) m0 (by omega) h2
      have e := ev p p' M (by omega) h2
      rw [show p + M + (L - M) = p + L by omega] at ih
      have em : (L : Int) = (M : Int) + ((L - M : Nat) : Int) := by omega
      rw [em, Int.mul_add]
      have k1 : (hs ns (p + M) - hs ns p) * (M : Int) ≤ (hs ns (p' + M) - hs ns p' + 1) * (M : Int) := Int.mul_le_mul_of_nonneg_right (by omega) (by omega)
      have k2 : (hs ns (p + L) - hs ns p - 1) * (M : Int) = (hs ns (p + M) - hs ns p) * (M : Int) + (hs ns (p + L) - hs ns (p + M) - 1) * (M : Int) := by rw [← Int.add_mul]; congr 1; omega
      omega
section
variable {ns : List Int} {a b c d : Int}
theorem even_iff (lo : Low (hs ns) (Prs (ns.length + 1)) a b) (hi : High (hs ns) (Prs (ns.length + 1)) c d) : a * d < c * b ↔ Even ns := by
  have hb := lo.b0
  have hd := hi.b0
  constructor
  · intro h i j l h1 h2
    by_cases z : l = 0
    · subst z; simp
    · have k1 := lo.up i (i + l) ⟨by omega, by omega⟩
      have k2 := hi.dn j (j + l) ⟨by omega, by omega⟩
      have e1 : ((i + l : Nat) : Int) - (i : Int) = l := by omega
      have e2 : ((j + l : Nat) : Int) - (j : Int) = l := by omega
      rw [e1] at k1
      rw [e2] at k2
      have m1 : (hs ns (i + l) - hs ns i - 1) * b * d ≤ a * l * d := Int.mul_le_mul_of_nonneg_right k1 (by omega)
      have m2 : c * l * b ≤ (hs ns (j + l) - hs ns j + 1) * d * b := Int.mul_le_mul_of_nonneg_right k2 (by omega)
      have m3 : a * d * l < c * b * l := Int.mul_lt_mul_of_pos_right h (by omega)
      rw [Int.mul_right_comm a] at m1
      rw [Int.mul_right_comm c] at m2
      rw [Int.mul_right_comm _ d b] at m2
      have m4 : (hs ns (i + l) - hs ns i - 1) * b * d < (hs ns (j + l) - hs ns j + 1) * b * d := by omega
      have m5 := Int.lt_of_mul_lt_mul_right m4 (by omega)
      have m6 := Int.lt_of_mul_lt_mul_right m5 (by omega)
      omega
  · intro ev
    obtain ⟨p, q, g, s1, g0, e1, e2⟩ := lo.is
    obtain ⟨p', q', g', s2, g0', e1', e2'⟩ := hi.is
    have k := even_sep ev (q - p + (q' - p')) (q - p) (q' - p') p p' (Nat.le_refl _) (by have := s1.1; omega) (by have := s2.1; omega) (by have := s1.1; have := s1.2; omega) (by have := s2.1; have := s2.2; omega)
    have l1 := s1.1
    have l2 := s2.1
    rw [show p + (q - p) = q by omega, show p' + (q' - p') = q' by omega, show ((q - p : Nat) : Int) = (q : Int) - p by omega, show ((q' - p' : Nat) : Int) = (q' : Int) - p' by omega, e1, e2, e1', e2'] at k
    have x1 : a * g * (d * g') = a * d * (g * g') := by rw [Int.mul_assoc, Int.mul_left_comm g, ← Int.mul_assoc]
    have x2 : c * g' * (b * g) = c * b * (g * g') := by rw [Int.mul_assoc, Int.mul_left_comm g', ← Int.mul_assoc, Int.mul_comm g']
    rw [x1, x2] at k
    exact Int.lt_of_mul_lt_mul_right k (Int.le_of_lt (Int.mul_pos g0 g0'))
theorem low_den {ss : Nat → Int} {n : Nat} (lo : Low ss (Prs (n + 1)) a b) : b ≤ n := by
  obtain ⟨p, q, g, s1, g0, e1, e2⟩ := lo.is
  have := lo.b0
  have : b * 1 ≤ b * g := Int.mul_le_mul_of_nonneg_left (by omega) (by omega)
  have := s1.2
  omega
theorem high_den {ss : Nat → Int} {n : Nat} (hi : High ss (Prs (n + 1)) c d) : d ≤ n := low_den (high_low.mp hi)
/-- a rate between the bounds suits every pair -/
theorem rate_ok {ss : Nat → Int} {n : Nat} {f e : Int} (lo : Low ss (Prs n) a b) (hi : High ss (Prs n) c d) (e0 : 1 ≤ e) (h1 : a * e < f * b) (h2 : f * d < c * e) {p q : Nat} (h : Prs n p q) :
    (ss q - ss p - 1) * e < f * ((q : Int) - p) ∧ f * ((q : Int) - p) < (ss q - ss p + 1) * e := by
  have hb := lo.b0
  have hd := hi.b0
  have l := h.1
  have k1 := lo.up p q h
  have k2 := hi.dn p q h
  have l0 : 0 < (q : Int) - p := by omega
  have m1 : (ss q - ss p - 1) * b * e ≤ a * ((q : Int) - p) * e := Int.mul_le_mul_of_nonneg_right k1 (by omega)
  have m2 : c * ((q : Int) - p) * e ≤ (ss q - ss p + 1) * d * e := Int.mul_le_mul_of_nonneg_right k2 (by omega)
  have m3 : a * e * ((q : Int) - p) < f * b * ((q : Int) - p) := Int.mul_lt_mul_of_pos_right h1 l0
  have m4 : f * d * ((q : Int) - p) < c * e * ((q : Int) - p) := Int.mul_lt_mul_of_pos_right h2 l0
  rw [Int.mul_right_comm a] at m1
  rw [Int.mul_right_comm c] at m2
  rw [Int.mul_right_comm _ b e] at m1
  rw [Int.mul_right_comm _ d e] at m2
  rw [Int.mul_right_comm f b] at m3
  rw [Int.mul_right_comm f d] at m4
  exact ⟨Int.lt_of_mul_lt_mul_right (show (ss q - ss p - 1) * e * b < f * ((q : Int) - p) * b by omega) (by omega), Int.lt_of_mul_lt_mul_right (show f * ((q : Int) - p) * d < (ss q - ss p + 1) * e * d by omega) (by omega)⟩
theorem rate_in {ss : Nat → Int} {n : Nat} {x y : Int} (lo : Low ss (Prs n) a b) (hi : High ss (Prs n) c d) (h : ∀ p q, Prs n p q → (ss q - ss p - 1) * y < x * ((q : Int) - p) ∧ x * ((q : Int) - p) < (ss q - ss p + 1) * y) : a * y < x * b ∧ x * d < c * y := by
  obtain ⟨p, q, g, s1, g0, e1, e2⟩ := lo.is
  obtain ⟨p', q', g', s2, g0', e1', e2'⟩ := hi.is
  have k1 := (h p q s1).1
  have k2 := (h p' q' s2).2
  rw [e1, e2, Int.mul_right_comm, ← Int.mul_assoc] at k1
  rw [e1', e2', Int.mul_right_comm c, ← Int.mul_assoc] at k2
  exact ⟨Int.lt_of_mul_lt_mul_right k1 (by omega), Int.lt_of_mul_lt_mul_right k2 (by omega)⟩
theorem smp_co {p q : Int} (s : Smp a b c d p q) : Int.gcd p q = 1 := by
  have hp := s.p1
  have hq := s.q1
  have g0 : 0 < Int.gcd p q := Int.gcd_pos_of_ne_zero_right p (by omega)
  obtain ⟨x, ex⟩ := Int.gcd_dvd_left p q
  obtain ⟨y, ey⟩ := Int.gcd_dvd_right p q
  generalize hg : ((Int.gcd p q : Nat) : Int) = g at ex ey
  have gi : 0 < g := by omega
  have lo := s.lo
  have hi := s.hi
  rw [ex, ey, Int.mul_left_comm, Int.mul_assoc] at lo
  rw [ex, ey, Int.mul_assoc, Int.mul_left_comm c] at hi
  have y1 : 1 ≤ y := by
    by_cases z : 1 ≤ y
    · exact z
    · have : g * y ≤ g * 0 := Int.mul_le_mul_of_nonneg_left (by omega) (by omega)
      omega
  have l := s.least x y y1 (Int.lt_of_mul_lt_mul_left lo (by omega)) (Int.lt_of_mul_lt_mul_left hi (by omega))
  have : g * y = y * g := Int.mul_comm ..
  by_cases z : g = 1
  · omega
  · have : y * 2 ≤ y * g := Int.mul_le_mul_of_nonneg_left (by omega) (by omega)
    omega
/-- what the formula's factor and divisor are, from the simplest rate -/
theorem fml_of {s f e : Int} (nn : ∀ n ∈ ns, 0 ≤ n) (lo : Low (hs ns) (Prs (ns.length + 1)) a b) (hi : High (hs ns) (Prs (ns.length + 1)) c d) (h : (a < 0 ∧ f = 0 ∧ e = 1) ∨ (0 ≤ a ∧ Smp a b c d f e)) (n0 : 1 ≤ ns.length) (up : ∀ i, i ≤ ns.length → e * hs ns i - f * (i : Int) ≤ s) (is : ∃ i, i ≤ ns.length ∧ s = e * hs ns i - f * (i : Int)) (ac : a * d < c * b) : Fml ns f s e := by
  have hb := lo.b0
  have hd := hi.b0
  have db := low_den lo
  have dd := high_den hi
  rcases h with ⟨a0, rfl, rfl⟩ | ⟨a0, sm⟩
  · refine ⟨by decide, by omega, by decide, by decide, fun p q h => ?_, fun p q h => ?_, up, is, fun x y hy hx _ => ⟨hy, hx⟩⟩
    · have k := lo.up p q h
      have l := h.1
      have : a * ((q : Int) - p) ≤ a * 1 := Int.mul_le_mul_of_nonpos_left (by omega) (by omega)
      rw [Int.mul_one, Int.zero_mul]
      refine Int.not_le.mp fun z => ?_
      have := Int.mul_nonneg z (by omega : 0 ≤ b)
      omega
    · have l := h.1
      have := (hs_nonneg (B := 0) (ns := ns.map fun _ => 0) (fun n h => by simp at h; omega) 0 0)
      have k : 0 ≤ hs ns (p + (q - p)) - hs ns p := by
        have aux : ∀ j : Nat, 0 ≤ hs ns (p + j) - hs ns p := by
          intro j
          induction j with
          | zero => simp
          | succ j ih =>
            by_cases z : p + j < ns.length
            · have e : hs ns (p + j + 1) = hs ns (p + j) + ns[p + j] := by
                unfold hs
                rw [List.take_succ, List.getElem?_eq_getElem z, List.sum_append]
                simp
              have := nn _ (List.getElem_mem z)
              rw [← Nat.add_assoc]
              omega
            · have e : hs ns (p + (j + 1)) = hs ns (p + j) := by
                unfold hs
                rw [List.take_of_length_le (by omega), List.take_of_length_le (by omega)]
              omega
        exact aux _
      rw [show p + (q - p) = q by omega] at k
      rw [Int.zero_mul, Int.mul_one]
      omega
  · have m := smp_med sm hb (by omega) ac
    exact ⟨sm.q1, by omega, by have := sm.p1; omega, smp_co sm, fun p q h => (rate_ok lo hi sm.q1 sm.lo sm.hi h).1, fun p q h => (rate_ok lo hi sm.q1 sm.lo sm.hi h).2, up, is, fun x y hy hx h => by
      obtain ⟨r1, r2⟩ := rate_in lo hi h
      have := sm.least x y hy r1 r2
      omega⟩
end
theorem low_congr {ss tt : Nat → Int} {n : Nat} {a b : Int} (e : ∀ i, i < n → ss i = tt i) (h : Low ss (Prs n) a b) : Low tt (Prs n) a b :=
  ⟨h.b0, h.co, by
    obtain ⟨p, q, g, s, g0, e1, e2⟩ := h.is
    exact ⟨p, q, g, s, g0, by rw [← e q s.2, ← e p (by have := s.1; have := s.2; omega)]; exact e1, e2⟩, fun p q s => by
    rw [← e q s.2, ← e p (by have := s.1; have := s.2; omega)]
    exact h.up p q s⟩
theorem high_congr {ss tt : Nat → Int} {n : Nat} {a b : Int} (e : ∀ i, i < n → ss i = tt i) (h : High ss (Prs n) a b) : High tt (Prs n) a b :=
  high_low.mpr (low_congr (fun i hi => by rw [e i hi]) (high_low.mp h))
theorem hts_getD (ns : List Int) {i : Nat} (h : i < ns.length + 1) : (hts ns).getD i 0 = hs ns i := by
  rw [List.getD_eq_getElem?_getD]
  unfold hts
  rw [List.getElem?_map, List.getElem?_range h]
  rfl
theorem low_val {ss : Nat → Int} {S : Nat → Nat → Prop} {a b B : Int} (lo : Low ss S a b) (hB : ∀ p q, S p q → -B ≤ ss q - ss p - 1 ∧ ss q - ss p - 1 ≤ B) : -B ≤ a ∧ a ≤ B := by
  obtain ⟨p, q, g, s, g0, e1, e2⟩ := lo.is
  have := hB p q s
  by_cases z : 0 ≤ a
  · have : a * 1 ≤ a * g := Int.mul_le_mul_of_nonneg_left (by omega) z
    omega
  · have : a * g ≤ a * 1 := Int.mul_le_mul_of_nonpos_left (by omega) (by omega)
    omega
/-! ### the law's own helps -/
abbrev T__law_hash : DSpec := tHash
abbrev T__law_random : DSpec := tRandom
def T__law_cell : DSpec := fun rs β Q _ => ∃ (ns : List Int) (i : Int), rs = [.val (iL ns), .val (.int i)] ∧ ns.length ≤ 63 ∧ 0 ≤ i ∧ ∀ x : Int, Q (.val (.int x)) β
def T__law_generator0 : DSpec := fun rs β Q _ => ∃ (ns : List Int) (i : Int), rs = [.val (iL ns), .val (.int i)] ∧ ns.length ≤ 63 ∧ 0 ≤ i ∧ i ≤ 100 ∧ ∀ x y : Int, 0 ≤ x → x < 10 ^ 600 → 0 ≤ y → y < 2147483647 → Q (.own [.int x, .int y, .int (1000 * i)]) β
def T__law_generator : DSpec := fun rs β Q _ => ∃ (ns : List Int) (i : Int), rs = [.val (iL ns), .val (.int i)] ∧ ns.length ≤ 63 ∧ 0 ≤ i ∧ i ≤ 100 ∧ β ≤ 2 ^ 40 ∧ Q .gen β
def T__law_pick : DSpec := fun rs β Q _ => ∃ ds : List D, rs = [.gen, .val (.lst ds)] ∧ 0 < ds.length ∧ ds.length ≤ 100000 ∧ 1 ≤ β ∧ ∀ d ∈ ds, Q (.val d) (β - 1)
def T__law_put : DSpec := fun rs β Q _ => ∃ (ds : List D) (k : Nat) (d : D), rs = [.val (.lst ds), .val (.int k), .val d] ∧ k < ds.length ∧ ds.length ≤ 100000 ∧ Q (.own (ds.set k d)) β
def T__law_heights : DSpec := fun rs β Q _ => ∃ ns : List Int, rs = [.val (iL ns)] ∧ ns.length ≤ 100000 ∧ Q (.own ((hts ns).map D.int)) β
/-- data nested n deep at most, of lists that are not too long -/
def Sml : Nat → D → Prop
  | _, .non => True
  | _, .bl _ => True
  | _, .int _ => True
  | _, .str _ => True
  | n + 1, .lst ds => ds.length ≤ 1000000 ∧ ∀ d ∈ ds, Sml n d
  | n + 1, .tup ds => ds.length ≤ 1000000 ∧ ∀ d ∈ ds, Sml n d
  | _, _ => False
/-- like things are found alike -/
def T_same (n : Nat) : DSpec := fun rs β Q _ => ∃ d, rs = [.val d, .val d] ∧ Sml n d ∧ Q (.val (.bl true)) β
def T_same' : Nat → DSpec
  | 0 => fun _ _ _ _ => False
  | n + 1 => T_same n
abbrev T__law_same : DSpec := T_same 5
/-! ### paths of cells -/
def mv (s : Int) : Int × Int := [((1 : Int), (0 : Int)), (1, 1), (0, 1), (-1, 1), (-1, 0), (-1, -1), (0, -1), (1, -1)].getD s.toNat (0, 0)
abbrev cP (c : Int × Int) : D := iP c.1 c.2
abbrev cL (cs : List (Int × Int)) : D := .lst (cs.map cP)
def Dirs (ss : List Int) : Prop := ∀ s ∈ ss, 0 ≤ s ∧ s < 8
/-- the steps of a row of cells -/
structure IsP (cs : List (Int × Int)) (ss : List Int) : Prop where
  len : cs.length = ss.length + 1
  few : ss.length ≤ 60
  dir : Dirs ss
  step : ∀ i, i < ss.length → (cs.getD (i + 1) (0, 0)).1 - (cs.getD i (0, 0)).1 = (mv (ss.getD i 0)).1 ∧ (cs.getD (i + 1) (0, 0)).2 - (cs.getD i (0, 0)).2 = (mv (ss.getD i 0)).2
/-- all steps go this way or the next -/
def Two (ss : List Int) (d : Int) : Prop := ∀ s ∈ ss, s = d ∨ s = (d + 1) % 8
instance (ss : List Int) (d : Int) : Decidable (Two ss d) := by unfold Two; infer_instance
def rowOf (ss : List Int) (d : Int) : List Int := ss.map fun s => if s = d then 0 else 1
def Strt (ss : List Int) : Prop := ∃ d, 0 ≤ d ∧ d < 8 ∧ Two ss d ∧ Even (rowOf ss d)
theorem hs_const {ns : List Int} {k : Int} (h : ∀ n ∈ ns, n = k) : ∀ i, i ≤ ns.length → hs ns i = k * i
  | 0, _ => by simp [hs]
  | i + 1, hi => by
    have ih := hs_const h i (by omega)
    have e : hs ns (i + 1) = hs ns i + ns[i] := by
      unfold hs
      rw [List.take_succ, List.getElem?_eq_getElem (by omega), List.sum_append]
      simp
    rw [e, ih, h _ (List.getElem_mem _), show ((i + 1 : Nat) : Int) = (i : Int) + 1 by omega, Int.mul_add, Int.mul_one]
theorem even_const {ns : List Int} {k : Int} (h : ∀ n ∈ ns, n = k) : Even ns := fun i j l h1 h2 => by
  rw [hs_const h _ h1, hs_const h i (by omega), hs_const h _ h2, hs_const h j (by omega), show ((i + l : Nat) : Int) = (i : Int) + l by omega, show ((j + l : Nat) : Int) = (j : Int) + l by omega, Int.mul_add, Int.mul_add]
  omega
/-- any fitting direction that stands in the row tells whether it is straight -/
theorem strt_iff {ss : List Int} {d : Int} (hd : Dirs ss) (hm : d ∈ ss) (h : Two ss d) : Strt ss ↔ Even (rowOf ss d) := by
  have d0 := hd d hm
  refine ⟨fun ⟨e, e0, e8, ht, ev⟩ => ?_, fun ev => ⟨d, d0.1, d0.2, h, ev⟩⟩
  by_cases z : e = d
  · rw [← z]; exact ev
  · refine even_const (k := 0) fun n hn => ?_
    obtain ⟨s, hs, rfl⟩ := List.mem_map.mp hn
    have h1 := h s hs
    have h2 := ht s hs
    have h3 := ht d hm
    rw [if_pos (by omega)]
theorem two_some {ss : List Int} {e : Int} (ne : ss ≠ []) (e0 : 0 ≤ e) (e8 : e < 8) (h : Two ss e) : ∃ d ∈ ss, Two ss d := by
  by_cases z : e ∈ ss
  · exact ⟨e, z, h⟩
  · obtain ⟨s, hs⟩ := List.exists_mem_of_ne_nil ss ne
    refine ⟨s, hs, fun t ht => .inl ?_⟩
    have h1 := h s hs
    have h2 := h t ht
    have k1 : s ≠ e := fun q => z (q ▸ hs)
    have k2 : t ≠ e := fun q => z (q ▸ ht)
    omega
theorem strt_nil : Strt [] := ⟨0, by decide, by decide, (fun _ h => by cases h), even_const (k := 0) (fun _ h => by cases h)⟩
/-- any fitting direction does -/
theorem strt_any {ss : List Int} {d : Int} (hd : Dirs ss) (d0 : 0 ≤ d) (d8 : d < 8) (h : Two ss d) : Strt ss ↔ Even (rowOf ss d) := by
  refine ⟨fun ⟨e, e0, e8, ht, ev⟩ => ?_, fun ev => ⟨d, d0, d8, h, ev⟩⟩
  by_cases z : e = d
  · rw [← z]; exact ev
  · by_cases c : e = (d + 1) % 8
    · refine even_const (k := 1) fun n hn => ?_
      obtain ⟨s, hs, rfl⟩ := List.mem_map.mp hn
      have h1 := h s hs
      have h2 := ht s hs
      rw [if_neg (by omega)]
    · refine even_const (k := 0) fun n hn => ?_
      obtain ⟨s, hs, rfl⟩ := List.mem_map.mp hn
      have h1 := h s hs
      have h2 := ht s hs
      rw [if_pos (by omega)]
theorem row_len (ss : List Int) (d : Int) : (rowOf ss d).length = ss.length := List.length_map ..
theorem row_01 {ss : List Int} {d : Int} : ∀ n ∈ rowOf ss d, 0 ≤ n ∧ n ≤ 1000000000 := fun n h => by
  obtain ⟨s, _, rfl⟩ := List.mem_map.mp h
  split <;> omega
/-! pieces -/
def seg (ss : List Int) (i j : Nat) : List Int := (ss.drop i).take (j - i)
open Classical in
/-- how far a piece that is straight to l goes -/
noncomputable def ext (ss : List Int) (f : Nat) : Nat → Nat → Nat
  | 0, l => l
  | k + 1, l => if l < ss.length ∧ Strt (seg ss f (l + 1)) then ext ss f k (l + 1) else l
noncomputable def nxt (ss : List Int) (f : Nat) : Nat := ext ss f ss.length (f + 1)
noncomputable def pcs (ss : List Int) : Nat → Nat → List (Nat × Nat)
  | 0, _ => []
  | k + 1, f => if f < ss.length then (f, nxt ss f) :: pcs ss k (nxt ss f) else []
noncomputable def greedy (ss : List Int) : List (Nat × Nat) := pcs ss ss.length 0
noncomputable def gD (ss : List Int) : List D := if ss = [] then [iP 0 0] else (greedy ss).map fun p => iP p.1 p.2
theorem ext_le {ss : List Int} {f : Nat} : ∀ (k l : Nat), l ≤ ss.length → l ≤ ext ss f k l ∧ ext ss f k l ≤ ss.length
  | 0, l, h => ⟨Nat.le_refl l, h⟩
  | k + 1, l, h => by
    rw [ext]
    split
    · rename_i z
      have := ext_le (f := f) k (l + 1) z.1
      omega
    · exact ⟨Nat.le_refl l, h⟩
theorem nxt_gt {ss : List Int} {f : Nat} (h : f < ss.length) : f < nxt ss f ∧ nxt ss f ≤ ss.length := by
  have := ext_le (f := f) ss.length (f + 1) h
  unfold nxt
  omega
def T_is_cell : DSpec := fun rs β Q _ => ∃ a b : Int, rs = [.val (iP a b)] ∧ Q (.val (.bl true)) β
def T_step_between : DSpec := fun rs β Q _ => ∃ a b c d : Int, rs = [.val (iP a b), .val (iP c d)] ∧ Q (.val (iP (c - a) (d - b))) β
def T_are_cells : DSpec := fun rs β Q _ => ∃ cs ss, rs = [.val (cL cs)] ∧ IsP cs ss ∧ Q (.val (.bl true)) β
def T_check_cells : DSpec := fun rs β Q _ => ∃ cs ss, rs = [.val (cL cs)] ∧ IsP cs ss ∧ Q (.val .non) β
def T_directions_of : DSpec := fun rs β Q _ => ∃ cs ss, rs = [.val (cL cs)] ∧ IsP cs ss ∧ Q (.own (ss.map D.int)) β
def T_first_direction : DSpec := fun rs β Q _ => ∃ ss : List Int, rs = [.val (iL ss)] ∧ Dirs ss ∧ ss.length ≤ 60 ∧ (∀ d ∈ ss, Two ss d → (∀ e ∈ ss, Two ss e → d ≤ e) → Q (.val (.int d)) β) ∧ ((∀ d ∈ ss, ¬ Two ss d) → Q (.val .non) β)
def T_found_line : DSpec := fun rs β Q _ => ∃ ss : List Int, rs = [.val (iL ss)] ∧ Dirs ss ∧ ss.length ≤ 60 ∧ (Strt ss → ∀ ds, Q (.val (.tup ds)) β) ∧ (¬ Strt ss → Q (.val .non) β)
def T_is_straight : DSpec := fun rs β Q _ => ∃ cs ss, rs = [.val (cL cs)] ∧ IsP cs ss ∧ (Strt ss → Q (.val (.bl true)) β) ∧ (¬ Strt ss → Q (.val (.bl false)) β)
def T_fewest_pieces : DSpec := fun rs β Q _ => ∃ cs ss, rs = [.val (cL cs)] ∧ IsP cs ss ∧ Q (.own (gD ss)) β
theorem ext_yes {ss : List Int} {f k l : Nat} (h : l < ss.length) (st : Strt (seg ss f (l + 1))) : ext ss f (k + 1) l = ext ss f k (l + 1) := by
  rw [ext, if_pos ⟨h, st⟩]
theorem ext_no {ss : List Int} {f k l : Nat} (h : l < ss.length → ¬ Strt (seg ss f (l + 1))) : ext ss f k l = l := by
  cases k with
  | zero => rfl
  | succ k => rw [ext, if_neg fun z => h z.1 z.2]
theorem pcs_yes {ss : List Int} {f k : Nat} (h : f < ss.length) : pcs ss (k + 1) f = (f, nxt ss f) :: pcs ss k (nxt ss f) := by
  rw [pcs, if_pos h]
theorem pcs_no {ss : List Int} {f k : Nat} (h : ss.length ≤ f) : pcs ss k f = [] := by
  cases k with
  | zero => rfl
  | succ k => rw [pcs, if_neg (by omega)]
abbrev pD (p : Nat × Nat) : D := iP p.1 p.2
/-- ahead of a turn of the outer loop -/
structure PO1 (ss : List Int) (acc : List (Nat × Nat)) (f k : Nat) : Prop where
  fl : f ≤ ss.length
  fk : ss.length ≤ f + k
  al : acc.length ≤ f
  eq : acc ++ pcs ss k f = greedy ss
theorem PO1.start (ss : List Int) : PO1 ss [] 0 ss.length := ⟨Nat.zero_le _, by omega, Nat.le_refl _, rfl⟩
theorem PO1.next {ss : List Int} {acc : List (Nat × Nat)} {f k : Nat} (h : PO1 ss acc f k) (hf : f < ss.length) : ∃ k', PO1 ss (acc ++ [(f, nxt ss f)]) (nxt ss f) k' := by
  obtain ⟨a, b, c, d⟩ := h
  obtain ⟨k', rfl⟩ : ∃ k', k = k' + 1 := ⟨k - 1, by omega⟩
  have g := nxt_gt hf
  refine ⟨k', g.2, by omega, by rw [List.length_append]; simp; omega, ?_⟩
  rw [pcs_yes hf] at d
  rw [List.append_assoc]
  exact d
theorem PO1.fin {ss : List Int} {acc : List (Nat × Nat)} {f k : Nat} (h : PO1 ss acc f k) (hf : ¬ f < ss.length) : acc = greedy ss := by
  have := h.eq
  rw [pcs_no (by omega), List.append_nil] at this
  exact this
/-- ahead of a turn of the inner loop -/
structure PI1 (ss : List Int) (f l j : Nat) : Prop where
  fl : f + 1 ≤ l
  ln : l ≤ ss.length
  lj : ss.length ≤ l + j
  eq : ext ss f j l = nxt ss f
theorem PI1.start {ss : List Int} {f : Nat} (h : f < ss.length) : PI1 ss f (f + 1) ss.length := ⟨Nat.le_refl _, h, by omega, rfl⟩
theorem PI1.next {ss : List Int} {f l j : Nat} (h : PI1 ss f l j) (hl : l < ss.length) (st : Strt (seg ss f (l + 1))) : ∃ j', PI1 ss f (l + 1) j' := by
  obtain ⟨a, b, c, d⟩ := h
  obtain ⟨j', rfl⟩ : ∃ j', j = j' + 1 := ⟨j - 1, by omega⟩
  rw [ext_yes hl st] at d
  exact ⟨j', by omega, hl, by omega, d⟩
theorem PI1.fin {ss : List Int} {f l j : Nat} (h : PI1 ss f l j) (hl : l < ss.length → ¬ Strt (seg ss f (l + 1))) : l = nxt ss f := by
  have := h.eq
  rw [ext_no hl] at this
  exact this
theorem seg_len {ss : List Int} {i j : Nat} : (seg ss i j).length ≤ ss.length := by
  unfold seg
  rw [List.length_take, List.length_drop]
  omega
theorem seg_dirs {ss : List Int} (h : Dirs ss) {i j : Nat} : Dirs (seg ss i j) := fun s hs => h s (List.mem_of_mem_drop (List.mem_of_mem_take hs))
/-! ### the laws of paths: their helps -/
def EvenAt (ns : List Int) (l : Nat) : Prop := ∀ i j : Nat, i + l ≤ ns.length → j + l ≤ ns.length → hs ns (i + l) - hs ns i ≤ hs ns (j + l) - hs ns j + 1
theorem even_at {ns : List Int} : Even ns ↔ ∀ l, 1 ≤ l → l ≤ ns.length → EvenAt ns l := by
  constructor
  · intro h l _ _ i j h1 h2
    exact h i j l h1 h2
  · intro h i j l h1 h2
    by_cases z : l = 0
    · subst z; simp
    · exact h l (by omega) (by omega) i j h1 h2
def stretch (ns : List Int) (l : Nat) : List Int := (List.range (ns.length - l + 1)).map fun s => hs ns (s + l) - hs ns s
def T__law_uneven : DSpec := fun rs β Q _ => ∃ ns : List Int, rs = [.val (iL ns)] ∧ ns.length ≤ 1000 ∧ (Even ns → Q (.val .non) β) ∧
  ∀ (i j l : Nat), 1 ≤ l → l ≤ ns.length → (∀ k, 1 ≤ k → k < l → EvenAt ns k) → ¬ EvenAt ns l → idxD (.int (minL (stretch ns l))) ((stretch ns l).map D.int) = some i → idxD (.int (maxL (stretch ns l))) ((stretch ns l).map D.int) = some j → Q (.val (.tup [.int i, .int j, .int l])) β
def T__law_steps : DSpec := fun rs β Q _ => rs = [] ∧ Q (.own [iP 1 0, iP 1 1, iP 0 1, iP (-1) 1, iP (-1) 0, iP (-1) (-1), iP 0 (-1), iP 1 (-1)]) β
def T__law_direction : DSpec := fun rs β Q _ => ∃ ss : List Int, rs = [.val (iL ss)] ∧ Dirs ss ∧ ss.length ≤ 1000 ∧ (∀ d, 0 ≤ d → d < 8 → Two ss d → (∀ e, 0 ≤ e → e < d → ¬ Two ss e) → Q (.val (.int d)) β) ∧ ((∀ d, 0 ≤ d → d < 8 → ¬ Two ss d) → Q (.val .non) β)
/-- the cells of a path -/
def pth : Int × Int → List Int → List (Int × Int)
  | c, [] => [c]
  | c, s :: ss => c :: pth (c.1 + (mv s).1, c.2 + (mv s).2) ss
def T__law_path : DSpec := fun rs β Q _ => ∃ (a b : Int) (ss : List Int), rs = [.val (iP a b), .val (iL ss)] ∧ Dirs ss ∧ ss.length ≤ 1000 ∧ Q (.own ((pth (a, b) ss).map cP)) β
def T__law_is_straight : DSpec := fun rs β Q _ => ∃ ss : List Int, rs = [.val (iL ss)] ∧ Dirs ss ∧ ss.length ≤ 1000 ∧ (Strt ss → Q (.val (.bl true)) β) ∧ (¬ Strt ss → Q (.val (.bl false)) β)
def Row01 (row : List Int) : Prop := ∀ x ∈ row, x = 0 ∨ x = 1
def T__law_line_row : DSpec := fun rs β Q _ => ∃ most : Int, rs = [.gen, .val (.int most)] ∧ 0 ≤ most ∧ most ≤ 1000 ∧ 5 ≤ β ∧ ∀ row β', (row.length : Int) ≤ most → Row01 row → β = β' + 5 → Q (.own (row.map D.int)) β'
def T__law_bent_row : DSpec := fun rs β Q _ => ∃ row : List Int, rs = [.gen, .val (iL row)] ∧ row.length ≤ 1000 ∧ Row01 row ∧ 1 ≤ β ∧ ∀ row' β', row'.length ≤ row.length + 1 → Row01 row' → β ≤ β' + 1 → β' ≤ β → Q (.own (row'.map D.int)) β'
def T__law_drawn_steps : DSpec := fun rs β Q _ => ∃ most : Int, rs = [.gen, .val (.int most)] ∧ 0 ≤ most ∧ most ≤ 60 ∧ 100 ≤ β ∧ ∀ ss r β', Dirs ss → (ss.length : Int) ≤ most + 1 → (r = .val (iL ss) ∨ r = .own (ss.map D.int)) → β ≤ β' + 100 → β' ≤ β → Q r β'
def T__law_cell_drawn : DSpec := fun rs β Q _ => rs = [.gen] ∧ 3 ≤ β ∧ ∀ a b β', -100000000000000000000 ≤ a → a ≤ 100000000000000000000 → -100000000000000000000 ≤ b → b ≤ 100000000000000000000 → β = β' + 3 → Q (.val (iP a b)) β'
theorem seg_seg {α : Type} {xs : List α} {i j a b : Nat} (h1 : i ≤ a) (h2 : b ≤ j) : (((xs.drop i).take (j - i)).drop (a - i)).take (b - a) = (xs.drop a).take (b - a) := by
  refine List.ext_getElem? fun k => ?_
  by_cases c : k < b - a
  · rw [List.getElem?_take_of_lt c, List.getElem?_take_of_lt c, List.getElem?_drop, List.getElem?_take_of_lt (by omega), List.getElem?_drop, List.getElem?_drop]
    congr 1
    omega
  · rw [List.getElem?_eq_none (by rw [List.length_take]; omega), List.getElem?_eq_none (by rw [List.length_take]; omega)]
theorem hs_seg {ns : List Int} {a b : Nat} : ∀ i, i ≤ b - a → a + i ≤ ns.length → hs (seg ns a b) i = hs ns (a + i) - hs ns a
  | 0, _, _ => by simp [hs]
  | i + 1, h, h2 => by
    have ih := hs_seg (ns := ns) (a := a) (b := b) i (by omega) (by omega)
    have st : ∀ {ms : List Int} {j : Nat} (z : j < ms.length), hs ms (j + 1) = hs ms j + ms[j] := fun {ms j} z => by
      unfold hs
      rw [List.take_succ, List.getElem?_eq_getElem z, List.sum_append]
      simp
    have l1 : i < (seg ns a b).length := by unfold seg; rw [List.length_take, List.length_drop]; omega
    have e : (seg ns a b)[i] = ns[a + i] := by
      have q : (seg ns a b)[i]? = ns[a + i]? := by
        unfold seg
        rw [List.getElem?_take_of_lt (by omega), List.getElem?_drop]
      rw [List.getElem?_eq_getElem l1, List.getElem?_eq_getElem (by omega)] at q
      exact Option.some.inj q
    rw [st l1, ih, e, ← Nat.add_assoc, st (show a + i < ns.length by omega)]
    omega
theorem even_seg {ns : List Int} (h : Even ns) (a b : Nat) : Even (seg ns a b) := fun i j l h1 h2 => by
  have e : (seg ns a b).length = min (b - a) (ns.length - a) := by unfold seg; rw [List.length_take, List.length_drop]
  by_cases z : a ≤ ns.length
  · rw [e] at h1 h2
    rw [hs_seg (i + l) (by omega) (by omega), hs_seg i (by omega) (by omega), hs_seg (j + l) (by omega) (by omega), hs_seg j (by omega) (by omega)]
    have := h (a + i) (a + j) l (by omega) (by omega)
    rw [Nat.add_assoc, Nat.add_assoc] at this
    omega
  · rw [e] at h1 h2
    have : l = 0 := by omega
    subst this
    simp
theorem row_seg {ss : List Int} {d : Int} {a b : Nat} : rowOf (seg ss a b) d = seg (rowOf ss d) a b := by
  unfold rowOf seg
  rw [List.map_take, List.map_drop]
theorem strt_seg {ss : List Int} (h : Strt ss) (a b : Nat) : Strt (seg ss a b) := by
  obtain ⟨d, d0, d8, ht, ev⟩ := h
  refine ⟨d, d0, d8, fun s hs => ht s (List.mem_of_mem_drop (List.mem_of_mem_take hs)), ?_⟩
  rw [row_seg]
  exact even_seg ev a b
/-- a stretch of a straight piece is straight -/
theorem strt_in {ss : List Int} {i j a b : Nat} (h : Strt (seg ss i j)) (h1 : i ≤ a) (h2 : b ≤ j) : Strt (seg ss a b) := by
  have := strt_seg h (a - i) (b - i)
  unfold seg at this ⊢
  rw [show b - i - (a - i) = b - a by omega, seg_seg h1 h2] at this
  exact this
theorem strt_one {ss : List Int} (hd : Dirs ss) (h : ss.length ≤ 1) : Strt ss := by
  cases ss with
  | nil => exact strt_nil
  | cons s ss =>
    have : ss = [] := List.length_eq_zero_iff.mp (by rw [List.length_cons] at h; omega)
    subst this
    have d := hd s (List.mem_singleton.mpr rfl)
    refine ⟨s, d.1, d.2, fun t ht => .inl (List.mem_singleton.mp ht), even_const (k := 0) fun n hn => ?_⟩
    rw [rowOf, List.map_singleton, List.mem_singleton, if_pos rfl] at hn
    exact hn
theorem ext_strt {ss : List Int} {f : Nat} : ∀ (k l : Nat), (∀ m, f + 1 < m → m ≤ l → Strt (seg ss f m)) → ∀ m, f + 1 < m → m ≤ ext ss f k l → Strt (seg ss f m)
  | 0, _, h => h
  | k + 1, l, h => by
    rw [ext]
    split
    · rename_i z
      refine ext_strt k (l + 1) fun m h1 h2 => ?_
      by_cases c : m = l + 1
      · rw [c]; exact z.2
      · exact h m h1 (by omega)
    · exact h
theorem ext_max {ss : List Int} {f : Nat} : ∀ (k l : Nat), ss.length ≤ l + k → ext ss f k l < ss.length → ¬ Strt (seg ss f (ext ss f k l + 1))
  | 0, l, h, z => by rw [ext] at z; omega
  | k + 1, l, h, z => by
    rw [ext] at z ⊢
    split
    · rename_i c
      rw [if_pos c] at z
      exact ext_max k (l + 1) (by omega) z
    · rename_i c
      rw [if_neg c] at z
      exact fun st => c ⟨z, st⟩
theorem nxt_strt {ss : List Int} (hd : Dirs ss) {f m : Nat} (h1 : f < m) (h2 : m ≤ nxt ss f) : Strt (seg ss f m) := by
  by_cases c : m = f + 1
  · refine strt_one (seg_dirs hd) ?_
    unfold seg
    rw [List.length_take]
    omega
  · exact ext_strt ss.length (f + 1) (fun m a b => by omega) m (by omega) h2
theorem nxt_max {ss : List Int} {f : Nat} (h : nxt ss f < ss.length) : ¬ Strt (seg ss f (nxt ss f + 1)) := ext_max ss.length (f + 1) (by omega) h
/-- where the greedy pieces are cut -/
noncomputable def cutp (ss : List Int) : Nat → Nat
  | 0 => 0
  | i + 1 => if cutp ss i < ss.length then nxt ss (cutp ss i) else cutp ss i
theorem cutp_mono {ss : List Int} : ∀ i j, i ≤ j → cutp ss i ≤ cutp ss j
  | i, 0, h => by rw [Nat.le_zero.mp h]; exact Nat.le_refl _
  | i, j + 1, h => by
    by_cases c : i = j + 1
    · rw [c]; exact Nat.le_refl _
    · have ih := cutp_mono (ss := ss) i j (by omega)
      rw [cutp]
      split
      · have := nxt_gt (ss := ss) (f := cutp ss j) (by assumption)
        omega
      · exact ih
/-- k pieces are needed to reach e -/
def Cnt (ss : List Int) (e k : Nat) : Prop := (k = 0 ∧ e = 0) ∨ ∃ j, k = j + 1 ∧ cutp ss j < e ∧ e ≤ cutp ss (j + 1)
theorem Cnt.uniq {ss : List Int} {e k l : Nat} (h : Cnt ss e k) (g : Cnt ss e l) : k = l := by
  rcases h with ⟨rfl, rfl⟩ | ⟨j, rfl, a, b⟩
  · rcases g with ⟨rfl, _⟩ | ⟨j, rfl, a, b⟩
    · rfl
    · omega
  · rcases g with ⟨rfl, rfl⟩ | ⟨i, rfl, c, d⟩
    · omega
    · rcases Nat.lt_trichotomy i j with z | z | z
      · have := cutp_mono (ss := ss) (i + 1) j z; omega
      · rw [z]
      · have := cutp_mono (ss := ss) (j + 1) i z; omega
theorem Cnt.le {ss : List Int} {e k : Nat} (h : Cnt ss e k) : e ≤ cutp ss k := by
  rcases h with ⟨rfl, rfl⟩ | ⟨j, rfl, _, b⟩
  · exact Nat.zero_le _
  · exact b
theorem cnt_cut {ss : List Int} {j : Nat} (h : cutp ss j < ss.length) : Cnt ss (cutp ss j) j := by
  cases j with
  | zero => exact .inl ⟨rfl, rfl⟩
  | succ j =>
    refine .inr ⟨j, rfl, ?_, Nat.le_refl _⟩
    have c : cutp ss j < ss.length := by
      have := cutp_mono (ss := ss) j (j + 1) (by omega)
      omega
    rw [cutp, if_pos c]
    exact (nxt_gt c).1
/-- the least of the candidates is what is needed -/
theorem cnt_min {ss : List Int} (hd : Dirs ss) {e k : Nat} (he : e ≤ ss.length) (e0 : 1 ≤ e) (att : ∃ s, s < e ∧ Strt (seg ss s e) ∧ ∃ c, Cnt ss s c ∧ k = c + 1) (low : ∀ s c, s < e → Strt (seg ss s e) → Cnt ss s c → k ≤ c + 1) : Cnt ss e k := by
  obtain ⟨s, hs, st, c, hc, rfl⟩ := att
  -- the piece in which e lies
  have ex : ∃ j, cutp ss j < e ∧ e ≤ cutp ss (j + 1) := by
    have grow : ∀ i, i ≤ cutp ss i ∨ ss.length ≤ cutp ss i := by
      intro i
      induction i with
      | zero => left; exact Nat.zero_le _
      | succ i ih =>
        rw [cutp]
        split
        · rename_i z
          have := nxt_gt z
          omega
        · right; omega
    have top : ∃ i, e ≤ cutp ss i := ⟨e, by have := grow e; omega⟩
    have go : ∀ i, e ≤ cutp ss i → ∃ j, cutp ss j < e ∧ e ≤ cutp ss (j + 1) := by
      intro i
      induction i with
      | zero =>
        intro h
        have : cutp ss 0 = 0 := rfl
        omega
      | succ i ih =>
        intro h
        by_cases z : e ≤ cutp ss i
        · exact ih z
        · exact ⟨i, by omega, h⟩
    obtain ⟨i, hi⟩ := top
    exact go i hi
  obtain ⟨j, j1, j2⟩ := ex
  have jl : cutp ss j < ss.length := by omega
  have up := low (cutp ss j) j j1 (by
    rw [cutp, if_pos jl] at j2
    exact nxt_strt hd j1 j2) (cnt_cut jl)
  have dn : j ≤ c := by
    refine Nat.le_of_not_lt fun z => ?_
    have le := hc.le
    obtain ⟨i, rfl⟩ : ∃ i, j = i + 1 := ⟨j - 1, by omega⟩
    have m := cutp_mono (ss := ss) c i (by omega)
    have il : cutp ss i < ss.length := by
      have := cutp_mono (ss := ss) i (i + 1) (by omega)
      omega
    have cu : cutp ss (i + 1) = nxt ss (cutp ss i) := by rw [cutp, if_pos il]
    rw [cu] at j1 jl
    exact nxt_max jl (strt_in st (by omega) (by omega))
  exact .inr ⟨j, by omega, j1, j2⟩
theorem pcs_cut {ss : List Int} : ∀ (k i : Nat), ss.length ≤ cutp ss i + k → cutp ss i ≤ ss.length → cutp ss (i + (pcs ss k (cutp ss i)).length) = ss.length ∧ ∀ j, i ≤ j → j < i + (pcs ss k (cutp ss i)).length → cutp ss j < ss.length
  | 0, i, h, h2 => by
    rw [pcs]
    exact ⟨by rw [List.length_nil, Nat.add_zero]; omega, fun j a b => by rw [List.length_nil] at b; omega⟩
  | k + 1, i, h, h2 => by
    by_cases z : cutp ss i < ss.length
    · have e : cutp ss (i + 1) = nxt ss (cutp ss i) := by rw [cutp, if_pos z]
      have g := nxt_gt z
      have ih := pcs_cut (ss := ss) k (i + 1) (by omega) (by omega)
      rw [pcs_yes z, ← e, List.length_cons]
      rw [show i + ((pcs ss k (cutp ss (i + 1))).length + 1) = i + 1 + (pcs ss k (cutp ss (i + 1))).length by omega]
      refine ⟨ih.1, fun j a b => ?_⟩
      by_cases c : j = i
      · rw [c]; exact z
      · exact ih.2 j (by omega) b
    · rw [pcs_no (by omega)]
      exact ⟨by rw [List.length_nil, Nat.add_zero]; omega, fun j a b => by rw [List.length_nil] at b; omega⟩
theorem cnt_greedy {ss : List Int} (ne : ss ≠ []) : Cnt ss ss.length (greedy ss).length := by
  have h0 : 0 < ss.length := List.length_pos_iff.mpr ne
  have q := pcs_cut (ss := ss) ss.length 0 (by omega) (Nat.zero_le _)
  have e0 : cutp ss 0 = 0 := rfl
  rw [e0, Nat.zero_add] at q
  unfold greedy
  generalize hL : (pcs ss ss.length 0).length = L at q
  cases L with
  | zero => rw [e0] at q; omega
  | succ L => exact .inr ⟨L, rfl, q.2 L (Nat.zero_le _) (by omega), by rw [q.1]; exact Nat.le_refl _⟩
def T__law_fewest : DSpec := fun rs β Q _ => ∃ ss : List Int, rs = [.val (iL ss)] ∧ Dirs ss ∧ ss ≠ [] ∧ ss.length ≤ 60 ∧ Q (.val (.int (greedy ss).length)) β
abbrev T_law : DSpec := tLaw
/-! ### cells that a path goes through -/
theorem pth_get : ∀ (ss : List Int) (c : Int × Int) (i : Nat), i < ss.length → ((pth c ss).getD (i + 1) (0, 0)).1 - ((pth c ss).getD i (0, 0)).1 = (mv (ss.getD i 0)).1 ∧ ((pth c ss).getD (i + 1) (0, 0)).2 - ((pth c ss).getD i (0, 0)).2 = (mv (ss.getD i 0)).2
  | [], c, i, h => by cases h
  | s :: ss, c, 0, h => by
    rw [pth]
    cases ss with
    | nil =>
      simp only [pth, List.getD_cons_succ, List.getD_cons_zero]
      omega
    | cons t ts =>
      simp only [pth, List.getD_cons_succ, List.getD_cons_zero]
      omega
  | s :: ss, c, i + 1, h => by
    rw [pth]
    simp only [List.getD_cons_succ]
    exact pth_get ss _ i (by simpa using h)
theorem pth_isp {c : Int × Int} {ss : List Int} (hd : Dirs ss) (hl : ss.length ≤ 60) : IsP (pth c ss) ss := ⟨by
  have : ∀ (ss : List Int) (c : Int × Int), (pth c ss).length = ss.length + 1 := by
    intro ss
    induction ss with
    | nil => intro c; rfl
    | cons s ss ih => intro c; rw [pth, List.length_cons, ih, List.length_cons]
  exact this ss c, hl, hd, fun i hi => pth_get ss c i hi⟩
theorem mv_le {s : Int} (h0 : 0 ≤ s) (h8 : s < 8) : (-1 ≤ (mv s).1 ∧ (mv s).1 ≤ 1) ∧ -1 ≤ (mv s).2 ∧ (mv s).2 ≤ 1 := by
  have : s = 0 ∨ s = 1 ∨ s = 2 ∨ s = 3 ∨ s = 4 ∨ s = 5 ∨ s = 6 ∨ s = 7 := by omega
  rcases this with rfl | rfl | rfl | rfl | rfl | rfl | rfl | rfl <;> decide
theorem pth_near {B : Int} : ∀ (ss : List Int) (c : Int × Int), Dirs ss → -B ≤ c.1 → c.1 ≤ B → -B ≤ c.2 → c.2 ≤ B → ∀ x ∈ pth c ss, (-B - ss.length ≤ x.1 ∧ x.1 ≤ B + ss.length) ∧ -B - ss.length ≤ x.2 ∧ x.2 ≤ B + ss.length
  | [], c, _, a, b, d, e, x, hx => by
    rw [pth, List.mem_singleton] at hx
    subst hx
    simp
    omega
  | s :: ss, c, hd, a, b, d, e, x, hx => by
    rw [pth] at hx
    have l : ((s :: ss).length : Int) = (ss.length : Int) + 1 := by simp
    rcases List.mem_cons.mp hx with rfl | hx
    · omega
    · have m := hd s (List.mem_cons_self ..)
      have q := mv_le m.1 m.2
      have ih := pth_near (B := B + 1) ss _ (fun t ht => hd t (List.mem_cons_of_mem _ ht)) (by show -(B + 1) ≤ c.1 + (mv s).1; omega) (by show c.1 + (mv s).1 ≤ B + 1; omega) (by show -(B + 1) ≤ c.2 + (mv s).2; omega) (by show c.2 + (mv s).2 ≤ B + 1; omega) x hx
      omega
theorem isp_seg {cs : List (Int × Int)} {ss : List Int} (h : IsP cs ss) {f l : Nat} (h1 : f ≤ l) (h2 : l ≤ ss.length) : IsP ((cs.drop f).take (l + 1 - f)) (seg ss f l) := by
  have hl := h.len
  have sl : (seg ss f l).length = l - f := by unfold seg; rw [List.length_take, List.length_drop]; omega
  refine ⟨by rw [sl, List.length_take, List.length_drop]; omega, by rw [sl]; have := h.few; omega, seg_dirs h.dir, fun i hi => ?_⟩
  rw [sl] at hi
  have e : ∀ k, k < l + 1 - f → ((cs.drop f).take (l + 1 - f)).getD k (0, 0) = cs.getD (f + k) (0, 0) := fun k hk => by
    rw [List.getD_eq_getElem?_getD, List.getElem?_take_of_lt hk, List.getElem?_drop, List.getD_eq_getElem?_getD]
  have e2 : (seg ss f l).getD i 0 = ss.getD (f + i) 0 := by
    unfold seg
    rw [List.getD_eq_getElem?_getD, List.getElem?_take_of_lt hi, List.getElem?_drop, List.getD_eq_getElem?_getD]
  rw [e _ (by omega), e _ (by omega), e2, ← Nat.add_assoc]
  exact h.step (f + i) (by omega)
theorem pcs_mem {ss : List Int} (hd : Dirs ss) : ∀ (k f : Nat) (p : Nat × Nat), p ∈ pcs ss k f → p.1 < p.2 ∧ p.2 ≤ ss.length ∧ Strt (seg ss p.1 p.2)
  | 0, f, p, h => by rw [pcs] at h; cases h
  | k + 1, f, p, h => by
    rw [pcs] at h
    split at h
    · rename_i z
      have g := nxt_gt z
      rcases List.mem_cons.mp h with rfl | h
      · exact ⟨g.1, g.2, nxt_strt hd g.1 (Nat.le_refl _)⟩
      · exact pcs_mem hd k _ p h
    · cases h
theorem pcs_len {ss : List Int} : ∀ (k f : Nat), (pcs ss k f).length ≤ k
  | 0, f => Nat.le_refl _
  | k + 1, f => by
    rw [pcs]
    split
    · rw [List.length_cons]
      have := pcs_len (ss := ss) k (nxt ss f)
      omega
    · exact Nat.zero_le _
theorem one_iff {ss : List Int} (ne : ss ≠ []) (hd : Dirs ss) : (greedy ss).length = 1 ↔ Strt ss := by
  have c := cnt_greedy ne
  have h0 : 0 < ss.length := List.length_pos_iff.mpr ne
  have c1 : cutp ss 1 = nxt ss 0 := by
    rw [cutp, show cutp ss 0 = 0 from rfl, if_pos h0]
  have g := nxt_gt h0
  have whole : seg ss 0 ss.length = ss := by
    unfold seg
    rw [List.drop_zero, Nat.sub_zero, List.take_length]
  constructor
  · intro e
    rw [e] at c
    have := c.le
    rw [c1] at this
    have q := nxt_strt hd h0 this
    rw [whole] at q
    exact q
  · intro st
    have : nxt ss 0 = ss.length := by
      by_cases z : nxt ss 0 < ss.length
      · exact absurd (strt_in (a := 0) (b := nxt ss 0 + 1) (by rw [whole]; exact st : Strt (seg ss 0 ss.length)) (Nat.le_refl _) (by omega)) (nxt_max z)
      · omega
    exact c.uniq (.inr ⟨0, rfl, h0, by rw [c1, this]; exact Nat.le_refl _⟩)
instance (ns : List Int) : Decidable (Even ns) := decidable_of_iff (∀ i, i < ns.length + 1 → ∀ j, j < ns.length + 1 → ∀ l, l < ns.length + 1 → i + l ≤ ns.length → j + l ≤ ns.length → hs ns (i + l) - hs ns i ≤ hs ns (j + l) - hs ns j + 1)
  ⟨fun h i j l h1 h2 => h i (by omega) j (by omega) l (by omega) h1 h2, fun h i _ j _ l _ h1 h2 => h i j l h1 h2⟩
theorem gD_nil : gD [] = [iP 0 0] := by
  unfold gD
  rw [if_pos rfl]
theorem gD_one : gD [1] = [iP 0 1] := by
  have n0 : nxt [1] 0 = 1 := by
    unfold nxt
    exact ext_no fun h => absurd h (by decide)
  have g : greedy [1] = [(0, 1)] := by
    unfold greedy
    show pcs [1] 1 0 = _
    rw [pcs_yes (by decide), n0, pcs]
  unfold gD
  rw [if_neg (by decide), g]
  rfl
theorem gD_five : gD [0, 0, 1, 1, 2] = [iP 0 3, iP 3 5] := by
  have s1 : Strt (seg [0, 0, 1, 1, 2] 0 2) := ⟨0, by decide, by decide, by decide, by decide⟩
  have s2 : Strt (seg [0, 0, 1, 1, 2] 0 3) := ⟨0, by decide, by decide, by decide, by decide⟩
  have n1 : ¬ Strt (seg [0, 0, 1, 1, 2] 0 4) := fun st => absurd ((strt_any (ss := [0, 0, 1, 1]) (d := 0) (fun s hs => by simp at hs; omega) (by decide) (by decide) (by decide)).mp st) (by decide)
  have s3 : Strt (seg [0, 0, 1, 1, 2] 3 5) := ⟨1, by decide, by decide, by decide, by decide⟩
  have e0 : nxt [0, 0, 1, 1, 2] 0 = 3 := by
    unfold nxt
    show ext [0, 0, 1, 1, 2] 0 5 1 = 3
    rw [ext_yes (by decide) s1, ext_yes (by decide) s2, ext_no fun _ => n1]
  have e1 : nxt [0, 0, 1, 1, 2] 3 = 5 := by
    unfold nxt
    show ext [0, 0, 1, 1, 2] 3 5 4 = 5
    rw [ext_yes (by decide) s3, ext_no fun h => absurd h (by decide)]
  have g : greedy [0, 0, 1, 1, 2] = [(0, 3), (3, 5)] := by
    unfold greedy
    show pcs [0, 0, 1, 1, 2] 5 0 = _
    rw [pcs_yes (by decide), e0, pcs_yes (by decide), e1, pcs_no (by decide)]
  unfold gD
  rw [if_neg (by decide), g]
  rfl
end DL
namespace DL
open PySem L2
def c_MOST_ROW : D := (.int 60)
def c_NOUGHT : D := (.tup [(.int 0), (.int 1)])
def c_STEPS : D := (.lst [(.tup [(.int 1), (.int 0)]), (.tup [(.int 1), (.int 1)]), (.tup [(.int 0), (.int 1)]), (.tup [(.int (-1)), (.int 1)]), (.tup [(.int (-1)), (.int 0)]), (.tup [(.int (-1)), (.int (-1))]), (.tup [(.int 0), (.int (-1))]), (.tup [(.int 1), (.int (-1))])])
/-- is_whole -/
def b_is_whole : DS :=
 (dRet (dAndV (dUn (fIsi [.int]) (dVar 0)) (dNotV (dUn (fIsi [.bool]) (dVar 0)))))
def N_is_whole : List Str := ["value"]
/-- lowest -/
def b_lowest : DS :=
 (dSeq (dSetV 2 (dBin fGcd (dVar 0) (dVar 1)))
 (dSeq (dIfS (dTest (dBin fLt (dVar 1) (dC (.int 0))))
 (dSetV 2 (dUn fNeg (dVar 2)))
 dNext)
 (dRet (dTup (dCons (dBin fDiv (dVar 0) (dVar 2)) (dCons (dBin fDiv (dVar 1) (dVar 2)) dNil))))))
def N_lowest : List Str := ["number", "bottom", "common"]
/-- is_less -/
def b_is_less : DS :=
 (dRet (dBin fLt (dBin fMul (dBin fIx (dVar 0) (dC (.int 0))) (dBin fIx (dVar 1) (dC (.int 1)))) (dBin fMul (dBin fIx (dVar 1) (dC (.int 0))) (dBin fIx (dVar 0) (dC (.int 1))))))
def N_is_less : List Str := ["one", "other"]
/-- heights -/
def b_heights : DS :=
 (dSeq (dSet 1 (dLst (dCons (dC (.int 0)) dNil)))
 (dSeq (dFor (diList (dVar 0)) (dgName 2)
 (dApp 1 (dBin fPlus (dBin fIx (dVar 1) (dUn fNeg (dC (.int 1)))) (dVar 2))))
 (dRet (dVar 1))))
def N_heights : List Str := ["row", "told", "letter"]
/-- put_together -/
def b_put_together : DS :=
 (dSeq (dSet2 2 3 (dFz (dVar 1)) (dFz (dC (.int 1))))
 (dSeq (dFor (diList (dUn fRev (dVar 0))) (dgName 4)
 (dSet2 2 3 (dFz (dBin fPlus (dBin fMul (dVar 4) (dVar 2)) (dVar 3))) (dFz (dVar 2))))
 (dRet (dTup (dCons (dVar 2) (dCons (dVar 3) dNil))))))
def N_put_together : List Str := ["wholes", "last", "number", "bottom", "whole"]
/-- found_inside -/
def b_found_inside : DS :=
 (dSeq (dSet 2 (dLst dNil))
 (dSeq (dSetV 3 (dBin fDiv (dBin fIx (dVar 0) (dC (.int 0))) (dBin fIx (dVar 0) (dC (.int 1)))))
 (dSeq (dWhile (dTest (dBin fGe (dBin fMul (dBin fPlus (dVar 3) (dC (.int 1))) (dBin fIx (dVar 1) (dC (.int 1)))) (dBin fIx (dVar 1) (dC (.int 0)))))
 (dSeq (dApp 2 (dVar 3))
 (dSeq (dSetV 4 (dIf (dTest (dBin (fEq false) (dBin fIx (dVar 0) (dC (.int 0))) (dBin fMul (dVar 3) (dBin fIx (dVar 0) (dC (.int 1)))))) (dTup (dCons (dC (.int 1)) (dCons (dC (.int 0)) dNil))) (dTup (dCons (dBin fIx (dVar 0) (dC (.int 1))) (dCons (dBin fSub (dBin fIx (dVar 0) (dC (.int 0))) (dBin fMul (dVar 3) (dBin fIx (dVar 0) (dC (.int 1))))) dNil)))))
 (dSeq (dSet2 0 1 (dFz (dTup (dCons (dBin fIx (dVar 1) (dC (.int 1))) (dCons (dBin fSub (dBin fIx (dVar 1) (dC (.int 0))) (dBin fMul (dVar 3) (dBin fIx (dVar 1) (dC (.int 1))))) dNil)))) (dFz (dVar 4)))
 (dSetV 3 (dBin fDiv (dBin fIx (dVar 0) (dC (.int 0))) (dBin fIx (dVar 0) (dC (.int 1)))))))))
 (dFrz 2 (dRet (dCall T_put_together noE (dCons (dVar 2) (dCons (dBin fPlus (dVar 3) (dC (.int 1))) dNil))))))))
def N_found_inside : List Str := ["least", "most", "wholes", "whole", "end"]
/-- rates_between -/
def b_rates_between : DS :=
 (dSeq (dSetV 1 (dC .non))
 (dSeq (dSetV 2 (dC .non))
 (dSeq (dFor (diR1 (dUn fLen (dVar 0))) (dgName 3)
 (dFor (diR2 (dBin fPlus (dVar 3) (dC (.int 1))) (dUn fLen (dVar 0))) (dgName 4)
 (dSeq (dSetV 5 (dCall T_lowest noE (dCons (dBin fSub (dBin fSub (dBin fIx (dVar 0) (dVar 4)) (dBin fIx (dVar 0) (dVar 3))) (dC (.int 1))) (dCons (dBin fSub (dVar 4) (dVar 3)) dNil))))
 (dSeq (dSetV 6 (dCall T_lowest noE (dCons (dBin fPlus (dBin fSub (dBin fIx (dVar 0) (dVar 4)) (dBin fIx (dVar 0) (dVar 3))) (dC (.int 1))) (dCons (dBin fSub (dVar 4) (dVar 3)) dNil))))
 (dSeq (dSetV 1 (dIf (dOr (dTest (dBin (fIs false) (dVar 1) (dC .non))) (dTest (dCall T_is_less noE (dCons (dVar 1) (dCons (dVar 5) dNil))))) (dVar 5) (dVar 1)))
 (dSetV 2 (dIf (dOr (dTest (dBin (fIs false) (dVar 2) (dC .non))) (dTest (dCall T_is_less noE (dCons (dVar 6) (dCons (dVar 2) dNil))))) (dVar 6) (dVar 2))))))))
 (dRet (dTup (dCons (dVar 1) (dCons (dVar 2) dNil)))))))
def N_rates_between : List Str := ["sums", "low", "high", "start", "end", "least", "most"]
/-- found_formula -/
def b_found_formula : DS :=
 (dSeq (dSetV 1 (dCall T_heights noE (dCons (dVar 0) dNil)))
 (dSeq (dSetG (dgTup [2, 3]) (dCall T_rates_between noE (dCons (dVar 1) dNil)))
 (dSeq (dIfS (dNot (dTest (dCall T_is_less noE (dCons (dVar 2) (dCons (dVar 3) dNil)))))
 (dRet (dC .non))
 dNext)
 (dSeq (dSetG (dgTup [4, 5]) (dIf (dTest (dBin fLt (dBin fIx (dVar 2) (dC (.int 0))) (dC (.int 0)))) (dTup (dCons (dC (.int 0)) (dCons (dC (.int 1)) dNil))) (dCall T_found_inside noE (dCons (dVar 2) (dCons (dVar 3) dNil)))))
 (dSeq (dSetV 6 (dUn fMax (dLc (diEnum (dVar 1)) (dgTup [7, 8]) dYes (dBin fSub (dBin fMul (dVar 5) (dVar 8)) (dBin fMul (dVar 4) (dVar 7))) [7, 8])))
 (dRet (dTup (dCons (dVar 4) (dCons (dVar 6) (dCons (dVar 5) dNil))))))))))
def N_found_formula : List Str := ["lengths", "sums", "low", "high", "factor", "divisor", "start", "place", "total"]
/-- is_cell -/
def b_is_cell : DS :=
 (dRet (dAndV (dUn (fIsi [.tuple]) (dVar 0)) (dAndV (dBin (fEq false) (dUn fLen (dVar 0)) (dC (.int 2))) (dAndV (dCall T_is_whole noE (dCons (dBin fIx (dVar 0) (dC (.int 0))) dNil)) (dCall T_is_whole noE (dCons (dBin fIx (dVar 0) (dC (.int 1))) dNil))))))
def N_is_cell : List Str := ["value"]
/-- step_between -/
def b_step_between : DS :=
 (dRet (dTup (dCons (dBin fSub (dBin fIx (dVar 1) (dC (.int 0))) (dBin fIx (dVar 0) (dC (.int 0)))) (dCons (dBin fSub (dBin fIx (dVar 1) (dC (.int 1))) (dBin fIx (dVar 0) (dC (.int 1)))) dNil))))
def N_step_between : List Str := ["cell", "other"]
/-- are_cells -/
def b_are_cells : DS :=
 (dSeq (dIfS (dOr (dNot (dTest (dUn (fIsi [.list]) (dVar 0)))) (dNot (dTest (dChain fLe fLe (dC (.int 1)) (dUn fLen (dVar 0)) (dBin fPlus (dC c_MOST_ROW) (dC (.int 1)))))))
 (dRet (dC (.bl false)))
 dNext)
 (dSeq (dIfS (dTest (dBin (fEq true) (dLc (diList (dVar 0)) (dgName 1) (dNot (dTest (dCall T_is_cell noE (dCons (dVar 1) dNil)))) (dVar 1) [1]) (dLst dNil)))
 (dRet (dC (.bl false)))
 dNext)
 (dRet (dBin (fEq false) (dLc (diR2 (dC (.int 1)) (dUn fLen (dVar 0))) (dgName 2) (dTest (dBin (fIn true) (dCall T_step_between noE (dCons (dBin fIx (dVar 0) (dBin fSub (dVar 2) (dC (.int 1)))) (dCons (dBin fIx (dVar 0) (dVar 2)) dNil))) (dC c_STEPS))) (dVar 2) [2]) (dLst dNil)))))
def N_are_cells : List Str := ["value", "cell", "at"]
/-- check_cells -/
def b_check_cells : DS :=
 (dIfS (dNot (dTest (dCall T_are_cells noE (dCons (dVar 0) dNil))))
 dNever
 dNext)
def N_check_cells : List Str := ["cells"]
/-- directions_of -/
def b_directions_of : DS :=
 (dRet (dLc (diR2 (dC (.int 1)) (dUn fLen (dVar 0))) (dgName 1) dYes (dMeth1 fIndex (dC c_STEPS) (dCall T_step_between noE (dCons (dBin fIx (dVar 0) (dBin fSub (dVar 1) (dC (.int 1)))) (dCons (dBin fIx (dVar 0) (dVar 1)) dNil)))) [1]))
def N_directions_of : List Str := ["cells", "at"]
/-- first_direction -/
def b_first_direction : DS :=
 (dSeq (dFor (diList (dUn fSortSet (dVar 0))) (dgName 1)
 (dIfS (dTest (dBin (fEq false) (dLc (diList (dVar 0)) (dgName 2) (dTest (dBin (fIn true) (dVar 2) (dTup (dCons (dVar 1) (dCons (dBin fMod (dBin fPlus (dVar 1) (dC (.int 1))) (dUn fLen (dC c_STEPS))) dNil))))) (dVar 2) [2]) (dLst dNil)))
 (dRet (dVar 1))
 dNext))
 (dRet (dC .non)))
def N_first_direction : List Str := ["steps", "direction", "step"]
/-- found_line -/
def b_found_line : DS :=
 (dSeq (dIfS (dTest (dBin (fEq false) (dVar 0) (dLst dNil)))
 (dRet (dTup (dCons (dC (.int 0)) (dCons (dTup (dCons (dC c_NOUGHT) (dCons (dC c_NOUGHT) dNil))) dNil))))
 dNext)
 (dSeq (dSetV 1 (dCall T_first_direction noE (dCons (dVar 0) dNil)))
 (dSeq (dIfS (dTest (dBin (fIs false) (dVar 1) (dC .non)))
 (dRet (dC .non))
 dNext)
 (dSeq (dSetV 2 (dCall T_found_formula noE (dCons (dLc (diList (dVar 0)) (dgName 3) dYes (dUn fInt (dBin (fEq true) (dVar 3) (dVar 1))) [3]) dNil)))
 (dSeq (dIfS (dTest (dBin (fIs false) (dVar 2) (dC .non)))
 (dRet (dC .non))
 dNext)
 (dSeq (dSetG (dgTup [4, 5, 6]) (dVar 2))
 (dRet (dTup (dCons (dVar 1) (dCons (dTup (dCons (dCall T_lowest noE (dCons (dVar 4) (dCons (dVar 6) dNil))) (dCons (dCall T_lowest noE (dCons (dVar 5) (dCons (dVar 6) dNil))) dNil))) dNil))))))))))
def N_found_line : List Str := ["steps", "direction", "formula", "step", "factor", "start", "divisor"]
/-- is_straight -/
def b_is_straight : DS :=
 (dSeq (dDrop (dCall T_check_cells noE (dCons (dVar 0) dNil)))
 (dRet (dBin (fIs true) (dCall T_found_line noE (dCons (dCall T_directions_of noE (dCons (dVar 0) dNil)) dNil)) (dC .non))))
def N_is_straight : List Str := ["cells"]
/-- fewest_pieces -/
def b_fewest_pieces : DS :=
 (dSeq (dDrop (dCall T_check_cells noE (dCons (dVar 0) dNil)))
 (dSeq (dIfS (dTest (dBin (fEq false) (dUn fLen (dVar 0)) (dC (.int 1))))
 (dRet (dLst (dCons (dTup (dCons (dC (.int 0)) (dCons (dC (.int 0)) dNil))) dNil)))
 dNext)
 (dSeq (dSetV 1 (dCall T_directions_of noE (dCons (dVar 0) dNil)))
 (dSeq (dSet 2 (dLst dNil))
 (dSeq (dSetV 3 (dC (.int 0)))
 (dSeq (dWhile (dTest (dBin fLt (dVar 3) (dUn fLen (dVar 1))))
 (dSeq (dSetV 4 (dBin fPlus (dVar 3) (dC (.int 1))))
 (dSeq (dWhile (dAnd (dTest (dBin fLt (dVar 4) (dUn fLen (dVar 1)))) (dTest (dBin (fIs true) (dCall T_found_line noE (dCons (dSl (dVar 1) (dPart (dVar 3)) (dPart (dBin fPlus (dVar 4) (dC (.int 1))))) dNil)) (dC .non))))
 (dSetV 4 (dBin fPlus (dVar 4) (dC (.int 1)))))
 (dSeq (dApp 2 (dTup (dCons (dVar 3) (dCons (dVar 4) dNil))))
 (dSetV 3 (dVar 4))))))
 (dRet (dVar 2))))))))
def N_fewest_pieces : List Str := ["cells", "steps", "pieces", "first", "last"]
/-- _law_hash -/
def b__law_hash : DS :=
 (dSeq (dSetV 2 (dBin fMod (dUn fInt (dBin fPlus (dBin fPlus (dBin fPlus (dBin fMul (dVar 0) (dC (.int 1140671))) (dBin fMul (dBin fMul (dC (.int 27644437)) (dVar 1)) (dVar 1))) (dBin fMul (dC (.int 131)) (dVar 1))) (dC (.int 19)))) (dC (.int 2147483629))))
 (dSeq (dSetV 2 (dBin fMod (dUn fInt (dBin fPlus (dBin fPlus (dBin fMul (dVar 2) (dVar 2)) (dBin fMul (dC (.int 62089)) (dVar 1))) (dC (.int 32416187)))) (dC (.int 2147483587))))
 (dRet (dBin fMod (dUn fInt (dBin fMul (dVar 2) (dC (.int 48271)))) (dC (.int 2147483647))))))
def N__law_hash : List Str := ["seed", "index", "mixed"]
/-- _law_cell -/
def b__law_cell : DS :=
 (dSeq (dIfS (dTest (dBin fLt (dVar 1) (dUn fLen (dVar 0))))
 (dRet (dBin fIx (dVar 0) (dVar 1)))
 dNext)
 (dRet (dBin fMod (dUn fSum (dSl (dVar 0) dNoPart (dPart (dC (.int 1))))) (dC (.int 1000003)))))
def N__law_cell : List Str := ["script", "index"]
/-- _law_generator -/
def b__law_generator : DS :=
 (dSeq (dSetV 2 (dCall T__law_cell noE (dCons (dVar 0) (dCons (dVar 1) dNil))))
 (dRet (dLst (dCons (dBin fMod (dUn fInt (dBin fMax2 (dBin fSub (dVar 2) (dBin fPow (dC (.int 10)) (dC (.int 18)))) (dC (.int 0)))) (dBin fPow (dBin fPow (dC (.int 10)) (dC (.int 60))) (dC (.int 10)))) (dCons (dBin fMod (dUn fInt (dVar 2)) (dC (.int 2147483647))) (dCons (dBin fMul (dC (.int 1000)) (dVar 1)) dNil))))))
def N__law_generator : List Str := ["script", "index", "seed"]
/-- _law_pick -/
def b__law_pick : DS :=
 (dRet (dBin fIx (dVar 1) (dCall T__law_random noE (dCons (dVar 0) (dCons (dUn fLen (dVar 1)) dNil)))))
def N__law_pick : List Str := ["generator", "things"]
/-- _law_same -/
def b__law_same (T__law_same : DSpec) : DS :=
 (dSeq (dIfS (dOr (dTest (dBin (fIs false) (dVar 1) (dC .non))) (dOr (dTest (dBin (fIs false) (dVar 1) (dC (.bl true)))) (dTest (dBin (fIs false) (dVar 1) (dC (.bl false))))))
 (dRet (dIf (dTest (dBin (fIs false) (dVar 1) (dC .non))) (dBin (fIs false) (dVar 0) (dC .non)) (dIf (dTest (dBin (fIs false) (dVar 1) (dC (.bl true)))) (dBin (fIs false) (dVar 0) (dC (.bl true))) (dBin (fIs false) (dVar 0) (dC (.bl false))))))
 dNext)
 (dSeq (dIfS (dTest (dUn (fIsi [.list, .tuple]) (dVar 1)))
 (dSeq (dIfS (dOr (dAnd (dNot (dTest (dUn (fIsi [.list]) (dVar 0)))) (dTest (dUn (fIsi [.list]) (dVar 1)))) (dAnd (dNot (dTest (dUn (fIsi [.tuple]) (dVar 0)))) (dTest (dUn (fIsi [.tuple]) (dVar 1)))))
 (dRet (dC (.bl false)))
 dNext)
 (dRet (dAndV (dBin (fEq false) (dUn fLen (dVar 0)) (dUn fLen (dVar 1))) (dBin (fEq false) (dLc (diR1 (dUn fLen (dVar 1))) (dgName 2) (dNot (dTest (dCall T__law_same noE (dCons (dBin fIx (dVar 0) (dVar 2)) (dCons (dBin fIx (dVar 1) (dVar 2)) dNil))))) (dVar 2) [2]) (dLst dNil)))))
 dNext)
 (dSeq (dIfS (dTest (dUn (fIsi [.int]) (dVar 1)))
 (dRet (dAndV (dUn (fIsi [.int]) (dVar 0)) (dAndV (dNotV (dUn (fIsi [.bool]) (dVar 0))) (dBin (fEq false) (dVar 0) (dVar 1)))))
 dNext)
 (dRet (dAndV (dUn (fIsi [.str]) (dVar 0)) (dBin (fEq false) (dVar 0) (dVar 1)))))))
def N__law_same : List Str := ["told", "due", "at"]
/-- _law_put -/
def b__law_put : DS :=
 (dRet (dBin fPlus (dBin fPlus (dSl (dVar 0) dNoPart (dPart (dVar 1))) (dLst (dCons (dVar 2) dNil))) (dSl (dVar 0) (dPart (dBin fPlus (dVar 1) (dC (.int 1)))) dNoPart)))
def N__law_put : List Str := ["things", "at", "thing"]
/-- _law_heights -/
def b__law_heights : DS :=
 (dSeq (dSet 1 (dLst (dCons (dC (.int 0)) dNil)))
 (dSeq (dFor (diList (dVar 0)) (dgName 2)
 (dApp 1 (dBin fPlus (dBin fIx (dVar 1) (dUn fNeg (dC (.int 1)))) (dVar 2))))
 (dRet (dVar 1))))
def N__law_heights : List Str := ["row", "told", "letter"]
/-- _law_line_row -/
def b__law_line_row : DS :=
 (dSeq (dSetV 2 (dBin fPlus (dC (.int 1)) (dCall T__law_random noE (dCons (dVar 0) (dCons (dCall T__law_pick noE (dCons (dVar 0) (dCons (dLst (dCons (dC (.int 6)) (dCons (dC (.int 15)) (dCons (dC (.int 40)) dNil)))) dNil))) dNil)))))
 (dSeq (dSet3 3 4 5 (dFz (dCall T__law_random noE (dCons (dVar 0) (dCons (dBin fPlus (dVar 2) (dC (.int 1))) dNil)))) (dFz (dCall T__law_random noE (dCons (dVar 0) (dCons (dVar 2) dNil)))) (dFz (dCall T__law_random noE (dCons (dVar 0) (dCons (dBin fPlus (dVar 1) (dC (.int 1))) dNil)))))
 (dSeq (dSetV 6 (dLc (diR1 (dBin fPlus (dVar 5) (dC (.int 1)))) (dgName 7) dYes (dBin fDiv (dBin fPlus (dBin fMul (dVar 3) (dVar 7)) (dVar 4)) (dVar 2)) [7]))
 (dRet (dLc (diR1 (dVar 5)) (dgName 7) dYes (dBin fSub (dBin fIx (dVar 6) (dBin fPlus (dVar 7) (dC (.int 1)))) (dBin fIx (dVar 6) (dVar 7))) [7])))))
def N__law_line_row : List Str := ["generator", "most", "bottom", "number", "start", "length", "sums", "place"]
/-- _law_bent_row -/
def b__law_bent_row : DS :=
 (dSeq (dIfS (dTest (dBin (fEq false) (dVar 1) (dLst dNil)))
 (dRet (dLst (dCons (dC (.int 0)) dNil)))
 dNext)
 (dSeq (dSetV 2 (dCall T__law_random noE (dCons (dVar 0) (dCons (dUn fLen (dVar 1)) dNil))))
 (dRet (dCall T__law_put noE (dCons (dVar 1) (dCons (dVar 2) (dCons (dBin fSub (dC (.int 1)) (dBin fIx (dVar 1) (dVar 2))) dNil)))))))
def N__law_bent_row : List Str := ["generator", "row", "at"]
/-- _law_uneven -/
def b__law_uneven : DS :=
 (dSeq (dSetV 1 (dCall T__law_heights noE (dCons (dVar 0) dNil)))
 (dSeq (dFor (diR2 (dC (.int 1)) (dBin fPlus (dUn fLen (dVar 0)) (dC (.int 1)))) (dgName 2)
 (dSeq (dSetV 3 (dLc (diR1 (dBin fPlus (dBin fSub (dUn fLen (dVar 0)) (dVar 2)) (dC (.int 1)))) (dgName 4) dYes (dBin fSub (dBin fIx (dVar 1) (dBin fPlus (dVar 4) (dVar 2))) (dBin fIx (dVar 1) (dVar 4))) [4]))
 (dIfS (dTest (dBin fGt (dBin fSub (dUn fMax (dVar 3)) (dUn fMin (dVar 3))) (dC (.int 1))))
 (dRet (dTup (dCons (dMeth1 fIndex (dVar 3) (dUn fMin (dVar 3))) (dCons (dMeth1 fIndex (dVar 3) (dUn fMax (dVar 3))) (dCons (dVar 2) dNil)))))
 dNext)))
 (dRet (dC .non))))
def N__law_uneven : List Str := ["row", "sums", "length", "told", "start"]
/-- _law_steps -/
def b__law_steps : DS :=
 (dRet (dLst (dCons (dTup (dCons (dC (.int 1)) (dCons (dC (.int 0)) dNil))) (dCons (dTup (dCons (dC (.int 1)) (dCons (dC (.int 1)) dNil))) (dCons (dTup (dCons (dC (.int 0)) (dCons (dC (.int 1)) dNil))) (dCons (dTup (dCons (dBin fSub (dC (.int 0)) (dC (.int 1))) (dCons (dC (.int 1)) dNil))) (dCons (dTup (dCons (dBin fSub (dC (.int 0)) (dC (.int 1))) (dCons (dC (.int 0)) dNil))) (dCons (dTup (dCons (dBin fSub (dC (.int 0)) (dC (.int 1))) (dCons (dBin fSub (dC (.int 0)) (dC (.int 1))) dNil))) (dCons (dTup (dCons (dC (.int 0)) (dCons (dBin fSub (dC (.int 0)) (dC (.int 1))) dNil))) (dCons (dTup (dCons (dC (.int 1)) (dCons (dBin fSub (dC (.int 0)) (dC (.int 1))) dNil))) dNil))))))))))
def N__law_steps : List Str := []
/-- _law_direction -/
def b__law_direction : DS :=
 (dSeq (dFor (diR1 (dC (.int 8))) (dgName 1)
 (dIfS (dTest (dBin (fEq false) (dLc (diList (dVar 0)) (dgName 2) (dTest (dBin (fIn true) (dVar 2) (dTup (dCons (dVar 1) (dCons (dBin fMod (dUn fInt (dBin fPlus (dVar 1) (dC (.int 1)))) (dC (.int 8))) dNil))))) (dVar 2) [2]) (dLst dNil)))
 (dRet (dVar 1))
 dNext))
 (dRet (dC .non)))
def N__law_direction : List Str := ["steps", "direction", "step"]
/-- _law_path -/
def b__law_path : DS :=
 (dSeq (dSet 2 (dLst (dCons (dVar 0) dNil)))
 (dSeq (dFor (diList (dVar 1)) (dgName 3)
 (dSeq (dSetV 4 (dBin fIx (dCall T__law_steps noE dNil) (dVar 3)))
 (dApp 2 (dTup (dCons (dBin fPlus (dBin fIx (dBin fIx (dVar 2) (dUn fNeg (dC (.int 1)))) (dC (.int 0))) (dBin fIx (dVar 4) (dC (.int 0)))) (dCons (dBin fPlus (dBin fIx (dBin fIx (dVar 2) (dUn fNeg (dC (.int 1)))) (dC (.int 1))) (dBin fIx (dVar 4) (dC (.int 1)))) dNil))))))
 (dRet (dVar 2))))
def N__law_path : List Str := ["cell", "steps", "cells", "step", "move"]
/-- _law_is_straight -/
def b__law_is_straight : DS :=
 (dSeq (dSetV 1 (dCall T__law_direction noE (dCons (dVar 0) dNil)))
 (dRet (dAndV (dBin (fIs true) (dVar 1) (dC .non)) (dBin (fIs false) (dCall T__law_uneven noE (dCons (dLc (diList (dVar 0)) (dgName 2) dYes (dUn fInt (dBin (fEq true) (dVar 2) (dVar 1))) [2]) dNil)) (dC .non)))))
def N__law_is_straight : List Str := ["steps", "direction", "step"]
/-- _law_drawn_steps -/
def b__law_drawn_steps : DS :=
 (dSeq (dSet2 2 3 (dFz (dCall T__law_random noE (dCons (dVar 0) (dCons (dC (.int 8)) dNil)))) (dFz (dCall T__law_random noE (dCons (dVar 0) (dCons (dC (.int 4)) dNil)))))
 (dSeq (dSetV 4 (dCall T__law_line_row noE (dCons (dVar 0) (dCons (dVar 1) dNil))))
 (dSeq (dIfS (dTest (dBin (fEq false) (dVar 3) (dC (.int 0))))
 (dSetV 4 (dCall T__law_bent_row noE (dCons (dVar 0) (dCons (dVar 4) dNil))))
 dNext)
 (dSeq (dSetV 5 (dLc (diList (dVar 4)) (dgName 6) dYes (dBin fMod (dUn fInt (dBin fPlus (dVar 2) (dVar 6))) (dC (.int 8))) [6]))
 (dSeq (dIfS (dAnd (dTest (dBin (fEq false) (dVar 3) (dC (.int 1)))) (dTest (dBin (fEq true) (dVar 5) (dLst dNil))))
 (dSetV 5 (dCall T__law_put noE (dCons (dVar 5) (dCons (dCall T__law_random noE (dCons (dVar 0) (dCons (dUn fLen (dVar 5)) dNil))) (dCons (dCall T__law_random noE (dCons (dVar 0) (dCons (dC (.int 8)) dNil))) dNil)))))
 dNext)
 (dRet (dIf (dTest (dBin fLt (dVar 3) (dC (.int 3)))) (dVar 5) (dLc (diR1 (dCall T__law_random noE (dCons (dVar 0) (dCons (dBin fPlus (dVar 1) (dC (.int 1))) dNil)))) (dgName 7) dYes (dBin fMod (dUn fInt (dBin fPlus (dVar 2) (dCall T__law_random noE (dCons (dVar 0) (dCons (dC (.int 2)) dNil))))) (dC (.int 8))) [7]))))))))
def N__law_drawn_steps : List Str := ["generator", "most", "direction", "way", "row", "steps", "letter", "step"]
/-- _law_cell_drawn -/
def b__law_cell_drawn : DS :=
 (dSeq (dSetV 1 (dCall T__law_pick noE (dCons (dVar 0) (dCons (dLst (dCons (dC (.int 5)) (dCons (dBin fPow (dC (.int 10)) (dC (.int 20))) dNil))) dNil))))
 (dRet (dTup (dCons (dBin fSub (dCall T__law_random noE (dCons (dVar 0) (dCons (dBin fMul (dC (.int 2)) (dVar 1)) dNil))) (dVar 1)) (dCons (dBin fSub (dCall T__law_random noE (dCons (dVar 0) (dCons (dBin fMul (dC (.int 2)) (dVar 1)) dNil))) (dVar 1)) dNil)))))
def N__law_cell_drawn : List Str := ["generator", "far"]
/-- _law_fewest -/
def b__law_fewest : DS :=
 (dSeq (dSet 1 (dLst (dCons (dC (.int 0)) dNil)))
 (dSeq (dFor (diR2 (dC (.int 1)) (dBin fPlus (dUn fLen (dVar 0)) (dC (.int 1)))) (dgName 2)
 (dApp 1 (dUn fMin (dLc (diR1 (dVar 2)) (dgName 3) (dTest (dCall T__law_is_straight noE (dCons (dSl (dVar 0) (dPart (dVar 3)) (dPart (dVar 2))) dNil))) (dBin fPlus (dBin fIx (dVar 1) (dVar 3)) (dC (.int 1))) [3]))))
 (dRet (dBin fIx (dVar 1) (dUn fNeg (dC (.int 1)))))))
def N__law_fewest : List Str := ["steps", "best", "end", "start"]
def b_law_0_3 : DS :=
 (dSetV 7 (dVar 8))
def b_law_0_2 : DS :=
 (dSeq (dApp 6 (dTup (dCons (dVar 7) (dCons (dVar 8) dNil))))
 b_law_0_3)
def b_law_0_1 : DS :=
 (dSeq (dWhile (dAnd (dTest (dBin fLt (dVar 8) (dUn fLen (dVar 3)))) (dTest (dCall T__law_is_straight noE (dCons (dSl (dVar 3) (dPart (dVar 7)) (dPart (dBin fPlus (dVar 8) (dC (.int 1))))) dNil))))
 (dSetV 8 (dBin fPlus (dVar 8) (dC (.int 1)))))
 b_law_0_2)
def b_law_1_10 : DS :=
 (dIfS (dtBor 6 (dOr (dNot (dTest (dCall T__law_same noE (dCons (dCall T_fewest_pieces noE (dCons (dVar 5) dNil)) (dCons (dVar 6) dNil))))) (dTest (dBin (fEq true) (dUn fRepr (dVar 5)) (dVar 9)))))
 (dRet (dC (.bl false)))
 dNext)
def b_law_1_9 : DS :=
 (dSeq (dApp 10 (dC (.int 7)))
 b_law_1_10)
def b_law_1_8 : DS :=
 (dSeq (dIfS (dtBor 6 (dOr (dTest (dBin (fEq true) (dLc (diList (dVar 6)) (dgName 11) (dTest (dBin (fIs true) (dCall T_is_straight noE (dCons (dSl (dVar 5) (dPart (dBin fIx (dVar 11) (dC (.int 0)))) (dPart (dBin fPlus (dBin fIx (dVar 11) (dC (.int 1))) (dC (.int 1))))) dNil)) (dC (.bl true)))) (dVar 11) [11]) (dLst dNil))) (dTest (dBin (fEq true) (dBin (fEq false) (dUn fLen (dVar 6)) (dC (.int 1))) (dCall T__law_is_straight noE (dCons (dVar 3) dNil))))))
 (dRet (dC (.bl false)))
 dNext)
 b_law_1_9)
def b_law_1_7 : DS :=
 (dSeq (dIfS (dtBor 10 (dtBor 6 (dOr (dNot (dTest (dCall T__law_same noE (dCons (dLst (dCons (dVar 10) (dCons (dCallK T_fewest_pieces noE [0] 0 1 dNil (dCons (dVar 5) dNil)) dNil))) (dCons (dLst (dCons (dVar 6) (dCons (dVar 6) dNil))) dNil))))) (dAnd (dTest (dBin (fEq true) (dVar 3) (dLst dNil))) (dAnd (dTest (dBin fLt (dUn fLen (dVar 3)) (dC (.int 26)))) (dTest (dBin (fEq true) (dUn fLen (dVar 6)) (dCall T__law_fewest noE (dCons (dVar 3) dNil)))))))))
 (dRet (dC (.bl false)))
 dNext)
 b_law_1_8)
def b_law_1_6 : DS :=
 (dSeq (dSet2 9 10 (dFz (dUn fRepr (dVar 5))) (dCall T_fewest_pieces noE (dCons (dVar 5) dNil)))
 b_law_1_7)
def b_law_1_5 : DS :=
 (dSeq (dFrz 6 (dSet 6 (dIf (dTest (dBin (fEq false) (dVar 3) (dLst dNil))) (dLst (dCons (dTup (dCons (dC (.int 0)) (dCons (dC (.int 0)) dNil))) dNil)) (dVar 6))))
 b_law_1_6)
def b_law_1_4 : DS :=
 (dSeq (dWhile (dTest (dBin fLt (dVar 7) (dUn fLen (dVar 3))))
 (dSeq (dSetV 8 (dBin fPlus (dVar 7) (dC (.int 1))))
 b_law_0_1))
 b_law_1_5)
def b_law_1_3 : DS :=
 (dSeq (dSetV 3 (dSl (dVar 3) dNoPart (dPart (dC (.int 60)))))
 b_law_1_4)
def b_law_1_2 : DS :=
 (dSeq (dSet3 5 6 7 (dFz (dCall T__law_path noE (dCons (dCall T__law_cell_drawn noE (dCons (dVar 1) dNil)) (dCons (dSl (dVar 3) dNoPart (dPart (dC (.int 60)))) dNil)))) (dLst dNil) (dFz (dC (.int 0))))
 b_law_1_3)
def b_law_1_1 : DS :=
 (dSeq (dFor (diR1 (dBin fPlus (dC (.int 1)) (dCall T__law_random noE (dCons (dVar 1) (dCons (dC (.int 4)) dNil))))) (dgName 4)
 (dSetV 3 (dBin fPlus (dVar 3) (dCall T__law_drawn_steps noE (dCons (dVar 1) (dCons (dC (.int 14)) dNil))))))
 b_law_1_2)
def b_law_2_2 : DS :=
 (dRet (dCall T__law_same noE (dCons (dLst (dCons (dCall T_fewest_pieces noE (dCons (dCall T__law_path noE (dCons (dTup (dCons (dC (.int 0)) (dCons (dC (.int 0)) dNil))) (dCons (dLst (dCons (dC (.int 0)) (dCons (dC (.int 0)) (dCons (dC (.int 1)) (dCons (dC (.int 1)) (dCons (dC (.int 2)) dNil)))))) dNil))) dNil)) (dCons (dCall T_fewest_pieces noE (dCons (dLst (dCons (dTup (dCons (dC (.int 7)) (dCons (dC (.int 7)) dNil))) dNil)) dNil)) (dCons (dCall T_fewest_pieces noE (dCons (dLst (dCons (dTup (dCons (dC (.int 0)) (dCons (dC (.int 0)) dNil))) (dCons (dTup (dCons (dC (.int 1)) (dCons (dC (.int 1)) dNil))) dNil))) dNil)) dNil)))) (dCons (dLst (dCons (dLst (dCons (dTup (dCons (dC (.int 0)) (dCons (dC (.int 3)) dNil))) (dCons (dTup (dCons (dC (.int 3)) (dCons (dC (.int 5)) dNil))) dNil))) (dCons (dLst (dCons (dTup (dCons (dC (.int 0)) (dCons (dC (.int 0)) dNil))) dNil)) (dCons (dLst (dCons (dTup (dCons (dC (.int 0)) (dCons (dC (.int 1)) dNil))) dNil)) dNil)))) dNil))))
def b_law_2_1 : DS :=
 (dSeq (dFor (diR1 (dC (.int 2))) (dgName 2)
 (dSeq (dSetV 3 (dLst dNil))
 b_law_1_1))
 b_law_2_2)
/-- law -/
def b_law : DS :=
 (dSeq (dSetV 1 (dCall T__law_generator noE (dCons (dVar 0) (dCons (dC (.int 0)) dNil))))
 b_law_2_1)
def N_law : List Str := ["script", "generator", "turn", "steps", "part", "cells", "due", "first", "last", "kept", "told", "piece"]
end DL
namespace DL
open PySem L2
/-! ### the plain laws of the numbers -/
theorem len_is_whole : ∀ rs β Q E, T_is_whole rs β Q E → rs.length = 1 ∧ Fz rs := by
  rintro rs β Q E ⟨d, k, rfl, _⟩
  exact ⟨rfl, Fz.nil.val⟩
theorem spec_is_whole : ∀ rs β PQ PE, T_is_whole rs β PQ PE → b_is_whole (endsOf PQ) ⟨startR N_is_whole rs, β⟩ := by
  rintro rs β PQ PE ⟨d, k, rfl, hk, q⟩
  have f : ∀ cs (Q : R → Prop), Q (.val (.bl (cs.any k.isa))) → fIsi cs (.val d) Q := fun cs Q h => by
    unfold fIsi
    rw [hk]
    exact h
  refine ⟨_, rfl, f _ _ ⟨_, rfl, ?_⟩⟩
  cases k with
  | int => exact ⟨_, rfl, f _ _ ⟨_, rfl, q⟩⟩
  | bool => exact ⟨_, rfl, f _ _ ⟨_, rfl, q⟩⟩
  | _ => exact q
theorem len_lowest : ∀ rs β Q E, T_lowest rs β Q E → rs.length = 2 ∧ Fz rs := by
  rintro rs β Q E ⟨n, b, rfl, _⟩
  exact ⟨rfl, Fz.nil.val.val⟩
theorem spec_lowest : ∀ rs β PQ PE, T_lowest rs β PQ PE → b_lowest (endsOf PQ) ⟨startR N_lowest rs, β⟩ := by
  rintro rs β PQ PE ⟨n, b, rfl, hb, hm, q⟩
  refine ⟨_, rfl, _, rfl, _, rfl, _, rfl, ifF (decide_eq_false (by omega)) ?_⟩
  have g0 : 0 < Int.gcd n b := Int.gcd_pos_of_ne_zero_right n (by omega)
  have gl : ((Int.gcd n b : Nat) : Int) ≤ b := Int.gcd_le_right n hb
  have c : ∀ i : Int, CDv i ((Int.gcd n b : Nat) : Int) := fun i => cdv (by omega) (by omega)
  have h := q (n / (Int.gcd n b : Nat)) (b / (Int.gcd n b : Nat)) (Int.gcd n b : Nat) (by omega) (Int.ediv_mul_cancel (Int.gcd_dvd_left n b)).symm (Int.ediv_mul_cancel (Int.gcd_dvd_right n b)).symm
    (Int.ediv_pos_of_pos_of_dvd hb (by omega) (Int.gcd_dvd_right n b)) (by
      have := Int.gcd_ediv_gcd_ediv_gcd (i := n) (j := b) (by omega)
      exact this)
  rw [← Int.fdiv_eq_ediv_of_nonneg _ (by omega), ← Int.fdiv_eq_ediv_of_nonneg _ (by omega)] at h
  exact ⟨_, rfl, _, rfl, c _, _, rfl, _, rfl, c _, _, rfl, Nat.le_of_ble_eq_true rfl, h⟩
theorem len_is_less : ∀ rs β Q E, T_is_less rs β Q E → rs.length = 2 ∧ Fz rs := by
  rintro rs β Q E ⟨a, b, c, d, rfl, _⟩
  exact ⟨rfl, Fz.nil.val.val⟩
theorem spec_is_less : ∀ rs β PQ PE, T_is_less rs β PQ PE → b_is_less (endsOf PQ) ⟨startR N_is_less rs, β⟩ := by
  rintro rs β PQ PE ⟨a, b, c, d, rfl, h1, h2, q⟩
  exact ⟨_, rfl, _, rfl, _, rfl, _, rfl, h1, _, rfl, _, rfl, _, rfl, _, rfl, h2, q⟩
theorem hs_zero (ns : List Int) : hs ns 0 = 0 := rfl
theorem hs_succ (ns : List Int) {i : Nat} (h : i < ns.length) : hs ns (i + 1) = hs ns i + ns[i] := by
  unfold hs
  rw [List.take_succ, List.getElem?_eq_getElem h, List.sum_append]
  simp
theorem hts_len (ns : List Int) : (hts ns).length = ns.length + 1 := by simp [hts]
theorem hts_get (ns : List Int) {i : Nat} (h : i ≤ ns.length) : (hts ns)[i]? = some (hs ns i) := by
  unfold hts
  rw [List.getElem?_map, List.getElem?_range (by omega)]
  rfl
theorem len_heights : ∀ rs β Q E, T_heights rs β Q E → rs.length = 1 ∧ Fz rs := by
  rintro rs β Q E ⟨ns, rfl, _⟩
  exact ⟨rfl, Fz.nil.val⟩
/-- the walk of the heights, told once for all such defs -/
theorem heights_walk {ns : List Int} {β : Nat} {PQ : R → Nat → Prop} (hl : ns.length ≤ 100000) (q : PQ (.own ((hts ns).map D.int)) β) :
    (dSeq (dSet 1 (dLst (dCons (dC (.int 0)) dNil))) (dSeq (dFor (diList (dVar 0)) (dgName 2) (dApp 1 (dBin fPlus (dBin fIx (dVar 1) (dUn fNeg (dC (.int 1)))) (dVar 2)))) (dRet (dVar 1)))) (endsOf PQ) ⟨[some (.val (iL ns)), none, none], β⟩ := by
  refine ⟨_, rfl, by decide, _, rfl, fun i ρ => ∃ x, ρ = ⟨[some (.val (iL ns)), some (.own (((List.range (i + 1)).map (hs ns)).map D.int)), x], β⟩, ⟨none, rfl⟩, ?_, ?_⟩
  · rintro i x ρ hi hx ⟨y, rfl⟩
    obtain ⟨hi, rfl⟩ := map_item hx
    refine ⟨_, rfl, D.int (hs ns i), ?_, ?_⟩
    · show atI ((((List.range (i + 1)).map (hs ns)).map D.int)) (-1) = _
      rw [List.range_succ, List.map_append, List.map_append]
      exact atI_last _
    · refine ⟨_, rfl, ?_, some (.val (.int ns[i])), ?_⟩
      · simp
        omega
      · dsimp only
        rw [← hs_succ ns hi]
        conv => rhs; rw [List.range_succ, List.map_append, List.map_append]
        rfl
  · rintro ρ ⟨x, rfl⟩
    refine ⟨_, rfl, ?_⟩
    rw [List.length_map]
    exact q
theorem spec_heights : ∀ rs β PQ PE, T_heights rs β PQ PE → b_heights (endsOf PQ) ⟨startR N_heights rs, β⟩ := by
  rintro rs β PQ PE ⟨ns, rfl, hl, q⟩
  exact heights_walk hl q
theorem cfr_pos : ∀ {ws : List Int} {l : Int}, (∀ w ∈ ws, 0 ≤ w) → 1 ≤ l → 1 ≤ (cfr ws l).1 ∧ 1 ≤ (cfr ws l).2
  | [], l, _, h => ⟨h, Int.le_refl 1⟩
  | w :: ws, l, hw, h => by
    have ih := cfr_pos (fun x hx => hw x (List.mem_cons_of_mem _ hx)) h
    have w0 := hw w (List.mem_cons_self ..)
    have : 0 ≤ w * (cfr ws l).1 := Int.mul_nonneg w0 (by omega)
    rw [cfr]
    exact ⟨by dsimp only; omega, ih.1⟩
theorem cfr_mono {m l : Int} (h : 1 ≤ l) : ∀ {ws : List Int}, (∀ w ∈ ws, 0 ≤ w) → (cfr ws l).1 ≤ m → (cfr ws l).2 ≤ m → ∀ i, (cfr (ws.drop i) l).1 ≤ m ∧ (cfr (ws.drop i) l).2 ≤ m
  | ws, _, a, b, 0 => ⟨a, b⟩
  | [], _, a, b, _ + 1 => ⟨a, b⟩
  | w :: ws, hw, a, b, i + 1 => by
    have w0 := hw w (List.mem_cons_self ..)
    have ih := cfr_pos (fun x hx => hw x (List.mem_cons_of_mem _ hx)) h
    have : 0 ≤ w * (cfr ws l).1 := Int.mul_nonneg w0 (by omega)
    rw [cfr] at a b
    dsimp only at a b
    exact cfr_mono h (fun x hx => hw x (List.mem_cons_of_mem _ hx)) b (by omega) i
theorem cfr_bound {m l : Int} (h : 1 ≤ l) : ∀ {ws : List Int}, (∀ w ∈ ws, 0 ≤ w) → (cfr ws l).1 ≤ m → (cfr ws l).2 ≤ m → ∀ w ∈ ws, w ≤ m
  | [], _, a, b, w, hx => by cases hx
  | w :: ws, hw, a, b, x, hx => by
    have w0 := hw w (List.mem_cons_self ..)
    have ih := cfr_pos (fun x hx => hw x (List.mem_cons_of_mem _ hx)) h
    have : 0 ≤ w * (cfr ws l).1 := Int.mul_nonneg w0 (by omega)
    have : w * 1 ≤ w * (cfr ws l).1 := Int.mul_le_mul_of_nonneg_left ih.1 w0
    rw [cfr] at a b
    dsimp only at a b
    rcases List.mem_cons.mp hx with rfl | hx
    · omega
    · exact cfr_bound h (fun x hx => hw x (List.mem_cons_of_mem _ hx)) b (by omega) x hx
theorem len_put_together : ∀ rs β Q E, T_put_together rs β Q E → rs.length = 2 ∧ Fz rs := by
  rintro rs β Q E ⟨ws, l, m, rfl, _⟩
  exact ⟨rfl, Fz.nil.val.val⟩
theorem spec_put_together : ∀ rs β PQ PE, T_put_together rs β PQ PE → b_put_together (endsOf PQ) ⟨startR N_put_together rs, β⟩ := by
  rintro rs β PQ PE ⟨ws, l, m, rfl, hw, hl, m1, m2, hm, q⟩
  refine ⟨_, rfl, _, rfl, fun i ρ => ∃ x, ρ = ⟨[some (.val (iL ws)), some (.val (.int l)), some (.val (.int (cfr (ws.drop (ws.length - i)) l).1)), some (.val (.int (cfr (ws.drop (ws.length - i)) l).2)), x], β⟩, ⟨none, ?_⟩, ?_, ?_⟩
  · rw [Nat.sub_zero, List.drop_length]
    rfl
  · rintro i x ρ hi hx ⟨y, rfl⟩
    rw [List.length_reverse, List.length_map] at hi
    obtain ⟨hj, rfl⟩ := map_item_rev hx
    have dr : ws.drop (ws.length - (i + 1)) = ws[ws.length - (i + 1)] :: ws.drop (ws.length - i) := by
      rw [List.drop_eq_getElem_cons hj, show ws.length - (i + 1) + 1 = ws.length - i by omega]
    have p := cfr_pos (ws := ws.drop (ws.length - i)) (fun x hx => hw x (List.mem_of_mem_drop hx)) hl
    have c := cfr_mono hl hw m1 m2 (ws.length - i)
    have w1 := cfr_bound hl hw m1 m2 _ (List.getElem_mem hj)
    have w0 := hw _ (List.getElem_mem hj)
    refine ⟨_, rfl, _, rfl, cm (by omega) (by omega) (by omega) (by omega), _, rfl, _, rfl, some (.val (.int ws[ws.length - (i + 1)])), ?_⟩
    rw [dr, cfr]
    rfl
  · rintro ρ ⟨x, rfl⟩
    rw [List.length_reverse, List.length_map, Nat.sub_self, List.drop_zero]
    exact ⟨_, rfl, _, rfl, _, rfl, Nat.le_of_ble_eq_true rfl, q⟩
theorem len_found_inside : ∀ rs β Q E, T_found_inside rs β Q E → rs.length = 2 ∧ Fz rs := by
  rintro rs β Q E ⟨a, b, c, d, m, rfl, _⟩
  exact ⟨rfl, Fz.nil.val.val⟩
theorem spec_found_inside : ∀ rs β PQ PE, T_found_inside rs β PQ PE → b_found_inside (endsOf PQ) ⟨startR N_found_inside rs, β⟩ := by
  rintro rs β PQ PE ⟨a0, b0, c0, d0, m, rfl, ha0, hb0, hd0, hac0, ham, hbm, hcm, hdm, hm, q⟩
  have m1 : 1 ≤ m := by omega
  have dv : ∀ a b : Int, 0 < b → a.fdiv b = a / b := fun a b h => Int.fdiv_eq_ediv_of_nonneg a (by omega)
  refine ⟨[], rfl, by decide, _, rfl, _, rfl, _, rfl, _, rfl, cdv hb0 (by omega), ?_⟩
  refine ⟨fun n ρ => ∃ ws a b c d x, n = (b + d).toNat ∧ FI a0 b0 c0 d0 m ws a b c d ∧ ρ = ⟨[some (.val (iP a b)), some (.val (iP c d)), some (.own (ws.map D.int)), some (.val (.int (a / b))), x], β⟩,
    ⟨_, [], a0, b0, c0, d0, none, rfl, ⟨ha0, hb0, hd0, hac0, ham, hbm, hcm, hdm, (fun w h => by cases h), .inl rfl, fun p q s => s⟩, ?_⟩, ?_⟩
  · rw [← dv a0 b0 hb0]
    rfl
  · rintro n ρ ⟨ws, a, b, c, d, x, rfl, h, rfl⟩
    have hc1 := h.c1
    have hb1 := h.b1
    have ha1 := h.a1
    have hd1 := h.d1
    have hbm := h.bm
    have hdm := h.dm
    have ham := h.am
    have hcm := h.cm
    have w0 : 0 ≤ a / b := Int.ediv_nonneg ha1 (by omega)
    have w1 : a / b ≤ a := Int.ediv_le_self b ha1
    have hlen := h.len hm
    refine ⟨_, rfl, _, rfl, _, rfl, cm (by omega) (by omega) (by omega) (by omega), _, rfl, _, rfl, _, rfl, ?_⟩
    refine ifD (fun hc => ?_) fun hc => ?_
    · obtain ⟨h2, less⟩ := h.next rfl hc
      have hb2 := h2.b1
      have wd0 := Int.mul_nonneg w0 hd1
      have wb0 := Int.mul_nonneg w0 (by omega : 0 ≤ b)
      refine ⟨_, rfl, by rw [List.length_map]; omega, _, rfl, _, rfl, _, rfl, _, rfl, _, rfl, cm (by omega) (by omega) (by omega) (by omega), _, rfl, ?_⟩
      have fin : ∀ (e : D), e = iP (if a = a / b * b then 1 else b) (if a = a / b * b then 0 else a - a / b * b) →
        (dSeq (dSet2 0 1 (dFz (dTup (dCons (dBin fIx (dVar 1) (dC (.int 1))) (dCons (dBin fSub (dBin fIx (dVar 1) (dC (.int 0))) (dBin fMul (dVar 3) (dBin fIx (dVar 1) (dC (.int 1))))) dNil)))) (dFz (dVar 4)))
          (dSetV 3 (dBin fDiv (dBin fIx (dVar 0) (dC (.int 0))) (dBin fIx (dVar 0) (dC (.int 1))))))
        { nx := fun ρ' => ∃ m', m' < (b + d).toNat ∧ ∃ ws a b c d x, m' = (b + d).toNat ∧ FI a0 b0 c0 d0 m ws a b c d ∧ ρ' = ⟨[some (.val (iP a b)), some (.val (iP c d)), some (.own (ws.map D.int)), some (.val (.int (a / b))), x], β⟩, rt := (endsOf PQ).rt }
        ⟨[some (.val (iP a b)), some (.val (iP c d)), some (.own ((ws ++ [a / b]).map D.int)), some (.val (.int (a / b))), some (.val e)], β⟩ := by
        rintro e rfl
        refine ⟨_, rfl, _, rfl, _, rfl, _, rfl, _, rfl, _, rfl, _, rfl, cm (by omega) (by omega) (by omega) (by omega), _, rfl, Nat.le_of_ble_eq_true rfl, _, rfl, ?_⟩
        refine ⟨_, rfl, _, rfl, _, rfl, _, rfl, cdv hb2 (by omega), _, ?_, _, d, c - a / b * d, _, _, some (.val (iP (if a = a / b * b then 1 else b) (if a = a / b * b then 0 else a - a / b * b))), rfl, h2, ?_⟩
        · omega
        · rw [← dv _ _ hb2]
          rfl
      have app : (ws.map D.int ++ [D.int (a / b)]) = ((ws ++ [a / b]).map D.int) := by simp
      rw [← app] at fin
      refine ifDn (fun z => ?_) fun z => ?_
      · refine ⟨_, rfl, Nat.le_of_ble_eq_true rfl, fin _ ?_⟩
        rw [if_pos z, if_pos z]
      · refine ⟨_, rfl, _, rfl, _, rfl, _, rfl, _, rfl, _, rfl, _, rfl, cm (by omega) (by omega) (by omega) (by omega), _, rfl, Nat.le_of_ble_eq_true rfl, fin _ ?_⟩
        rw [if_neg z, if_neg z]
    · have s := h.smp _ _ (smp_stop hb1 hd1 ha1 rfl (by omega))
      rw [cfs_cfr] at s
      have bd := smp_med s hb0 hd0 hac0
      refine ⟨_, rfl, _, rfl, ws, a / b + 1, 2 * m, rfl, h.ws0, by omega, by omega, by omega, by omega, ?_⟩
      exact q _ _ s
theorem len_rates_between : ∀ rs β Q E, T_rates_between rs β Q E → rs.length = 1 ∧ Fz rs := by
  rintro rs β Q E ⟨xs, rfl, _⟩
  exact ⟨rfl, Fz.nil.val⟩
/-- what one turn makes of low: the reading and the law -/
theorem rb_low {ss : Nat → Int} {S S' : Nat → Nat → Prop} {l h : D} {i e : Nat} {x y g : Int} (r : RB ss S l h) (hS : ∀ p q, S' p q ↔ S p q ∨ (p = i ∧ q = e)) (up : ∀ p q, S p q → p < q) (hg : 0 < g) (h1 : ss e - ss i - 1 = x * g) (h2 : (e : Int) - i = y * g) (y0 : 0 < y) (co : Int.gcd x y = 1)
    {x' y' g' : Int} (hg' : 0 < g') (h1' : ss e - ss i + 1 = x' * g') (h2' : (e : Int) - i = y' * g') (y0' : 0 < y') (co' : Int.gcd x' y' = 1) {a0 a3 a4 : Option R} {β : Nat} {d0 : DEnds} (hsmall : ∀ a b, l = iP a b → CMulW a y ∧ CMulW x b) (hsmall' : ∀ a b, h = iP a b → CMulW x' b ∧ CMulW a y')
    (fin : ∀ l' h', RB ss S' l' h' → d0.nx ⟨[a0, some (.val l'), some (.val h'), a3, a4, some (.val (iP x y)), some (.val (iP x' y'))], β⟩) :
    (dSeq (dSetV 1 (dIf (dOr (dTest (dBin (fIs false) (dVar 1) (dC .non))) (dTest (dCall T_is_less noE (dCons (dVar 1) (dCons (dVar 5) dNil))))) (dVar 5) (dVar 1)))
      (dSetV 2 (dIf (dOr (dTest (dBin (fIs false) (dVar 2) (dC .non))) (dTest (dCall T_is_less noE (dCons (dVar 6) (dCons (dVar 2) dNil))))) (dVar 6) (dVar 2))))
    d0 ⟨[a0, some (.val l), some (.val h), a3, a4, some (.val (iP x y)), some (.val (iP x' y'))], β⟩ := by
  rcases r with ⟨rfl, rfl, no⟩ | ⟨a, b, c, d, rfl, rfl, lo, hi⟩
  · refine ⟨_, rfl, _, rfl, ifT rfl (ifT rfl ⟨_, rfl, ?_⟩)⟩
    refine ⟨_, rfl, _, rfl, ifT rfl (ifT rfl ⟨_, rfl, ?_⟩)⟩
    refine fin _ _ (.inr ⟨x, y, x', y', rfl, rfl, low_new hS no hg h1 h2 y0 co, high_low.mpr (low_new hS no hg' ?_ h2' y0' (by rw [Int.neg_gcd]; exact co'))⟩)
    rw [Int.neg_mul]
    omega
  · obtain ⟨s1, s2⟩ := hsmall a b rfl
    obtain ⟨s3, s4⟩ := hsmall' c d rfl
    have e1' : - ss e - - ss i - 1 = -x' * g' := by rw [Int.neg_mul]; omega
    have co2 : Int.gcd (-x') y' = 1 := by rw [Int.neg_gcd]; exact co'
    have hi2 := high_low.mp hi
    have step2 : ∀ (l' : D), (∃ a b, l' = iP a b ∧ Low ss S' a b) → (dSetV 2 (dIf (dOr (dTest (dBin (fIs false) (dVar 2) (dC .non))) (dTest (dCall T_is_less noE (dCons (dVar 6) (dCons (dVar 2) dNil))))) (dVar 6) (dVar 2)))
        d0 ⟨[a0, some (.val l'), some (.val (iP c d)), a3, a4, some (.val (iP x y)), some (.val (iP x' y'))], β⟩ := by
      rintro _ ⟨a1, b1, rfl, lo1⟩
      refine ⟨_, rfl, _, rfl, ifF rfl ⟨_, rfl, _, rfl, _, _, _, _, rfl, s3, s4, _, rfl, ifD (fun z => ?_) fun z => ?_⟩⟩
      · refine ⟨_, rfl, fin _ _ (.inr ⟨a1, b1, x', y', rfl, rfl, lo1, high_low.mpr (low_better hS up hi2 hg' e1' h2' y0' co2 ?_)⟩)⟩
        rw [Int.neg_mul, Int.neg_mul]
        omega
      · refine ⟨_, rfl, fin _ _ (.inr ⟨a1, b1, c, d, rfl, rfl, lo1, high_low.mpr (low_keep hS hi2 hg' e1' h2' ?_)⟩)⟩
        rw [Int.neg_mul, Int.neg_mul]
        omega
    refine ⟨_, rfl, _, rfl, ifF rfl ⟨_, rfl, _, rfl, _, _, _, _, rfl, s1, s2, _, rfl, ifD (fun z => ?_) fun z => ?_⟩⟩
    · exact ⟨_, rfl, step2 _ ⟨x, y, rfl, low_better hS up lo hg h1 h2 y0 co z⟩⟩
    · exact ⟨_, rfl, step2 _ ⟨a, b, rfl, low_keep hS lo hg h1 h2 z⟩⟩
theorem getD_get {xs : List Int} {i : Nat} (h : i < xs.length) : xs[i]? = some (xs.getD i 0) := by
  rw [List.getD_eq_getElem?_getD, List.getElem?_eq_getElem h]
  rfl
theorem spec_rates_between : ∀ rs β PQ PE, T_rates_between rs β PQ PE → b_rates_between (endsOf PQ) ⟨startR N_rates_between rs, β⟩ := by
  rintro rs β PQ PE ⟨xs, rfl, h2, hl, hx, q⟩
  have bnd : ∀ i, -1000000000000000000 ≤ xs.getD i 0 ∧ xs.getD i 0 ≤ 1000000000000000000 := fun i => by
    by_cases h : i < xs.length
    · rw [List.getD_eq_getElem?_getD, List.getElem?_eq_getElem h]
      exact hx _ (List.getElem_mem h)
    · rw [List.getD_eq_getElem?_getD, List.getElem?_eq_none (by omega)]
      decide
  have ll : ((xs.map D.int).length : Int) = (xs.length : Int) := by rw [List.length_map]
  generalize hss : (fun i => xs.getD i 0) = ss at q
  have bs : ∀ i, -1000000000000000000 ≤ ss i ∧ ss i ≤ 1000000000000000000 := fun i => by rw [← hss]; exact bnd i
  have gs : ∀ i, i < xs.length → xs[i]? = some (ss i) := fun i h => by rw [← hss]; exact getD_get h
  refine ⟨_, rfl, ⟨by omega, by omega⟩, fun i ρ => ∃ l h x3 x4 x5 x6, RB ss (Done xs.length i 0) l h ∧ ρ = ⟨[some (.val (iL xs)), some (.val l), some (.val h), x3, x4, x5, x6], β⟩, ⟨_, _, none, none, none, none, .inl ⟨rfl, rfl, fun p q z => ?_⟩, rfl⟩, ?_, ?_⟩
  · unfold Done at z
    omega
  · rintro i x ρ hi hx ⟨l, h, x3, x4, x5, x6, rb, rfl⟩
    have hi2 : i < xs.length := by
      have : i < (xs.map D.int).length := hi
      rwa [List.length_map] at this
    cases hx
    refine ⟨_, rfl, _, rfl, ⟨⟨by omega, by omega⟩, by omega, by omega⟩, fun m ρ => ∃ l h x4 x5 x6, RB ss (Done xs.length i m) l h ∧ ρ = ⟨[some (.val (iL xs)), some (.val l), some (.val h), some (.val (.int i)), x4, x5, x6], β⟩, ⟨l, h, x4, x5, x6, rb, rfl⟩, ?_, ?_⟩
    · rintro m x ρ hm hx ⟨l, h, x4, x5, x6, rb, rfl⟩
      have he : i + 1 + m < xs.length := by
        have : m < (((xs.map D.int).length : Int) - ((i : Int) + 1)).toNat := hm
        omega
      cases hx
      have a1 : atI (xs.map D.int) ((i : Int) + 1 + (m : Int)) = some (.int (ss (i + 1 + m))) := atI_map (by omega) (gs _ he)
      have a2 : atI (xs.map D.int) (i : Int) = some (.int (ss i)) := atI_map rfl (gs _ hi2)
      have b1 := bs (i + 1 + m)
      have b2 := bs i
      refine ⟨_, rfl, _, rfl, _, a1, _, rfl, _, rfl, _, a2, _, rfl, _, rfl, _, _, rfl, by omega, by omega, fun x y g hg e1 e2 y0 co => ?_⟩
      refine ⟨_, rfl, _, rfl, _, a1, _, rfl, _, rfl, _, a2, _, rfl, _, rfl, _, _, rfl, by omega, by omega, fun x' y' g' hg' e1' e2' y0' co' => ?_⟩
      have dif : (((i + 1 + m : Nat) : Int) - (i : Int)) = (i : Int) + 1 + (m : Int) - (i : Int) := by omega
      have yg : y * 1 ≤ y * g := Int.mul_le_mul_of_nonneg_left (by omega) (by omega)
      have yg' : y' * 1 ≤ y' * g' := Int.mul_le_mul_of_nonneg_left (by omega) (by omega)
      have small : ∀ u v k : Int, u = v * k → 0 < k → -3000000000000000000 ≤ u → u ≤ 3000000000000000000 → -3000000000000000000 ≤ v ∧ v ≤ 3000000000000000000 := fun u v k e hk l1 l2 => by
        by_cases z : 0 ≤ v
        · have : v * 1 ≤ v * k := Int.mul_le_mul_of_nonneg_left (by omega) z
          omega
        · have : v * k ≤ v * 1 := Int.mul_le_mul_of_nonpos_left (by omega) (by omega)
          omega
      have sx := small _ _ _ e1 hg (by omega) (by omega)
      have sx' := small _ _ _ e1' hg' (by omega) (by omega)
      have bb : ∀ p q, -3000000000000000000 ≤ ss q - ss p - 1 ∧ ss q - ss p - 1 ≤ 3000000000000000000 := fun p q => by
        have := bs p
        have := bs q
        omega
      refine rb_low rb (done_next he) (fun p q z => z.2.1) hg (by omega) (by rw [dif]; exact e2) y0 co hg' (by omega) (by rw [dif]; exact e2') y0' co' (fun a b e => ?_) (fun a b e => ?_) fun l' h' rb' => ⟨l', h', _, _, _, rb', rfl⟩
      · rcases rb with ⟨rfl, _⟩ | ⟨a1, b1, c1, d1, rfl, rfl, lo, hi3⟩
        · cases e
        · cases e
          have := low_le lo (B := 3000000000000000000) (fun p q _ => bb p q) (by decide)
          have := lo.b0
          exact ⟨cm (by omega) (by omega) (by omega) (by omega), cm (by omega) (by omega) (by omega) (by omega)⟩
      · rcases rb with ⟨_, rfl, _⟩ | ⟨a1, b1, c1, d1, rfl, rfl, lo, hi3⟩
        · cases e
        · cases e
          have hi4 := high_low.mp hi3
          have := low_le hi4 (B := 3000000000000000000) (fun p q _ => by
            have := bs p
            have := bs q
            omega) (by decide)
          have := hi4.b0
          exact ⟨cm (by omega) (by omega) (by omega) (by omega), cm (by omega) (by omega) (by omega) (by omega)⟩
    · rintro ρ ⟨l, h, x4, x5, x6, rb, rfl⟩
      have e : (((xs.map D.int).length : Int) - ((i : Int) + 1)).toNat = xs.length - (i + 1) := by rw [ll]; omega
      exact ⟨l, h, _, x4, x5, x6, rb.congr (by rw [e]; exact done_row), rfl⟩
  · rintro ρ ⟨l, h, x3, x4, x5, x6, rb, rfl⟩
    have e : ((xs.map D.int).length : Int).toNat = xs.length := by rw [ll]; omega
    rw [e] at rb
    rcases rb with ⟨_, _, no⟩ | ⟨a, b, c, d, rfl, rfl, lo, hi⟩
    · exact absurd ((done_all 0 1).mpr ⟨by omega, by omega⟩) (no 0 1)
    · have e2 : Done xs.length xs.length 0 = Prs xs.length := funext fun p => funext fun q => propext (done_all p q)
      rw [e2] at lo hi
      exact ⟨_, rfl, _, rfl, _, rfl, Nat.le_of_ble_eq_true rfl, q a b c d lo hi⟩
theorem len_found_formula : ∀ rs β Q E, T_found_formula rs β Q E → rs.length = 1 ∧ Fz rs := by
  rintro rs β Q E ⟨ns, rfl, _⟩
  exact ⟨rfl, Fz.nil.val⟩
theorem spec_found_formula : ∀ rs β PQ PE, T_found_formula rs β PQ PE → b_found_formula (endsOf PQ) ⟨startR N_found_formula rs, β⟩ := by
  rintro rs β PQ PE ⟨ns, rfl, n1, n2, hb, q1, q2⟩
  have hl := hts_len ns
  have hB : ∀ i : Nat, 0 ≤ hs ns i ∧ (i ≤ ns.length → hs ns i ≤ 200000000000) := fun i => by
    have := hs_nonneg hb 0 i
    rw [Nat.zero_add, hs_zero] at this
    refine ⟨by omega, fun hi => ?_⟩
    have := this.2 (by decide)
    omega
  have hx : ∀ x ∈ hts ns, -1000000000000000000 ≤ x ∧ x ≤ 1000000000000000000 := fun x h => by
    unfold hts at h
    obtain ⟨i, hi, rfl⟩ := List.mem_map.mp h
    rw [List.mem_range] at hi
    have := hB i
    have := (hB i).2 (by omega)
    omega
  refine ⟨_, rfl, ns, rfl, by omega, ?_⟩
  refine ⟨_, rfl, _, rfl, by omega, by omega, hx, fun a b c d lo' hi' => ?_⟩
  rw [hl] at lo' hi'
  have lo := low_congr (fun i h => hts_getD ns h) lo'
  have hi := high_congr (fun i h => hts_getD ns h) hi'
  have hb0 := lo.b0
  have hd0 := hi.b0
  have db := low_den lo
  have dd := high_den hi
  have prs : ∀ p q, Prs (ns.length + 1) p q → -300000000000 ≤ hs ns q - hs ns p ∧ hs ns q - hs ns p ≤ 300000000000 := fun p q z => by
    have := hB p
    have := hB q
    have := (hB p).2 (by have := z.1; have := z.2; omega)
    have := (hB q).2 (by have := z.2; omega)
    omega
  have va := low_val lo (B := 300000000001) fun p q z => by have := prs p q z; omega
  have vc := low_val (high_low.mp hi) (B := 300000000001) fun p q z => by have := prs p q z; omega
  refine ⟨rfl, ?_⟩
  refine ⟨_, rfl, _, rfl, a, b, c, d, rfl, cm (by omega) (by omega) (by omega) (by omega), cm (by omega) (by omega) (by omega) (by omega), _, rfl, ?_⟩
  by_cases ac : a * d < c * b
  · have ev := (even_iff lo hi).mp ac
    refine ifF (by rw [decide_eq_true ac]; rfl) ?_
    have rest : ∀ f e : Int, ((a < 0 ∧ f = 0 ∧ e = 1) ∨ (0 ≤ a ∧ Smp a b c d f e)) →
      (dSeq (dSetV 6 (dUn fMax (dLc (diEnum (dVar 1)) (dgTup [7, 8]) dYes (dBin fSub (dBin fMul (dVar 5) (dVar 8)) (dBin fMul (dVar 4) (dVar 7))) [7, 8]))) (dRet (dTup (dCons (dVar 4) (dCons (dVar 6) (dCons (dVar 5) dNil))))))
      (endsOf PQ) ⟨[some (.val (iL ns)), some (.val (iL (hts ns))), some (.val (iP a b)), some (.val (iP c d)), some (.val (.int f)), some (.val (.int e)), none, none, none], β⟩ := by
      intro f e fe
      have fb : -1000000000000000 ≤ f ∧ f ≤ 1000000000000000 ∧ 1 ≤ e ∧ e ≤ 1000 := by
        rcases fe with ⟨_, rfl, rfl⟩ | ⟨_, sm⟩
        · decide
        · have := smp_med sm hb0 (by omega) ac
          have := sm.p1
          have := sm.q1
          omega
      refine ⟨_, rfl, by simp [hl]; omega, fun i acc β' => acc = ((List.range i).map fun j => e * hs ns j - f * (j : Int)).map D.int ∧ β' = β, ⟨rfl, rfl⟩, ?_, ?_⟩
      · rintro i x acc β' hi hx ⟨rfl, rfl⟩
        have hx2 : ((hts ns).map D.int)[i]?.map (fun d => D.tup [.int (i : Int), d]) = some x := hx
        have hi2 : i < ((hts ns).map D.int).length := hi
        rw [List.length_map, hl] at hi2
        rw [List.getElem?_map, hts_get ns (by omega)] at hx2
        cases hx2
        have := hB i
        have := (hB i).2 (by omega)
        refine ⟨rfl, ?_⟩
        unfold dYes
        refine ifT rfl ?_
        refine ⟨_, rfl, _, rfl, cm (by omega) (by omega) (by omega) (by omega), _, rfl, _, rfl, cm (by omega) (by omega) (by omega) (by omega), ?_⟩
        refine ⟨?_, rfl⟩
        conv => rhs; rw [List.range_succ, List.map_append, List.map_append]
        rfl
      · rintro acc β' ⟨rfl, rfl⟩
        have ln : ((hts ns).map D.int).length = ns.length + 1 := by rw [List.length_map, hl]
        rw [ln]
        have ne : ((List.range (ns.length + 1)).map fun j => e * hs ns j - f * (j : Int)) ≠ [] := by simp
        refine ⟨_, _, rfl, intsOf_map _, ne, ?_⟩
        refine ⟨_, rfl, _, rfl, _, rfl, _, rfl, Nat.le_of_ble_eq_true rfl, ?_⟩
        have mx := maxL_spec ne
        refine q1 ev f _ e (fml_of (fun n h => (hb n h).1) lo hi fe n1 (fun i hi => mx.2 _ (List.mem_map.mpr ⟨i, by simp; omega, rfl⟩)) ?_ ac)
        obtain ⟨i, hi, e2⟩ := List.mem_map.mp mx.1
        exact ⟨i, by rw [List.mem_range] at hi; omega, e2.symm⟩
    refine ⟨_, rfl, _, rfl, _, rfl, ifD (fun z => ?_) fun z => ?_⟩
    · exact ⟨_, rfl, Nat.le_of_ble_eq_true rfl, rfl, rest 0 1 (.inl ⟨z, rfl, rfl⟩)⟩
    · exact ⟨_, rfl, _, rfl, a, b, c, d, 1000000000000000, rfl, by omega, hb0, by omega, ac, by omega, by omega, by omega, by omega, by decide, fun p q sm => ⟨rfl, rest p q (.inr ⟨by omega, sm⟩)⟩⟩
  · refine ifT (by rw [decide_eq_false ac]; rfl) ?_
    exact q2 fun ev => ac ((even_iff lo hi).mpr ev)
end DL
namespace DL
open PySem L2
/-! ### the law's own helps: the plain laws -/
theorem len__law_hash : ∀ rs β Q E, T__law_hash rs β Q E → rs.length = 2 ∧ Fz rs := by
  rintro rs β Q E h
  unfold T__law_hash tHash at h
  split at h
  · exact ⟨rfl, Fz.nil.val.val⟩
  · exact h.elim
theorem spec__law_hash : ∀ rs β PQ PE, T__law_hash rs β PQ PE → b__law_hash (endsOf PQ) ⟨startR N__law_hash rs, β⟩ := by
  rintro rs β PQ PE h
  unfold T__law_hash tHash at h
  split at h
  case h_2 => exact h.elim
  rename_i s i
  obtain ⟨⟨s0, s1, i0, i1⟩, q⟩ := h
  have e63 : (2 : Int) ^ 63 = 9223372036854775808 := by decide
  rw [e63] at i1
  have bx := fmod_in (a := s * 1140671 + 27644437 * i * i + 131 * i + 19) (b := 2147483629) (by decide)
  refine ⟨_, rfl, cm (by omega) (by omega) (by omega) (by omega), _, rfl, cm (by omega) (by omega) (by omega) (by omega), _, rfl, cm (by omega) (by omega) (by omega) (by omega), _, rfl, cm (by omega) (by omega) (by omega) (by omega), show (2147483629 : Int) ≠ 0 by decide, ?_⟩
  refine ⟨_, rfl, _, rfl, cm (by omega) (by omega) (by omega) (by omega), _, rfl, cm (by omega) (by omega) (by omega) (by omega), show (2147483587 : Int) ≠ 0 by decide, ?_⟩
  have yb : ∀ a : Int, 0 ≤ a.fmod 2147483587 ∧ a.fmod 2147483587 < 2147483587 := fun a => fmod_in (by decide)
  refine ⟨_, rfl, cm (Int.le_trans (by decide) (yb _).1) (Int.le_trans (Int.le_of_lt (yb _).2) (by decide)) (by omega) (by omega), show (2147483647 : Int) ≠ 0 by decide, ?_⟩
  exact q _ (fmod_in (by decide)).1 (fmod_in (by decide)).2
theorem len__law_cell : ∀ rs β Q E, T__law_cell rs β Q E → rs.length = 2 ∧ Fz rs := by
  rintro rs β Q E ⟨ns, i, rfl, _⟩
  exact ⟨rfl, Fz.nil.val.val⟩
theorem spec__law_cell : ∀ rs β PQ PE, T__law_cell rs β PQ PE → b__law_cell (endsOf PQ) ⟨startR N__law_cell rs, β⟩ := by
  rintro rs β PQ PE ⟨ns, i, rfl, hl, hi, q⟩
  refine ⟨_, rfl, _, rfl, _, rfl, ifD (fun z => ?_) fun z => ?_⟩
  · rw [List.length_map] at z
    refine ⟨_, rfl, _, rfl, _, atI_map (j := i.toNat) (by omega) (List.getElem?_eq_getElem (by omega)), q _⟩
  · refine ⟨_, rfl, _, ns.take 1, rfl, ?_, show (1000003 : Int) ≠ 0 by decide, q _⟩
    have e : cutD (ns.map D.int) none (some 1) = (ns.take 1).map D.int := by
      cases ns with
      | nil => rfl
      | cons n ns => simp [cutD, HT.sIx]
    rw [e]
    exact intsOf_map _
theorem len__law_generator : ∀ rs β Q E, T__law_generator0 rs β Q E → rs.length = 2 ∧ Fz rs := by
  rintro rs β Q E ⟨ns, i, rfl, _⟩
  exact ⟨rfl, Fz.nil.val.val⟩
theorem spec__law_generator : ∀ rs β PQ PE, T__law_generator0 rs β PQ PE → b__law_generator (endsOf PQ) ⟨startR N__law_generator rs, β⟩ := by
  rintro rs β PQ PE ⟨ns, i, rfl, hl, h0, h1, q⟩
  refine ⟨_, rfl, _, rfl, ns, i, rfl, hl, h0, fun x => ?_⟩
  have p600 : ((10 : Int) ^ (60 : Int).toNat) ^ (10 : Int).toNat = 10 ^ 600 := by
    rw [← Int.pow_mul]
    rfl
  have pos : (0 : Int) < 10 ^ 600 := Int.pow_pos (by decide)
  refine ⟨_, rfl, ⟨by decide, by decide +kernel⟩, ⟨by decide, by decide +kernel⟩, ⟨by decide, by decide +kernel⟩, ?_, _, rfl, show (2147483647 : Int) ≠ 0 by decide, _, rfl, cm (by omega) (by omega) (by omega) (by omega), _, rfl, Nat.le_of_ble_eq_true rfl, ?_⟩
  · rw [p600]
    omega
  · rw [p600]
    exact q _ _ (fmod_in pos).1 (fmod_in pos).2 (fmod_in (by decide)).1 (fmod_in (by decide)).2
theorem len__law_pick : ∀ rs β Q E, T__law_pick rs β Q E → rs.length = 2 ∧ Fz rs := by
  rintro rs β Q E ⟨ds, rfl, _⟩
  exact ⟨rfl, Fz.nil.val.gen⟩
theorem log2_small {b : Int} (h0 : 0 ≤ b) (h : b ≤ 10000000000000000000000000000000000000000) : b.natAbs.log2 < 8000 := Nat.lt_of_lt_of_le (PySem.Flt.log2_lt_of (by decide) (natAbs_lt_pow (by omega) h)) (by decide)
theorem spec__law_pick : ∀ rs β PQ PE, T__law_pick rs β PQ PE → b__law_pick (endsOf PQ) ⟨startR N__law_pick rs, β⟩ := by
  rintro rs β PQ PE ⟨ds, rfl, h0, h1, hβ, q⟩
  refine ⟨_, rfl, _, rfl, _, rfl, by omega, log2_small (by omega) (by omega), hβ, fun r r0 r1 => ⟨_, atI_int (j := r.toNat) (by omega) (by omega), q _ (List.getElem_mem _)⟩⟩
theorem len__law_put : ∀ rs β Q E, T__law_put rs β Q E → rs.length = 3 ∧ Fz rs := by
  rintro rs β Q E ⟨ds, k, d, rfl, _⟩
  exact ⟨rfl, Fz.nil.val.val.val⟩
theorem cut_to {ds : List D} {k : Nat} : cutD ds none (some (k : Int)) = ds.take k := by
  unfold cutD
  rw [HT.sIx_none, HT.sIx_nat, List.drop_zero, Nat.sub_zero]
  by_cases h : k ≤ ds.length
  · rw [Nat.min_eq_left h]
  · rw [Nat.min_eq_right (by omega), List.take_of_length_le (Nat.le_refl _), List.take_of_length_le (by omega)]
theorem cut_from {ds : List D} {k : Nat} : cutD ds (some (k : Int)) none = ds.drop k := by
  unfold cutD
  rw [HT.sIx_none, HT.sIx_nat]
  by_cases h : k ≤ ds.length
  · rw [Nat.min_eq_left h, List.take_of_length_le (by rw [List.length_drop]; omega)]
  · rw [Nat.min_eq_right (by omega), Nat.sub_self, List.take_zero, List.drop_of_length_le (by omega)]
theorem cut_both {ds : List D} {j k : Nat} (h : j ≤ k) : cutD ds (some (j : Int)) (some (k : Int)) = (ds.drop j).take (k - j) := by
  unfold cutD
  rw [HT.sIx_nat, HT.sIx_nat]
  by_cases h1 : k ≤ ds.length
  · rw [Nat.min_eq_left h1, Nat.min_eq_left (by omega)]
  · rw [Nat.min_eq_right (a := k) (by omega)]
    by_cases h2 : j ≤ ds.length
    · rw [Nat.min_eq_left h2, List.take_of_length_le (by rw [List.length_drop]; omega), List.take_of_length_le (by rw [List.length_drop]; omega)]
    · rw [Nat.min_eq_right (by omega), List.drop_of_length_le (Nat.le_refl _), List.drop_of_length_le (by omega)]
      simp
theorem set_split {ds : List D} {k : Nat} {d : D} (h : k < ds.length) : ds.take k ++ [d] ++ ds.drop (k + 1) = ds.set k d := by
  rw [List.set_eq_take_append_cons_drop, if_pos h]
  simp
theorem spec__law_put : ∀ rs β PQ PE, T__law_put rs β PQ PE → b__law_put (endsOf PQ) ⟨startR N__law_put rs, β⟩ := by
  rintro rs β PQ PE ⟨ds, k, d, rfl, h0, h1, q⟩
  have c1 := cut_to (ds := ds) (k := k)
  have c2 := cut_from (ds := ds) (k := k + 1)
  refine ⟨_, rfl, _, rfl, _, rfl, _, rfl, Nat.le_of_ble_eq_true rfl, ?_⟩
  refine ⟨?_, _, rfl, _, rfl, ?_⟩
  · rw [c1, List.length_take]
    simp
    omega
  · have e : ((k : Int) + 1) = ((k + 1 : Nat) : Int) := by omega
    refine ⟨?_, ?_⟩
    · rw [c1, e, c2]
      simp
      omega
    · rw [c1, e, c2, set_split h0]
      exact q
theorem len__law_heights : ∀ rs β Q E, T__law_heights rs β Q E → rs.length = 1 ∧ Fz rs := by
  rintro rs β Q E ⟨ns, rfl, _⟩
  exact ⟨rfl, Fz.nil.val⟩
theorem spec__law_heights : ∀ rs β PQ PE, T__law_heights rs β PQ PE → b__law_heights (endsOf PQ) ⟨startR N__law_heights rs, β⟩ := by
  rintro rs β PQ PE ⟨ns, rfl, hl, q⟩
  exact heights_walk hl q
theorem len__law_same (n : Nat) : ∀ rs β Q E, T_same n rs β Q E → rs.length = 2 ∧ Fz rs := by
  rintro rs β Q E ⟨d, rfl, _⟩
  exact ⟨rfl, Fz.nil.val.val⟩
theorem spec__law_same (n : Nat) : ∀ rs β PQ PE, T_same n rs β PQ PE → b__law_same (T_same' n) (endsOf PQ) ⟨startR N__law_same rs, β⟩ := by
  rintro rs β PQ PE ⟨d, rfl, hd, q⟩
  have e0 : D.eqv (.lst []) (.lst []) = true := by rw [eqv_lst]; rfl
  have nil64 : D.shp 64 (.lst []) := shp_iL 63 []
  have qq : PQ (.val (.bl (false != D.eqv (.lst []) (.lst [])))) β := by rw [e0]; exact q
  cases d with
  | non =>
    refine ⟨_, rfl, _, rfl, ifT rfl (ifT rfl ?_)⟩
    exact ⟨_, rfl, _, rfl, ifT rfl ⟨_, rfl, q⟩⟩
  | bl b =>
    cases b with
    | true =>
      refine ⟨_, rfl, _, rfl, ifF rfl ⟨_, rfl, _, rfl, ifT rfl (ifT rfl ?_)⟩⟩
      exact ⟨_, rfl, _, rfl, ifF rfl ⟨_, rfl, _, rfl, ifT rfl ⟨_, rfl, q⟩⟩⟩
    | false =>
      refine ⟨_, rfl, _, rfl, ifF rfl ⟨_, rfl, _, rfl, ifF rfl ⟨_, rfl, _, rfl, ifT rfl ?_⟩⟩⟩
      exact ⟨_, rfl, _, rfl, ifF rfl ⟨_, rfl, _, rfl, ifF rfl ⟨_, rfl, q⟩⟩⟩
  | int i =>
    have qq : PQ (.val (.bl (false != decide (i = i)))) β := by rw [show (false != decide (i = i)) = true by simp]; exact q
    refine ⟨_, rfl, _, rfl, ifF rfl ⟨_, rfl, _, rfl, ifF rfl ⟨_, rfl, _, rfl, ifF rfl ?_⟩⟩⟩
    refine ⟨_, rfl, _, rfl, ifF rfl ?_⟩
    refine ⟨_, rfl, _, rfl, ifT rfl ?_⟩
    refine ⟨_, rfl, _, rfl, ifT rfl ⟨_, rfl, _, rfl, _, rfl, ifT rfl ⟨_, rfl, _, rfl, qq⟩⟩⟩
  | str x =>
    have qq : PQ (.val (.bl (false != decide (x = x)))) β := by rw [show (false != decide (x = x)) = true by simp]; exact q
    refine ⟨_, rfl, _, rfl, ifF rfl ⟨_, rfl, _, rfl, ifF rfl ⟨_, rfl, _, rfl, ifF rfl ?_⟩⟩⟩
    refine ⟨_, rfl, _, rfl, ifF rfl ?_⟩
    refine ⟨_, rfl, _, rfl, ifF rfl ?_⟩
    refine ⟨_, rfl, _, rfl, ifT rfl ⟨_, rfl, _, rfl, qq⟩⟩
  | ins _ _ => cases n <;> exact hd.elim
  | raw _ => cases n <;> exact hd.elim
  | lst ds =>
    cases n with
    | zero => exact hd.elim
    | succ n =>
      obtain ⟨h1, h2⟩ := hd
      refine ⟨_, rfl, _, rfl, ifF rfl ⟨_, rfl, _, rfl, ifF rfl ⟨_, rfl, _, rfl, ifF rfl ?_⟩⟩⟩
      refine ⟨_, rfl, _, rfl, ifT rfl ?_⟩
      refine ⟨_, rfl, _, rfl, ifF rfl ⟨_, rfl, _, rfl, ifT rfl ⟨_, rfl, _, rfl, ifF rfl ?_⟩⟩⟩
      refine ⟨_, rfl, _, rfl, _, rfl, ifT (by simp) ?_⟩
      refine ⟨_, rfl, ⟨by omega, by omega⟩, by simp; omega, fun i acc β' => acc = [] ∧ β' = β, ⟨rfl, rfl⟩, ?_, ?_⟩
      · rintro i x acc β' hi hx ⟨rfl, rfl⟩
        cases hx
        have hi2 : i < ds.length := by
          have : i < ((ds.length : Nat) : Int).toNat := hi
          omega
        exact ⟨_, rfl, _, rfl, _, atI_nat hi2, _, rfl, _, rfl, _, atI_nat hi2, _, rfl, h2 _ (List.getElem_mem hi2), _, rfl, ifF rfl ⟨rfl, rfl⟩⟩
      · rintro acc β' ⟨rfl, rfl⟩
        exact ⟨_, rfl, by decide, nil64, nil64, qq⟩
  | tup ds =>
    cases n with
    | zero => exact hd.elim
    | succ n =>
      obtain ⟨h1, h2⟩ := hd
      refine ⟨_, rfl, _, rfl, ifF rfl ⟨_, rfl, _, rfl, ifF rfl ⟨_, rfl, _, rfl, ifF rfl ?_⟩⟩⟩
      refine ⟨_, rfl, _, rfl, ifT rfl ?_⟩
      refine ⟨_, rfl, _, rfl, ifT rfl ⟨_, rfl, _, rfl, ifF rfl ⟨_, rfl, _, rfl, ifF rfl ?_⟩⟩⟩
      refine ⟨_, rfl, _, rfl, _, rfl, ifT (by simp) ?_⟩
      refine ⟨_, rfl, ⟨by omega, by omega⟩, by simp; omega, fun i acc β' => acc = [] ∧ β' = β, ⟨rfl, rfl⟩, ?_, ?_⟩
      · rintro i x acc β' hi hx ⟨rfl, rfl⟩
        cases hx
        have hi2 : i < ds.length := by
          have : i < ((ds.length : Nat) : Int).toNat := hi
          omega
        exact ⟨_, rfl, _, rfl, _, atI_nat hi2, _, rfl, _, rfl, _, atI_nat hi2, _, rfl, h2 _ (List.getElem_mem hi2), _, rfl, ifF rfl ⟨rfl, rfl⟩⟩
      · rintro acc β' ⟨rfl, rfl⟩
        exact ⟨_, rfl, by decide, nil64, nil64, qq⟩
/-- the source of numbers, from the list of three -/
theorem gen_less : ∀ rs β Q E, T__law_generator rs β Q E → β ≤ 2 ^ 40 ∧ T__law_generator0 rs β (fun r β' => ∃ x y z, r = .own [.int x, .int y, .int z] ∧ GB x y z (2 ^ 40) ∧ β' = β ∧ Q .gen β) E := by
  rintro rs β Q E ⟨ns, i, rfl, hl, h0, h1, hβ, q⟩
  have e : (((2 : Nat) ^ 40 : Nat) : Int) * 2 ^ 12 = 4503599627370496 := by decide
  have e2 : (2 : Int) ^ 62 = 4611686018427387904 := by decide
  exact ⟨hβ, ns, i, rfl, hl, h0, h1, fun x y x0 x1 y0 y1 => ⟨x, y, _, rfl, ⟨x0, x1, y0, y1, by omega, by rw [e, e2]; omega⟩, rfl, q⟩⟩
end DL
namespace DL
open PySem L2
/-! ### paths of cells: the plain laws -/
theorem len_is_cell : ∀ rs β Q E, T_is_cell rs β Q E → rs.length = 1 ∧ Fz rs := by
  rintro rs β Q E ⟨a, b, rfl, _⟩
  exact ⟨rfl, Fz.nil.val⟩
theorem spec_is_cell : ∀ rs β PQ PE, T_is_cell rs β PQ PE → b_is_cell (endsOf PQ) ⟨startR N_is_cell rs, β⟩ := by
  rintro rs β PQ PE ⟨a, b, rfl, q⟩
  exact ⟨_, rfl, _, rfl, ifT rfl ⟨_, rfl, _, rfl, ifT rfl ⟨_, rfl, _, rfl, _, _, rfl, rfl, _, rfl, ifT rfl ⟨_, rfl, _, rfl, _, _, rfl, rfl, q⟩⟩⟩⟩
theorem len_step_between : ∀ rs β Q E, T_step_between rs β Q E → rs.length = 2 ∧ Fz rs := by
  rintro rs β Q E ⟨a, b, c, d, rfl, _⟩
  exact ⟨rfl, Fz.nil.val.val⟩
theorem spec_step_between : ∀ rs β PQ PE, T_step_between rs β PQ PE → b_step_between (endsOf PQ) ⟨startR N_step_between rs, β⟩ := by
  rintro rs β PQ PE ⟨a, b, c, d, rfl, q⟩
  exact ⟨_, rfl, _, rfl, _, rfl, _, rfl, _, rfl, _, rfl, _, rfl, _, rfl, _, rfl, Nat.le_of_ble_eq_true rfl, q⟩
theorem cells_at {cs : List (Int × Int)} {i : Nat} (h : i < cs.length) {k : Int} (e : k = (i : Int)) : atI (cs.map cP) k = some (cP (cs.getD i (0, 0))) :=
  atI_map e (by rw [List.getD_eq_getElem?_getD, List.getElem?_eq_getElem h]; rfl)
theorem mv_in {s : Int} (h0 : 0 ≤ s) (h8 : s < 8) : idxD (cP (mv s)) (match c_STEPS with | .lst ds => ds | _ => []) = some s.toNat := by
  have : s = 0 ∨ s = 1 ∨ s = 2 ∨ s = 3 ∨ s = 4 ∨ s = 5 ∨ s = 6 ∨ s = 7 := by omega
  rcases this with rfl | rfl | rfl | rfl | rfl | rfl | rfl | rfl <;>
    simp [idxD, c_STEPS, mv, cP, eqv_pair, List.findIdx?_cons]
theorem mv_any {s : Int} (h0 : 0 ≤ s) (h8 : s < 8) : ((match c_STEPS with | .lst ds => ds | _ => []).any fun z => z.eqv (cP (mv s))) = true := by
  have := mv_in h0 h8
  unfold idxD at this
  obtain ⟨hj, hz, _⟩ := List.findIdx?_eq_some_iff_getElem.mp this
  exact List.any_eq_true.mpr ⟨_, List.getElem_mem hj, hz⟩
theorem steps_shp : D.shps 62 (match c_STEPS with | .lst ds => ds | _ => []) := by
  simp [c_STEPS, D.shps, D.shp]
theorem isp_cell {cs : List (Int × Int)} {ss : List Int} (h : IsP cs ss) {i : Nat} (hi : i < ss.length) : iP ((cs.getD (i + 1) (0, 0)).1 - (cs.getD i (0, 0)).1) ((cs.getD (i + 1) (0, 0)).2 - (cs.getD i (0, 0)).2) = cP (mv (ss.getD i 0)) := by
  rw [(h.step i hi).1, (h.step i hi).2]
theorem isp_dir {cs : List (Int × Int)} {ss : List Int} (h : IsP cs ss) {i : Nat} (hi : i < ss.length) : 0 ≤ ss.getD i 0 ∧ ss.getD i 0 < 8 := by
  rw [List.getD_eq_getElem?_getD, List.getElem?_eq_getElem hi]
  exact h.dir _ (List.getElem_mem hi)
theorem len_are_cells : ∀ rs β Q E, T_are_cells rs β Q E → rs.length = 1 ∧ Fz rs := by
  rintro rs β Q E ⟨cs, ss, rfl, _⟩
  exact ⟨rfl, Fz.nil.val⟩
theorem spec_are_cells : ∀ rs β PQ PE, T_are_cells rs β PQ PE → b_are_cells (endsOf PQ) ⟨startR N_are_cells rs, β⟩ := by
  rintro rs β PQ PE ⟨cs, ss, rfl, h, q⟩
  have hl := h.len
  have hf := h.few
  have ll : (cs.map cP).length = ss.length + 1 := by rw [List.length_map, hl]
  have i1 : (1 : Int) ≤ (((cs.map cP).length : Nat) : Int) := by omega
  have i2 : (((cs.map cP).length : Nat) : Int) ≤ 60 + 1 := by omega
  refine ⟨_, rfl, _, rfl, ifF rfl ⟨_, rfl, _, rfl, ifT (decide_eq_true i1) ⟨_, rfl, ifF (by rw [decide_eq_true i2]; rfl) ?_⟩⟩⟩
  have it1 := lst_item (xs := cs) (g := cP) (n := (cs.map cP).length) (0, 0)
  refine ⟨_, rfl, by omega, Wf (fun _ => false) (fun i => cP (cs.getD i (0, 0))) β, ⟨rfl, rfl⟩, fun i x acc β' hi hx hw => lcfT (by show 1 < 3; decide) (it1 i x hi hx) hw fun P hP => ⟨_, rfl, _, _, rfl, _, rfl, hP⟩, ?_⟩
  rintro _ β ⟨rfl, rfl⟩
  refine ⟨[], rfl, by decide, fnil (fun i hi => shp_pair 62 _ _) (fun _ => ⟨_, rfl, ifF rfl ?_⟩) fun z => absurd (fun _ _ => rfl) z⟩
  refine ⟨_, rfl, ⟨⟨by decide, by decide⟩, by omega, by omega⟩, by omega, Wf (fun _ => false) (fun m : Nat => D.int (1 + (m : Int))) β, ⟨rfl, rfl⟩, fun i x acc β' hi hx hw => lcfT (by show 2 < 3; decide) (Option.some.inj hx).symm hw fun P hP => ?_, ?_⟩
  · have hi2 : i < ss.length := by omega
    have a1 := cells_at (cs := cs) (i := i) (k := 1 + (i : Int) - 1) (by omega) (by omega)
    have a2 := cells_at (cs := cs) (i := i + 1) (k := 1 + (i : Int)) (by omega) (by omega)
    have dr := isp_dir h hi2
    have key := mv_any dr.1 dr.2
    rw [← isp_cell h hi2] at key
    exact ⟨_, rfl, _, rfl, _, a1, _, rfl, _, rfl, _, a2, _, _, _, _, rfl, steps_shp, shp_pair 61 _ _, _, rfl, eqP (P := P) (congrArg (fun b => true != b) key) hP⟩
  · rintro _ β ⟨rfl, rfl⟩
    exact ⟨[], rfl, by decide, fnil (fun i hi => shp_int 63 _) (fun _ => q) fun z => absurd (fun _ _ => rfl) z⟩
theorem len_check_cells : ∀ rs β Q E, T_check_cells rs β Q E → rs.length = 1 ∧ Fz rs := by
  rintro rs β Q E ⟨cs, ss, rfl, _⟩
  exact ⟨rfl, Fz.nil.val⟩
theorem spec_check_cells : ∀ rs β PQ PE, T_check_cells rs β PQ PE → b_check_cells (endsOf PQ) ⟨startR N_check_cells rs, β⟩ := by
  rintro rs β PQ PE ⟨cs, ss, rfl, h, q⟩
  exact ⟨_, rfl, cs, ss, rfl, h, _, rfl, ifF rfl q⟩
theorem len_directions_of : ∀ rs β Q E, T_directions_of rs β Q E → rs.length = 1 ∧ Fz rs := by
  rintro rs β Q E ⟨cs, ss, rfl, _⟩
  exact ⟨rfl, Fz.nil.val⟩
theorem spec_directions_of : ∀ rs β PQ PE, T_directions_of rs β PQ PE → b_directions_of (endsOf PQ) ⟨startR N_directions_of rs, β⟩ := by
  rintro rs β PQ PE ⟨cs, ss, rfl, h, q⟩
  have hl := h.len
  have hf := h.few
  have ll : (cs.map cP).length = ss.length + 1 := by rw [List.length_map, hl]
  refine ⟨_, rfl, ⟨⟨by decide, by decide⟩, by omega, by omega⟩, by omega, Wm (fun i => .int (ss.getD i 0)) β, ⟨rfl, rfl⟩, fun i x acc β' hi hx hw => lcmT (Option.some.inj hx).symm hw fun P hP => ?_, ?_⟩
  · have hi2 : i < ss.length := by omega
    have a1 := cells_at (cs := cs) (i := i) (k := 1 + (i : Int) - 1) (by omega) (by omega)
    have a2 := cells_at (cs := cs) (i := i + 1) (k := 1 + (i : Int)) (by omega) (by omega)
    have dr := isp_dir h hi2
    have key := mv_in dr.1 dr.2
    rw [← isp_cell h hi2] at key
    exact ⟨trivial, _, rfl, _, rfl, _, a1, _, rfl, _, rfl, _, a2, _, _, _, _, rfl, steps_shp, shp_pair 61 _ _, _, key, eqPI (P := P) (by omega) hP⟩
  · rintro _ β ⟨rfl, rfl⟩
    rw [show ((((cs.map cP).length : Nat) : Int) - 1).toNat = ss.length by omega, range_getD ss]
    exact q
theorem len_first_direction : ∀ rs β Q E, T_first_direction rs β Q E → rs.length = 1 ∧ Fz rs := by
  rintro rs β Q E ⟨ss, rfl, _⟩
  exact ⟨rfl, Fz.nil.val⟩
theorem two_all {ss : List Int} {d : Int} : (∀ i, i < ss.length → (!decide (ss.getD i 0 = d ∨ ss.getD i 0 = (d + 1) % 8)) = false) ↔ Two ss d := by
  constructor
  · intro h s hs
    obtain ⟨i, hi, rfl⟩ := List.getElem_of_mem hs
    have := h i hi
    rw [List.getD_eq_getElem?_getD, List.getElem?_eq_getElem hi] at this
    have t2 : (!decide (ss[i] = d ∨ ss[i] = (d + 1) % 8)) = false := this
    by_cases c : ss[i] = d ∨ ss[i] = (d + 1) % 8
    · exact c
    · rw [decide_eq_false c] at t2
      cases t2
  · intro h i hi
    have := h _ (List.getElem_mem hi)
    rw [List.getD_eq_getElem?_getD, List.getElem?_eq_getElem hi]
    show (!decide (ss[i] = d ∨ ss[i] = (d + 1) % 8)) = false
    rw [decide_eq_true this]
    rfl
theorem two_key {d s : Int} (d0 : 0 ≤ d) : (true != ([D.int d, D.int ((d + 1).fmod 8)].any fun z => z.eqv (.int s))) = !decide (s = d ∨ s = (d + 1) % 8) := by
  rw [Int.fmod_eq_emod_of_nonneg _ (by decide), List.any_cons, List.any_cons, List.any_nil, eqv_int, eqv_int, Bool.or_false, Bool.true_bne]
  congr 1
  by_cases h1 : d = s
  · simp [h1]
  · by_cases h2 : (d + 1) % 8 = s
    · simp [h2]
    · rw [decide_eq_false h1, decide_eq_false h2, decide_eq_false (by omega)]
      rfl
theorem spec_first_direction : ∀ rs β PQ PE, T_first_direction rs β PQ PE → b_first_direction (endsOf PQ) ⟨startR N_first_direction rs, β⟩ := by
  rintro rs β PQ PE ⟨ss, rfl, hd, hl, q1, q2⟩
  refine ⟨_, rfl, _, ss, rfl, intsOf_map ss, by omega, fun ms pw mem => ?_⟩
  refine ⟨fun i ρ => (∀ j (h : j < ms.length), j < i → ¬ Two ss ms[j]) ∧ ∃ x y, ρ = ⟨[some (.val (iL ss)), x, y], β⟩, ⟨fun j _ h => absurd h (by omega), none, none, rfl⟩, ?_, ?_⟩
  · rintro i x ρ hi hx ⟨no, x1, x2, rfl⟩
    obtain ⟨hi2, rfl⟩ := map_item hx
    have dm : ms[i] ∈ ss := (mem _).mp (List.getElem_mem hi2)
    have d0 := hd _ dm
    refine ⟨_, rfl, by rw [List.length_map]; omega, Wf (fun j => !decide (ss.getD j 0 = ms[i] ∨ ss.getD j 0 = (ms[i] + 1) % 8)) (fun i => D.int (ss.getD i 0)) β, ⟨rfl, rfl⟩, fun j x acc β' hj hx hw => lcfT (by show 2 < 3; decide) (lst_item (xs := ss) (g := D.int) 0 j x hj hx) hw fun P hP => ?_, ?_⟩
    · exact ⟨_, rfl, _, rfl, _, rfl, show (8 : Int) ≠ 0 by decide, _, rfl, Nat.le_of_ble_eq_true rfl, rfl, rfl, _, rfl, eqP (P := P) (two_key d0.1) hP⟩
    rintro _ β ⟨rfl, rfl⟩
    refine ⟨[], rfl, by decide, fnil (fun i hi => shp_int 63 _) (fun z => ⟨_, rfl, ifT rfl ⟨_, rfl, ?_⟩⟩) fun z => ⟨_, rfl, ifF rfl ?_⟩⟩
    · rw [List.length_map] at z
      refine q1 _ dm (two_all.mp z) fun e he te => ?_
      obtain ⟨k, hk, rfl⟩ := List.getElem_of_mem ((mem e).mpr he)
      rcases Nat.lt_trichotomy k i with c | c | c
      · exact absurd te (no k hk c)
      · subst c
        exact Int.le_refl _
      · exact Int.le_of_lt (List.pairwise_iff_getElem.mp pw i k hi2 hk c)
    · rw [List.length_map] at z
      refine ⟨fun j hj hji => ?_, _, _, rfl⟩
      by_cases c : j = i
      · subst c
        exact fun t => z (two_all.mpr t)
      · exact no j hj (by omega)
  · rintro ρ ⟨no, x1, x2, rfl⟩
    rw [List.length_map] at no
    refine q2 fun d hd2 => ?_
    obtain ⟨k, hk, rfl⟩ := List.getElem_of_mem ((mem d).mpr hd2)
    exact no k hk hk
theorem row_getD {ss : List Int} {d : Int} : (List.range ss.length).map (fun i => D.int (if ss.getD i 0 = d then 0 else 1)) = (rowOf ss d).map D.int := by
  unfold rowOf
  rw [List.map_map]
  exact range_getD (g := fun s => D.int (if s = d then 0 else 1)) ss
theorem len_found_line : ∀ rs β Q E, T_found_line rs β Q E → rs.length = 1 ∧ Fz rs := by
  rintro rs β Q E ⟨ss, rfl, _⟩
  exact ⟨rfl, Fz.nil.val⟩
/-- the empty list told from the others -/
theorem fEq_nil {ss : List Int} {P : R → Prop} {v : R} (hv : look v = some (iL ss)) (h1 : ss = [] → P (.val (.bl true))) (h2 : ss ≠ [] → P (.val (.bl false))) : fEq false v (.own []) P := by
  have key : D.shp 64 (iL ss) ∧ D.shp 64 (.lst []) ∧ P (.val (.bl (false != D.eqv (iL ss) (.lst [])))) := by
    refine ⟨shp_iL 63 ss, shp_iL 63 [], ?_⟩
    have e := eqs_ints ss []
    rw [eqv_lst]
    rw [List.map_nil] at e
    rw [e]
    by_cases z : ss = []
    · rw [decide_eq_true z]
      exact h1 z
    · rw [decide_eq_false z]
      exact h2 z
  unfold fEq
  rw [hv]
  exact key
theorem spec_found_line : ∀ rs β PQ PE, T_found_line rs β PQ PE → b_found_line (endsOf PQ) ⟨startR N_found_line rs, β⟩ := by
  rintro rs β PQ PE ⟨ss, rfl, hd, hl, q1, q2⟩
  refine ⟨_, rfl, [], rfl, by decide, fEq_nil rfl (fun z => ⟨_, rfl, ifT rfl ?_⟩) fun z => ⟨_, rfl, ifF rfl ?_⟩⟩
  · subst z
    exact ⟨_, rfl, Nat.le_of_ble_eq_true rfl, _, rfl, Nat.le_of_ble_eq_true rfl, q1 strt_nil _⟩
  refine ⟨_, rfl, ss, rfl, hd, hl, fun d dm dt dl => ?_, fun no => ?_⟩
  · refine ⟨_, rfl, _, rfl, ifF rfl ?_⟩
    have si := strt_iff hd dm dt
    refine ⟨_, rfl, by rw [List.length_map]; omega, Wm (fun i => D.int (if ss.getD i 0 = d then 0 else 1)) β, ⟨rfl, rfl⟩, fun i x acc β' hi hx hw => lcmT (lst_item (xs := ss) (g := D.int) 0 i x hi hx) hw fun P hP => ?_, ?_⟩
    · refine ⟨_, rfl, _, rfl, ?_⟩
      by_cases z : ss.getD i 0 = d
      · rw [if_pos z] at hP
        exact eqPI (P := P) (by rw [decide_eq_true z]; rfl) hP
      · rw [if_neg z] at hP
        exact eqPI (P := P) (by rw [decide_eq_false z]; rfl) hP
    · rintro _ β ⟨rfl, rfl⟩
      rw [List.length_map, row_getD]
      refine ⟨rowOf ss d, rfl, by rw [row_len]; exact List.length_pos_iff.mpr z, by rw [row_len]; omega, row_01, fun ev f s e fm => ?_, fun ne => ?_⟩
      · have d1 := fm.d1
        have d2 := fm.d2
        rw [row_len] at d2
        refine ⟨_, rfl, _, rfl, ifF rfl ?_⟩
        refine ⟨_, rfl, rfl, _, rfl, _, rfl, _, rfl, _, _, rfl, by omega, by omega, fun p q g hg e1 e2 q0 co => ?_⟩
        refine ⟨_, rfl, _, rfl, _, _, rfl, by omega, by omega, fun p' q' g' hg' e1' e2' q0' co' => ?_⟩
        exact ⟨_, rfl, Nat.le_of_ble_eq_true rfl, _, rfl, Nat.le_of_ble_eq_true rfl, q1 (si.mpr ev) _⟩
      · exact ⟨_, rfl, _, rfl, ifT rfl (q2 fun st => ne (si.mp st))⟩
  · refine ⟨_, rfl, _, rfl, ifT rfl (q2 fun st => ?_)⟩
    obtain ⟨e, e0, e8, ht, _⟩ := st
    obtain ⟨d, dm, dt⟩ := two_some z e0 e8 ht
    exact no d dm dt
theorem len_is_straight : ∀ rs β Q E, T_is_straight rs β Q E → rs.length = 1 ∧ Fz rs := by
  rintro rs β Q E ⟨cs, ss, rfl, _⟩
  exact ⟨rfl, Fz.nil.val⟩
theorem spec_is_straight : ∀ rs β PQ PE, T_is_straight rs β PQ PE → b_is_straight (endsOf PQ) ⟨startR N_is_straight rs, β⟩ := by
  rintro rs β PQ PE ⟨cs, ss, rfl, h, q1, q2⟩
  refine ⟨_, rfl, cs, ss, rfl, h, ?_⟩
  exact ⟨_, rfl, cs, ss, rfl, h, ss, rfl, h.dir, h.few, fun st ds => q1 st, fun ns => q2 ns⟩
theorem cut_seg {ss : List Int} {i j : Nat} (h : i ≤ j) {a b : Int} (ea : a = (i : Int)) (eb : b = (j : Int)) : cutD (ss.map D.int) (some a) (some b) = (seg ss i j).map D.int := by
  rw [ea, eb, cut_both h, ← List.map_drop, ← List.map_take]
  rfl
theorem len_fewest_pieces : ∀ rs β Q E, T_fewest_pieces rs β Q E → rs.length = 1 ∧ Fz rs := by
  rintro rs β Q E ⟨cs, ss, rfl, _⟩
  exact ⟨rfl, Fz.nil.val⟩
theorem spec_fewest_pieces : ∀ rs β PQ PE, T_fewest_pieces rs β PQ PE → b_fewest_pieces (endsOf PQ) ⟨startR N_fewest_pieces rs, β⟩ := by
  rintro rs β PQ PE ⟨cs, ss, rfl, h, q⟩
  have hl := h.len
  have hf := h.few
  have ll : (cs.map cP).length = ss.length + 1 := by rw [List.length_map, hl]
  refine ⟨_, rfl, cs, ss, rfl, h, ?_⟩
  refine ⟨_, rfl, _, rfl, ifDn (fun z => ?_) fun z => ?_⟩
  · have e : ss = [] := List.length_eq_zero_iff.mp (by omega)
    unfold gD at q
    rw [if_pos e] at q
    exact ⟨_, rfl, Nat.le_of_ble_eq_true rfl, _, rfl, Nat.le_of_ble_eq_true rfl, q⟩
  have ne : ss ≠ [] := fun e => z (by rw [e] at ll; rw [ll]; rfl)
  unfold gD at q
  rw [if_neg ne] at q
  refine ⟨_, rfl, cs, ss, rfl, h, ?_⟩
  refine ⟨[], rfl, by decide, ?_⟩
  refine ⟨fun n ρ => ∃ acc f k x, n = ss.length - f ∧ PO1 ss acc f k ∧ ρ = ⟨[some (.val (cL cs)), some (.val (iL ss)), some (.own (acc.map pD)), some (.val (.int f)), x], β⟩, ⟨_, [], 0, ss.length, none, rfl, PO1.start ss, rfl⟩, ?_⟩
  rintro n ρ ⟨acc, f, k, x, rfl, po, rfl⟩
  refine ⟨_, rfl, _, rfl, _, rfl, ifD (fun z => ?_) fun z => ?_⟩
  · rw [List.length_map] at z
    have z2 : f < ss.length := by omega
    refine ⟨_, rfl, ?_⟩
    refine ⟨fun m ρ => ∃ l j : Nat, m = ss.length - l ∧ PI1 ss f l j ∧ ρ = ⟨[some (.val (cL cs)), some (.val (iL ss)), some (.own (acc.map pD)), some (.val (.int f)), some (.val (.int l))], β⟩, ⟨_, f + 1, ss.length, rfl, PI1.start z2, by rw [show ((f + 1 : Nat) : Int) = (f : Int) + 1 by omega]; rfl⟩, ?_⟩
    rintro m ρ ⟨l, j, rfl, pi, rfl⟩
    have exit : (l < ss.length → ¬ Strt (seg ss f (l + 1))) → (dSeq (dApp 2 (dTup (dCons (dVar 3) (dCons (dVar 4) dNil)))) (dSetV 3 (dVar 4)))
        { nx := fun ρ' => ∃ m', m' < ss.length - f ∧ ∃ acc f k x, m' = ss.length - f ∧ PO1 ss acc f k ∧ ρ' = ⟨[some (.val (cL cs)), some (.val (iL ss)), some (.own (acc.map pD)), some (.val (.int f)), x], β⟩, rt := (endsOf PQ).rt }
        ⟨[some (.val (cL cs)), some (.val (iL ss)), some (.own (acc.map pD)), some (.val (.int f)), some (.val (.int l))], β⟩ := fun no => by
      have e := pi.fin no
      obtain ⟨k', po'⟩ := po.next z2
      rw [← e] at po'
      have := po.al
      have := pi.fl
      refine ⟨_, rfl, _, rfl, _, rfl, Nat.le_of_ble_eq_true rfl, by rw [List.length_map]; omega, ?_⟩
      refine ⟨_, rfl, ss.length - l, by omega, _, l, k', some (.val (.int l)), rfl, po', ?_⟩
      rw [List.map_append]
      rfl
    refine ⟨_, rfl, _, rfl, _, rfl, ifD (fun c => ?_) fun c => ?_⟩
    · rw [List.length_map] at c
      have c2 : l < ss.length := by omega
      have fl := pi.fl
      refine ⟨_, rfl, _, rfl, _, rfl, seg ss f (l + 1), congrArg (fun x => [R.val (.lst x)]) (cut_seg (by omega) rfl (by omega)), seg_dirs h.dir, Nat.le_trans seg_len hf, fun st ds => ?_, fun ns => ?_⟩
      · obtain ⟨j', pi'⟩ := pi.next c2 st
        refine ⟨_, rfl, ifT rfl ⟨_, rfl, ss.length - (l + 1), by omega, l + 1, j', rfl, pi', ?_⟩⟩
        rw [show ((l + 1 : Nat) : Int) = (l : Int) + 1 by omega]
        rfl
      · exact ⟨_, rfl, ifF rfl (exit fun _ => ns)⟩
    · rw [List.length_map] at c
      exact ifF rfl (exit fun z => absurd (show (l : Int) < (ss.length : Int) by omega) c)
  · rw [List.length_map] at z
    rw [← po.fin (by omega)] at q
    exact ⟨_, rfl, q⟩
end DL
namespace DL
open PySem L2
/-! ### the laws of paths, their helps: the plain laws -/
theorem idx_ints {xs : List Int} {x : Int} (h : x ∈ xs) : ∃ j, idxD (.int x) (xs.map D.int) = some j := by
  cases e : idxD (.int x) (xs.map D.int) with
  | some j => exact ⟨j, rfl⟩
  | none =>
    unfold idxD at e
    have := (List.findIdx?_eq_none_iff.mp e) (.int x) (List.mem_map.mpr ⟨x, h, rfl⟩)
    rw [eqv_int] at this
    simp at this
theorem stretch_ne (ns : List Int) (l : Nat) : stretch ns l ≠ [] := by unfold stretch; simp
theorem mem_stretch {ns : List Int} {l : Nat} {x : Int} : x ∈ stretch ns l ↔ ∃ s, s < ns.length - l + 1 ∧ x = hs ns (s + l) - hs ns s := by
  unfold stretch
  rw [List.mem_map]
  constructor
  · rintro ⟨s, h, rfl⟩
    exact ⟨s, List.mem_range.mp h, rfl⟩
  · rintro ⟨s, h, rfl⟩
    exact ⟨s, List.mem_range.mpr h, rfl⟩
theorem stretch_even {ns : List Int} {l : Nat} (h : l ≤ ns.length) : ¬ (1 < maxL (stretch ns l) - minL (stretch ns l)) ↔ EvenAt ns l := by
  have mx := maxL_spec (stretch_ne ns l)
  have mn := minL_spec (stretch_ne ns l)
  constructor
  · intro z i j h1 h2
    have a := mx.2 _ (mem_stretch.mpr ⟨i, by omega, rfl⟩)
    have b := mn.2 _ (mem_stretch.mpr ⟨j, by omega, rfl⟩)
    omega
  · intro ev
    obtain ⟨i, h1, e1⟩ := mem_stretch.mp mx.1
    obtain ⟨j, h2, e2⟩ := mem_stretch.mp mn.1
    have := ev i j (by omega) (by omega)
    omega
theorem len__law_uneven : ∀ rs β Q E, T__law_uneven rs β Q E → rs.length = 1 ∧ Fz rs := by
  rintro rs β Q E ⟨ns, rfl, _⟩
  exact ⟨rfl, Fz.nil.val⟩
theorem hts_at {ns : List Int} {k : Int} {i : Nat} (e : k = (i : Int)) (h : i ≤ ns.length) : atI ((hts ns).map D.int) k = some (.int (hs ns i)) := atI_map e (hts_get ns h)
theorem spec__law_uneven : ∀ rs β PQ PE, T__law_uneven rs β PQ PE → b__law_uneven (endsOf PQ) ⟨startR N__law_uneven rs, β⟩ := by
  rintro rs β PQ PE ⟨ns, rfl, hl, q1, q2⟩
  have ll : (((ns.map D.int).length : Nat) : Int) = (ns.length : Int) := by rw [List.length_map]
  refine ⟨_, rfl, ns, rfl, by omega, ?_⟩
  refine ⟨_, rfl, ⟨⟨by decide, by decide⟩, by omega, by omega⟩, fun i ρ => (∀ k, 1 ≤ k → k < 1 + i → EvenAt ns k) ∧ ∃ x2 x3 x4, ρ = ⟨[some (.val (iL ns)), some (.val (iL (hts ns))), x2, x3, x4], β⟩, ⟨fun k a b => by omega, none, none, none, rfl⟩, ?_, ?_⟩
  · rintro i x ρ hi hx ⟨ev, x2, x3, x4, rfl⟩
    have hx2 := (Option.some.inj hx).symm
    subst hx2
    have hi2 : 1 + i ≤ ns.length := by omega
    have lc : (((ns.map D.int).length : Nat) : Int) - (1 + (i : Int)) + 1 = ((ns.length - (1 + i) + 1 : Nat) : Int) := by omega
    refine ⟨_, rfl, _, rfl, ⟨by omega, by omega⟩, by omega, Wm (fun s => D.int (hs ns (s + (1 + i)) - hs ns s)) β, ⟨rfl, rfl⟩, fun s x acc β' hs' hx hw => lcmT (Option.some.inj hx).symm hw fun P hP => ?_, ?_⟩
    · rw [lc, Int.toNat_natCast] at hs'
      exact ⟨_, rfl, _, rfl, _, rfl, _, hts_at (i := s + (1 + i)) (by omega) (by omega), _, rfl, _, rfl, _, hts_at rfl (by omega), hP⟩
    · rintro _ β ⟨rfl, rfl⟩
      rw [lc, Int.toNat_natCast]
      have es : (List.range (ns.length - (1 + i) + 1)).map (fun s => D.int (hs ns (s + (1 + i)) - hs ns s)) = (stretch ns (1 + i)).map D.int := by
        unfold stretch
        rw [List.map_map]
        rfl
      rw [es]
      have ne := stretch_ne ns (1 + i)
      have mx := maxL_spec ne
      have mn := minL_spec ne
      refine ⟨_, rfl, _, _, rfl, intsOf_map _, ne, _, rfl, _, _, rfl, intsOf_map _, ne, _, rfl, ifD (fun z => ?_) fun z => ?_⟩
      · obtain ⟨a, ha⟩ := idx_ints mn.1
        obtain ⟨b, hb⟩ := idx_ints mx.1
        refine ⟨_, rfl, trivial, _, rfl, _, _, rfl, intsOf_map _, ne, shps_ints 62 _, shp_int 62 _, a, ha, ?_⟩
        refine ⟨_, rfl, trivial, _, rfl, _, _, rfl, intsOf_map _, ne, shps_ints 62 _, shp_int 62 _, b, hb, ?_⟩
        refine ⟨_, rfl, _, rfl, Nat.le_of_ble_eq_true rfl, ?_⟩
        have := q2 a b (1 + i) (by omega) hi2 (fun k a b => ev k a b) (fun e => (stretch_even hi2).mpr e z) ha hb
        rw [show ((1 + i : Nat) : Int) = 1 + (i : Int) by omega] at this
        exact this
      · refine ⟨fun k a b => ?_, _, _, _, rfl⟩
        by_cases c : k = 1 + i
        · rw [c]; exact (stretch_even hi2).mp z
        · exact ev k a (by omega)
  · rintro ρ ⟨ev, x2, x3, x4, rfl⟩
    exact q1 (even_at.mpr fun l a b => ev l a (by omega))
theorem len__law_steps : ∀ rs β Q E, T__law_steps rs β Q E → rs.length = 0 ∧ Fz rs := by
  rintro rs β Q E ⟨rfl, _⟩
  exact ⟨rfl, Fz.nil⟩
theorem spec__law_steps : ∀ rs β PQ PE, T__law_steps rs β PQ PE → b__law_steps (endsOf PQ) ⟨startR N__law_steps rs, β⟩ := by
  rintro rs β PQ PE ⟨rfl, q⟩
  exact ⟨_, rfl, Nat.le_of_ble_eq_true rfl, _, rfl, Nat.le_of_ble_eq_true rfl, _, rfl, Nat.le_of_ble_eq_true rfl, _, rfl, Nat.le_of_ble_eq_true rfl, _, rfl, Nat.le_of_ble_eq_true rfl, _, rfl, Nat.le_of_ble_eq_true rfl, _, rfl, Nat.le_of_ble_eq_true rfl, _, rfl, Nat.le_of_ble_eq_true rfl, _, rfl, Nat.le_of_ble_eq_true rfl, q⟩
theorem len__law_direction : ∀ rs β Q E, T__law_direction rs β Q E → rs.length = 1 ∧ Fz rs := by
  rintro rs β Q E ⟨ss, rfl, _⟩
  exact ⟨rfl, Fz.nil.val⟩
theorem spec__law_direction : ∀ rs β PQ PE, T__law_direction rs β PQ PE → b__law_direction (endsOf PQ) ⟨startR N__law_direction rs, β⟩ := by
  rintro rs β PQ PE ⟨ss, rfl, hd, hl, q1, q2⟩
  refine ⟨⟨by decide, by decide⟩, fun i ρ => (∀ e : Int, 0 ≤ e → e < i → ¬ Two ss e) ∧ ∃ x y, ρ = ⟨[some (.val (iL ss)), x, y], β⟩, ⟨fun e a b => by omega, none, none, rfl⟩, ?_, ?_⟩
  · rintro i x ρ hi hx ⟨no, x1, x2, rfl⟩
    have hx2 := (Option.some.inj hx).symm
    subst hx2
    have hi8 : i < 8 := hi
    refine ⟨_, rfl, by rw [List.length_map]; omega, Wf (fun j => !decide (ss.getD j 0 = (i : Int) ∨ ss.getD j 0 = ((i : Int) + 1) % 8)) (fun j => D.int (ss.getD j 0)) β, ⟨rfl, rfl⟩, fun j x acc β' hj hx hw => lcfT (by show 2 < 3; decide) (lst_item (xs := ss) (g := D.int) 0 j x hj hx) hw fun P hP => ?_, ?_⟩
    · exact ⟨_, rfl, _, rfl, _, rfl, show (8 : Int) ≠ 0 by decide, _, rfl, Nat.le_of_ble_eq_true rfl, rfl, rfl, _, rfl, eqP (P := P) (two_key (by omega)) hP⟩
    rintro _ β ⟨rfl, rfl⟩
    refine ⟨[], rfl, by decide, fnil (fun i hi => shp_int 63 _) (fun z => ⟨_, rfl, ifT rfl ⟨_, rfl, ?_⟩⟩) fun z => ⟨_, rfl, ifF rfl ?_⟩⟩
    · rw [List.length_map] at z
      exact q1 _ (by omega) (by omega) (two_all.mp z) no
    · rw [List.length_map] at z
      refine ⟨fun e a b => ?_, _, _, rfl⟩
      by_cases c : e = (i : Int)
      · rw [c]
        exact fun t => z (two_all.mpr t)
      · exact no e a (by omega)
  · rintro ρ ⟨no, x1, x2, rfl⟩
    exact q2 fun d a b => no d a b
theorem len__law_path : ∀ rs β Q E, T__law_path rs β Q E → rs.length = 2 ∧ Fz rs := by
  rintro rs β Q E ⟨a, b, ss, rfl, _⟩
  exact ⟨rfl, Fz.nil.val.val⟩
theorem pth_len : ∀ (ss : List Int) (c : Int × Int), (pth c ss).length = ss.length + 1
  | [], _ => rfl
  | s :: ss, c => by rw [pth, List.length_cons, pth_len ss, List.length_cons]
theorem pth_snoc (s : Int) : ∀ (ss : List Int) (c : Int × Int), ∃ pre x, pth c ss = pre ++ [x] ∧ pth c (ss ++ [s]) = pre ++ [x] ++ [(x.1 + (mv s).1, x.2 + (mv s).2)]
  | [], c => ⟨[], c, rfl, rfl⟩
  | t :: ss, c => by
    obtain ⟨pre, x, e1, e2⟩ := pth_snoc s ss (c.1 + (mv t).1, c.2 + (mv t).2)
    exact ⟨c :: pre, x, by rw [pth, e1]; rfl, by rw [List.cons_append, pth, e2]; rfl⟩
theorem step_at {s : Int} (h0 : 0 ≤ s) (h8 : s < 8) : atI [iP 1 0, iP 1 1, iP 0 1, iP (-1) 1, iP (-1) 0, iP (-1) (-1), iP 0 (-1), iP 1 (-1)] s = some (iP (mv s).1 (mv s).2) := by
  have : s = 0 ∨ s = 1 ∨ s = 2 ∨ s = 3 ∨ s = 4 ∨ s = 5 ∨ s = 6 ∨ s = 7 := by omega
  rcases this with rfl | rfl | rfl | rfl | rfl | rfl | rfl | rfl <;> rfl
theorem spec__law_path : ∀ rs β PQ PE, T__law_path rs β PQ PE → b__law_path (endsOf PQ) ⟨startR N__law_path rs, β⟩ := by
  rintro rs β PQ PE ⟨a, b, ss, rfl, hd, hl, q⟩
  refine ⟨_, rfl, _, rfl, Nat.le_of_ble_eq_true rfl, _, rfl, fun i ρ => ∃ x y, ρ = ⟨[some (.val (iP a b)), some (.val (iL ss)), some (.own ((pth (a, b) (ss.take i)).map cP)), x, y], β⟩, ⟨none, none, rfl⟩, ?_, ?_⟩
  · rintro i x ρ hi hx ⟨x3, x4, rfl⟩
    obtain ⟨hi2, rfl⟩ := map_item hx
    have d := hd _ (List.getElem_mem hi2)
    obtain ⟨pre, y, e1, e2⟩ := pth_snoc ss[i] (ss.take i) (a, b)
    have lt : (pre ++ [y]).map cP = pre.map cP ++ [cP y] := by rw [List.map_append]; rfl
    have al : (pre.map cP ++ [cP y]).length ≤ 1000000 := by
      rw [← lt, ← e1, List.length_map, pth_len, List.length_take]
      omega
    have tk : ss.take (i + 1) = ss.take i ++ [ss[i]] := by rw [List.take_succ, List.getElem?_eq_getElem hi2]; rfl
    have eqn : (pth (a, b) (ss.take (i + 1))).map cP = pre.map cP ++ [cP y] ++ [iP (y.1 + (mv ss[i]).1) (y.2 + (mv ss[i]).2)] := by
      rw [tk, e2, List.map_append, lt]
      rfl
    rw [e1, lt]
    refine ⟨rfl, _, rfl, _, step_at d.1 d.2, ?_⟩
    exact ⟨_, rfl, _, atI_last _, _, rfl, _, rfl, _, rfl, _, rfl, _, atI_last _, _, rfl, _, rfl, _, rfl, _, rfl, Nat.le_of_ble_eq_true rfl, al, some (.val (.int ss[i])), some (.val (iP (mv ss[i]).1 (mv ss[i]).2)), by dsimp only; rw [eqn]; rfl⟩
  · rintro ρ ⟨x3, x4, rfl⟩
    rw [List.length_map, List.take_length]
    exact ⟨_, rfl, q⟩
theorem len__law_is_straight : ∀ rs β Q E, T__law_is_straight rs β Q E → rs.length = 1 ∧ Fz rs := by
  rintro rs β Q E ⟨ss, rfl, _⟩
  exact ⟨rfl, Fz.nil.val⟩
theorem spec__law_is_straight : ∀ rs β PQ PE, T__law_is_straight rs β PQ PE → b__law_is_straight (endsOf PQ) ⟨startR N__law_is_straight rs, β⟩ := by
  rintro rs β PQ PE ⟨ss, rfl, hd, hl, q1, q2⟩
  refine ⟨_, rfl, ss, rfl, hd, hl, fun d d0 d8 dt _ => ?_, fun no => ?_⟩
  · have si := strt_any hd d0 d8 dt
    refine ⟨_, rfl, _, rfl, ifT rfl ⟨_, rfl, by rw [List.length_map]; omega, Wm (fun i => D.int (if ss.getD i 0 = d then 0 else 1)) β, ⟨rfl, rfl⟩, fun i x acc β' hi hx hw => lcmT (lst_item (xs := ss) (g := D.int) 0 i x hi hx) hw fun P hP => ?_, ?_⟩⟩
    · refine ⟨_, rfl, _, rfl, ?_⟩
      by_cases z : ss.getD i 0 = d
      · rw [if_pos z] at hP
        exact eqPI (P := P) (by rw [decide_eq_true z]; rfl) hP
      · rw [if_neg z] at hP
        exact eqPI (P := P) (by rw [decide_eq_false z]; rfl) hP
    · rintro _ β ⟨rfl, rfl⟩
      rw [List.length_map, row_getD]
      exact ⟨rowOf ss d, rfl, by rw [row_len]; omega, fun ev => q1 (si.mpr ev), fun i j l a b c e _ _ => q2 fun st => e (even_at.mp (si.mp st) l a b)⟩
  · exact ⟨_, rfl, _, rfl, ifF rfl (q2 fun ⟨e, e0, e8, ht, _⟩ => no e e0 e8 ht)⟩
theorem len__law_line_row : ∀ rs β Q E, T__law_line_row rs β Q E → rs.length = 2 ∧ Fz rs := by
  rintro rs β Q E ⟨most, rfl, _⟩
  exact ⟨rfl, Fz.nil.val.gen⟩
theorem floor_step {n b x : Int} (b0 : 0 < b) (n0 : 0 ≤ n) (nb : n ≤ b) : (x + n) / b - x / b = 0 ∨ (x + n) / b - x / b = 1 := by
  have h1 : x / b ≤ (x + n) / b := Int.ediv_le_ediv b0 (by omega)
  have h2 : (x + n) / b ≤ (x + b) / b := Int.ediv_le_ediv b0 (by omega)
  have h3 : (x + b) / b = x / b + 1 := by
    have := Int.add_mul_ediv_right x 1 (by omega : b ≠ 0)
    rw [Int.one_mul] at this
    exact this
  omega
theorem spec__law_line_row : ∀ rs β PQ PE, T__law_line_row rs β PQ PE → b__law_line_row (endsOf PQ) ⟨startR N__law_line_row rs, β⟩ := by
  rintro rs β PQ PE ⟨most, rfl, m0, m1, hβ, q⟩
  refine ⟨_, rfl, _, rfl, _, rfl, by decide, _, rfl, by decide, by decide, by show 1 ≤ β; omega, fun d hd => ?_⟩
  have hk : ∃ k : Int, d = .int k ∧ 6 ≤ k ∧ k ≤ 40 := by
    simp at hd
    rcases hd with rfl | rfl | rfl
    · exact ⟨6, rfl, by decide, by decide⟩
    · exact ⟨15, rfl, by decide, by decide⟩
    · exact ⟨40, rfl, by decide, by decide⟩
  obtain ⟨k, rfl, k0, k1⟩ := hk
  refine ⟨by omega, log2_small (by omega) (by omega), by show 1 ≤ β - 1; omega, fun bo bo0 bo1 => ?_⟩
  refine ⟨_, rfl, _, rfl, by omega, log2_small (by omega) (by omega), by show 1 ≤ β - 1 - 1; omega, fun nu nu0 nu1 => ?_⟩
  refine ⟨_, rfl, _, rfl, by omega, log2_small (by omega) (by omega), by show 1 ≤ β - 1 - 1 - 1; omega, fun st st0 st1 => ?_⟩
  refine ⟨_, rfl, _, rfl, by omega, log2_small (by omega) (by omega), by show 1 ≤ β - 1 - 1 - 1 - 1; omega, fun ln ln0 ln1 => ?_⟩
  obtain ⟨L, rfl⟩ : ∃ L : Nat, ln = L := ⟨ln.toNat, by omega⟩
  refine ⟨_, rfl, ⟨by omega, by omega⟩, by omega, Wm (fun i => D.int ((nu * (i : Int) + st) / (1 + bo))) (β - 1 - 1 - 1 - 1 - 1), ⟨rfl, rfl⟩, fun i x acc β' hi hx hw => lcmT (Option.some.inj hx).symm hw fun P hP => ?_, ?_⟩
  · refine ⟨_, rfl, _, rfl, cm (by omega) (by omega) (by omega) (by omega), _, rfl, _, rfl, cdv (by omega) (by omega), eqPI (P := P) (Int.fdiv_eq_ediv_of_nonneg _ (by omega)) hP⟩
  rintro _ B ⟨rfl, rfl⟩
  have e : ((L : Int) + 1).toNat = L + 1 := by omega
  rw [e]
  have at_ : ∀ {k : Int} {i : Nat}, k = (i : Int) → i < L + 1 → atI ((List.range (L + 1)).map fun i : Nat => D.int ((nu * (i : Int) + st) / (1 + bo))) k = some (.int ((nu * (i : Int) + st) / (1 + bo))) := fun {k i} e h => by
    refine (atI_map (xs := List.range (L + 1)) (g := fun i : Nat => D.int ((nu * (i : Int) + st) / (1 + bo))) (x := i) e ?_)
    rw [List.getElem?_range h]
  refine ⟨_, rfl, ⟨by omega, by omega⟩, by omega, Wm (fun i => D.int ((nu * ((i + 1 : Nat) : Int) + st) / (1 + bo) - (nu * (i : Int) + st) / (1 + bo))) (β - 1 - 1 - 1 - 1 - 1), ⟨rfl, rfl⟩, fun i x acc β' hi hx hw => lcmT (Option.some.inj hx).symm hw fun P hP => ?_, ?_⟩
  · have hi2 : i < L := by omega
    exact ⟨_, rfl, _, rfl, _, at_ (i := i + 1) (by omega) (by omega), _, rfl, _, rfl, _, at_ (i := i) rfl (by omega), hP⟩
  · rintro _ B ⟨rfl, rfl⟩
    rw [Int.toNat_natCast]
    have := q ((List.range L).map fun i => (nu * ((i + 1 : Nat) : Int) + st) / (1 + bo) - (nu * (i : Int) + st) / (1 + bo)) (β - 1 - 1 - 1 - 1 - 1) (by rw [List.length_map, List.length_range]; omega) (fun x hx => by
      obtain ⟨i, _, rfl⟩ := List.mem_map.mp hx
      have e2 : nu * ((i + 1 : Nat) : Int) + st = nu * (i : Int) + st + nu := by
        rw [show ((i + 1 : Nat) : Int) = (i : Int) + 1 by omega, Int.mul_add]
        omega
      rw [e2]
      exact floor_step (by omega) nu0 (by omega)) (by omega)
    rw [List.map_map] at this
    exact this
theorem len__law_bent_row : ∀ rs β Q E, T__law_bent_row rs β Q E → rs.length = 2 ∧ Fz rs := by
  rintro rs β Q E ⟨row, rfl, _⟩
  exact ⟨rfl, Fz.nil.val.gen⟩
theorem spec__law_bent_row : ∀ rs β PQ PE, T__law_bent_row rs β PQ PE → b__law_bent_row (endsOf PQ) ⟨startR N__law_bent_row rs, β⟩ := by
  rintro rs β PQ PE ⟨row, rfl, hl, h01, hβ, q⟩
  refine ⟨_, rfl, [], rfl, by decide, fEq_nil (P := fun z => dTest (fun ρ Q => Q z ρ.β) ⟨[], β⟩ fun c β => if c = true then _ else _) rfl (fun z => ⟨_, rfl, ifT rfl ?_⟩) fun z => ⟨_, rfl, ifF rfl ?_⟩⟩
  · exact ⟨_, rfl, by decide, q [0] β (by simp) (fun x hx => .inl (List.mem_singleton.mp hx)) (by omega) (Nat.le_refl _)⟩
  · have l0 : 0 < row.length := List.length_pos_iff.mpr z
    have ll : (((row.map D.int).length : Nat) : Int) = (row.length : Int) := by rw [List.length_map]
    refine ⟨_, rfl, _, rfl, by omega, log2_small (by omega) (by omega), hβ, fun r r0 r1 => ?_⟩
    obtain ⟨k, rfl⟩ : ∃ k : Nat, r = k := ⟨r.toNat, by omega⟩
    have kl : k < row.length := by omega
    refine ⟨_, rfl, _, rfl, _, rfl, _, rfl, _, atI_map (g := D.int) rfl (List.getElem?_eq_getElem kl), row.map D.int, k, .int (1 - row[k]), rfl, by rw [List.length_map]; exact kl, by rw [List.length_map]; omega, ?_⟩
    have := q (row.set k (1 - row[k])) (β - 1) (by rw [List.length_set]; omega) (fun x hx => by
      rcases List.mem_or_eq_of_mem_set hx with h | rfl
      · exact h01 x h
      · have := h01 _ (List.getElem_mem kl)
        omega) (by omega) (by omega)
    rw [List.map_set] at this
    exact this
theorem len__law_cell_drawn : ∀ rs β Q E, T__law_cell_drawn rs β Q E → rs.length = 1 ∧ Fz rs := by
  rintro rs β Q E ⟨rfl, _⟩
  exact ⟨rfl, Fz.nil.gen⟩
theorem spec__law_cell_drawn : ∀ rs β PQ PE, T__law_cell_drawn rs β PQ PE → b__law_cell_drawn (endsOf PQ) ⟨startR N__law_cell_drawn rs, β⟩ := by
  rintro rs β PQ PE ⟨rfl, hβ, q⟩
  refine ⟨_, rfl, ⟨by decide, by decide +kernel⟩, _, rfl, Nat.le_of_ble_eq_true rfl, _, rfl, Nat.zero_lt_succ _, Nat.le_of_ble_eq_true rfl, by show 1 ≤ β; omega, fun d hd => ?_⟩
  have hk : ∃ k : Int, d = .int k ∧ 5 ≤ k ∧ k ≤ 100000000000000000000 := by
    rcases List.mem_cons.mp hd with rfl | hd
    · exact ⟨5, rfl, by decide, by decide⟩
    · rw [List.mem_singleton] at hd
      exact ⟨100000000000000000000, hd, by decide, by decide⟩
  obtain ⟨k, rfl, k0, k1⟩ := hk
  refine ⟨_, rfl, _, rfl, cm (by omega) (by omega) (by omega) (by omega), by omega, log2_small (by omega) (by omega), by show 1 ≤ β - 1; omega, fun r r0 r1 => ?_⟩
  refine ⟨_, rfl, _, rfl, _, rfl, cm (by omega) (by omega) (by omega) (by omega), by omega, log2_small (by omega) (by omega), by show 1 ≤ β - 1 - 1; omega, fun s s0 s1 => ?_⟩
  exact ⟨_, rfl, _, rfl, Nat.le_of_ble_eq_true rfl, q _ _ (β - 1 - 1 - 1) (by omega) (by omega) (by omega) (by omega) (by omega)⟩
theorem len__law_drawn_steps : ∀ rs β Q E, T__law_drawn_steps rs β Q E → rs.length = 2 ∧ Fz rs := by
  rintro rs β Q E ⟨most, rfl, _⟩
  exact ⟨rfl, Fz.nil.val.gen⟩
theorem dirs_of {n : Nat} {f : Nat → Int} (h : ∀ i, i < n → 0 ≤ f i ∧ f i < 8) : Dirs ((List.range n).map f) := fun s hs => by
  obtain ⟨i, hi, rfl⟩ := List.mem_map.mp hs
  exact h i (List.mem_range.mp hi)
theorem mod8 (a : Int) : 0 ≤ a.fmod 8 ∧ a.fmod 8 < 8 := fmod_in (by decide)
theorem spec__law_drawn_steps : ∀ rs β PQ PE, T__law_drawn_steps rs β PQ PE → b__law_drawn_steps (endsOf PQ) ⟨startR N__law_drawn_steps rs, β⟩ := by
  rintro rs β PQ PE ⟨most, rfl, m0, m1, hβ, q⟩
  refine ⟨_, rfl, by decide, by decide, by show 1 ≤ β; omega, fun di di0 di1 => ?_⟩
  refine ⟨_, rfl, by decide, by decide, by show 1 ≤ β - 1; omega, fun wa wa0 wa1 => ?_⟩
  refine ⟨_, rfl, _, rfl, most, rfl, m0, by omega, by show 5 ≤ β - 1 - 1; omega, fun row B1 rl r01 hB1 => ?_⟩
  have hB1' : β - 1 - 1 = B1 + 5 := hB1
  -- behind the row
  have rest : ∀ (row : List Int) (B : Nat), (row.length : Int) ≤ most + 1 → β ≤ B + 8 → B ≤ β →
    (dSeq (dSetV 5 (dLc (diList (dVar 4)) (dgName 6) dYes (dBin fMod (dUn fInt (dBin fPlus (dVar 2) (dVar 6))) (dC (.int 8))) [6]))
     (dSeq (dIfS (dAnd (dTest (dBin (fEq false) (dVar 3) (dC (.int 1)))) (dTest (dBin (fEq true) (dVar 5) (dLst dNil))))
     (dSetV 5 (dCall T__law_put noE (dCons (dVar 5) (dCons (dCall T__law_random noE (dCons (dVar 0) (dCons (dUn fLen (dVar 5)) dNil))) (dCons (dCall T__law_random noE (dCons (dVar 0) (dCons (dC (.int 8)) dNil))) dNil)))))
     dNext)
     (dRet (dIf (dTest (dBin fLt (dVar 3) (dC (.int 3)))) (dVar 5) (dLc (diR1 (dCall T__law_random noE (dCons (dVar 0) (dCons (dBin fPlus (dVar 1) (dC (.int 1))) dNil)))) (dgName 7) dYes (dBin fMod (dUn fInt (dBin fPlus (dVar 2) (dCall T__law_random noE (dCons (dVar 0) (dCons (dC (.int 2)) dNil))))) (dC (.int 8))) [7])))))
    (endsOf PQ) ⟨[some .gen, some (.val (.int most)), some (.val (.int di)), some (.val (.int wa)), some (.val (iL row)), none, none, none], B⟩ := by
    intro row B rl hB hB2
    -- behind the steps
    have last : ∀ (ss : List Int) (C : Nat), Dirs ss → (ss.length : Int) ≤ most + 1 → β ≤ C + 10 → C ≤ β →
      (dRet (dIf (dTest (dBin fLt (dVar 3) (dC (.int 3)))) (dVar 5) (dLc (diR1 (dCall T__law_random noE (dCons (dVar 0) (dCons (dBin fPlus (dVar 1) (dC (.int 1))) dNil)))) (dgName 7) dYes (dBin fMod (dUn fInt (dBin fPlus (dVar 2) (dCall T__law_random noE (dCons (dVar 0) (dCons (dC (.int 2)) dNil))))) (dC (.int 8))) [7])))
      (endsOf PQ) ⟨[some .gen, some (.val (.int most)), some (.val (.int di)), some (.val (.int wa)), some (.val (iL row)), some (.val (iL ss)), none, none], C⟩ := by
      intro ss C hd sl hC hC2
      refine ⟨_, rfl, _, rfl, ifD (fun z => ?_) fun z => ?_⟩
      · exact ⟨_, rfl, q ss _ C hd sl (.inl rfl) (by omega) hC2⟩
      · refine ⟨_, rfl, _, rfl, by omega, log2_small (by omega) (by omega), by show 1 ≤ C; omega, fun n n0 n1 => ?_⟩
        obtain ⟨N, rfl⟩ : ∃ N : Nat, n = N := ⟨n.toNat, by omega⟩
        refine ⟨⟨by omega, by omega⟩, by omega, fun i acc β' => ∃ xs : List Int, acc = xs.map D.int ∧ xs.length = i ∧ Dirs xs ∧ β' + i = C - 1, ⟨[], rfl, rfl, (fun s h => by cases h), rfl⟩, ?_, ?_⟩
        · rintro i x acc β' hi hx ⟨xs, rfl, xl, xd, hb⟩
          have hi2 : i < N := by omega
          have hx2 := (Option.some.inj hx).symm
          subst hx2
          unfold dgName dYes
          refine ifT rfl ?_
          refine ⟨_, rfl, _, rfl, by decide, by decide, by show 1 ≤ β'; omega, fun r r0 r1 => ?_⟩
          refine ⟨show (8 : Int) ≠ 0 by decide, xs ++ [(di + r).fmod 8], by rw [List.map_append]; rfl, by rw [List.length_append]; simp; exact xl, fun s hs => ?_, by show β' - 1 + (i + 1) = C - 1; omega⟩
          rcases List.mem_append.mp hs with h | h
          · exact xd s h
          · rw [List.mem_singleton] at h
            rw [h]
            exact mod8 _
        · rintro acc β' ⟨xs, rfl, xl, xd, hb⟩
          have xl2 : xs.length = N := by rw [xl]; omega
          exact q xs _ β' xd (by omega) (.inr rfl) (by omega) (by omega)
    refine ⟨_, rfl, by rw [List.length_map]; omega, Wm (fun i => D.int ((di + row.getD i 0).fmod 8)) B, ⟨rfl, rfl⟩, fun i x acc β' hi hx hw => lcmT (lst_item (xs := row) (g := D.int) 0 i x hi hx) hw fun P hP => ?_, ?_⟩
    · exact ⟨_, rfl, _, rfl, show (8 : Int) ≠ 0 by decide, hP⟩
    rintro _ B ⟨rfl, rfl⟩
    have es : (List.range (row.map D.int).length).map (fun i => D.int ((di + row.getD i 0).fmod 8)) = ((List.range row.length).map fun i => (di + row.getD i 0).fmod 8).map D.int := by
      rw [List.length_map, List.map_map]
      rfl
    rw [es]
    generalize hss : ((List.range row.length).map fun i => (di + row.getD i 0).fmod 8) = ss
    have sd : Dirs ss := by rw [← hss]; exact dirs_of fun i _ => mod8 _
    have sl : ss.length = row.length := by rw [← hss]; simp
    refine ⟨_, rfl, _, rfl, ?_⟩
    refine ifDn (fun z => ?_) fun z => ?_
    · refine ⟨_, rfl, [], rfl, by decide, ?_⟩
      have key : D.shp 64 (iL ss) ∧ D.shp 64 (.lst []) := ⟨shp_iL 63 ss, shp_iL 63 []⟩
      refine ⟨key.1, key.2, _, rfl, ?_⟩
      have ee : D.eqv (iL ss) (.lst []) = decide (ss = []) := by
        rw [eqv_lst]
        exact eqs_ints ss []
      rw [show (true != D.eqv (.lst (ss.map D.int)) (.lst [])) = !decide (ss = []) by rw [show D.eqv (.lst (ss.map D.int)) (.lst []) = decide (ss = []) from ee, Bool.true_bne]]
      by_cases ne : ss = []
      · refine ifF (by rw [decide_eq_true ne]; rfl) ?_
        exact last ss B sd (by omega) (by omega) (by omega)
      · refine ifT (by rw [decide_eq_false ne]; rfl) ?_
        have l0 : 0 < ss.length := List.length_pos_iff.mpr ne
        have ll : (((ss.map D.int).length : Nat) : Int) = (ss.length : Int) := by rw [List.length_map]
        refine ⟨_, rfl, _, rfl, _, rfl, by omega, log2_small (by omega) (by omega), by show 1 ≤ B; omega, fun r r0 r1 => ?_⟩
        refine ⟨_, rfl, by decide, by decide, by show 1 ≤ B - 1; omega, fun v v0 v1 => ?_⟩
        obtain ⟨k, rfl⟩ : ∃ k : Nat, r = k := ⟨r.toNat, by omega⟩
        have kl : k < ss.length := by omega
        refine ⟨ss.map D.int, k, .int v, rfl, by rw [List.length_map]; exact kl, by rw [List.length_map]; omega, ?_⟩
        have := last (ss.set k v) (B - 1 - 1) (fun s hs => by
          rcases List.mem_or_eq_of_mem_set hs with h | rfl
          · exact sd s h
          · omega) (by rw [List.length_set]; omega) (by omega) (by omega)
        have ims : iL (ss.set k v) = D.lst ((ss.map D.int).set k (.int v)) := congrArg D.lst List.map_set
        rw [ims] at this
        exact this
    · exact last ss B sd (by omega) (by omega) (by omega)
  refine ⟨_, rfl, _, rfl, ifDn (fun z => ?_) fun z => ?_⟩
  · refine ⟨_, rfl, _, rfl, row, rfl, by omega, r01, by show 1 ≤ B1; omega, fun row' B2 rl' _ h1 h2 => ?_⟩
    have h1' : B1 ≤ B2 + 1 := h1
    have h2' : B2 ≤ B1 := h2
    exact rest row' B2 (by omega) (by omega) (by omega)
  · exact rest row B1 (by omega) (by omega) (by omega)
theorem len__law_fewest : ∀ rs β Q E, T__law_fewest rs β Q E → rs.length = 1 ∧ Fz rs := by
  rintro rs β Q E ⟨ss, rfl, _⟩
  exact ⟨rfl, Fz.nil.val⟩
theorem spec__law_fewest : ∀ rs β PQ PE, T__law_fewest rs β PQ PE → b__law_fewest (endsOf PQ) ⟨startR N__law_fewest rs, β⟩ := by
  rintro rs β PQ PE ⟨ss, rfl, hd, ne, hl, q⟩
  have ll : (((ss.map D.int).length : Nat) : Int) = (ss.length : Int) := by rw [List.length_map]
  refine ⟨_, rfl, by decide, _, rfl, ⟨⟨by decide, by decide⟩, by omega, by omega⟩, fun i ρ => ∃ (bs : List Int) (x y : Option R), bs.length = i + 1 ∧ (∀ e, e ≤ i → ∃ k : Nat, bs[e]? = some (k : Int) ∧ Cnt ss e k) ∧ ρ = ⟨[some (.val (iL ss)), some (.own (bs.map D.int)), x, y], β⟩, ⟨[0], none, none, rfl, fun e he => ⟨0, by rw [Nat.le_zero.mp he]; rfl, .inl ⟨rfl, Nat.le_zero.mp he⟩⟩, rfl⟩, ?_, ?_⟩
  · rintro i x ρ hi hx ⟨bs, x2, y2, bl, bc, rfl⟩
    have hx2 := (Option.some.inj hx).symm
    subst hx2
    have hi2 : 1 + i ≤ ss.length := by omega
    -- the candidates, told by what is picked
    refine ⟨_, rfl, ⟨by omega, by omega⟩, by omega, fun j acc β' => ∃ cs : List Int, acc = cs.map D.int ∧ (∀ c ∈ cs, ∃ s k : Nat, s < j ∧ Strt (seg ss s (1 + i)) ∧ Cnt ss s k ∧ c = (k : Int) + 1) ∧ (∀ s k : Nat, s < j → Strt (seg ss s (1 + i)) → Cnt ss s k → ((k : Int) + 1) ∈ cs) ∧ β' = β, ⟨[], rfl, (fun c h => by cases h), (fun s k h => by omega), rfl⟩, ?_, ?_⟩
    · rintro j x acc β' hj hx ⟨cs, rfl, c1, c2, rfl⟩
      have hj2 : j ≤ i := by omega
      have hx2 := (Option.some.inj hx).symm
      subst hx2
      unfold dgName
      obtain ⟨k, hk, ck⟩ := bc j hj2
      refine ⟨_, rfl, _, rfl, _, rfl, seg ss j (1 + i), congrArg (fun x => [R.val (.lst x)]) (cut_seg (by omega) rfl (by omega)), seg_dirs hd, Nat.le_trans seg_len (by omega), fun st => ⟨_, rfl, ifT rfl ?_⟩, fun ns => ⟨_, rfl, ifF rfl ?_⟩⟩
      · refine ⟨_, rfl, _, rfl, _, atI_map (g := D.int) rfl hk, cs ++ [(k : Int) + 1], by rw [List.map_append]; rfl, fun c hc => ?_, fun s k' hs st' ck' => ?_, rfl⟩
        · rcases List.mem_append.mp hc with h | h
          · obtain ⟨s, k', h1, h2⟩ := c1 c h
            exact ⟨s, k', by omega, h2⟩
          · rw [List.mem_singleton] at h
            exact ⟨j, k, by omega, st, ck, h⟩
        · by_cases e : s = j
          · subst e
            rw [ck'.uniq ck]
            exact List.mem_append_right _ (List.mem_singleton.mpr rfl)
          · exact List.mem_append_left _ (c2 s k' (by omega) st' ck')
      · refine ⟨cs, rfl, fun c hc => ?_, fun s k' hs st' ck' => ?_, rfl⟩
        · obtain ⟨s, k', h1, h2⟩ := c1 c hc
          exact ⟨s, k', by omega, h2⟩
        · by_cases e : s = j
          · subst e
            exact absurd st' ns
          · exact c2 s k' (by omega) st' ck'
    · rintro acc β' ⟨cs, rfl, c1, c2, rfl⟩
      have tn : ((1 : Int) + (i : Int)).toNat = 1 + i := by omega
      rw [tn] at c1 c2
      have nec : cs ≠ [] := fun e => by
        obtain ⟨k, hk, ck⟩ := bc i (Nat.le_refl _)
        have := c2 i k (by omega) (strt_one (seg_dirs hd) (by unfold seg; rw [List.length_take]; omega)) ck
        rw [e] at this
        cases this
      have mn := minL_spec nec
      obtain ⟨s, k, h1, h2, h3, h4⟩ := c1 _ mn.1
      have cn : Cnt ss (1 + i) (k + 1) := cnt_min hd hi2 (by omega) ⟨s, h1, h2, k, h3, rfl⟩ fun s' c' a b d => by
        have := mn.2 _ (c2 s' c' a b d)
        omega
      refine ⟨_, _, rfl, intsOf_map _, nec, by rw [List.length_map]; omega, bs ++ [minL cs], some (.val (.int (1 + (i : Int)))), y2, by rw [List.length_append]; simp; omega, fun e he => ?_, ?_⟩
      · by_cases c : e = 1 + i
        · subst c
          refine ⟨k + 1, ?_, cn⟩
          rw [List.getElem?_append_right (by omega), show 1 + i - bs.length = 0 by omega, h4]
          rfl
        · obtain ⟨k', e1, e2⟩ := bc e (by omega)
          exact ⟨k', by rw [List.getElem?_append_left (by omega)]; exact e1, e2⟩
      · rw [List.map_append]
        rfl
  · rintro ρ ⟨bs, x2, y2, bl, bc, rfl⟩
    have tn : ((((ss.map D.int).length : Nat) : Int) + 1 - 1).toNat = ss.length := by omega
    rw [tn] at bl bc
    obtain ⟨k, hk, ck⟩ := bc ss.length (Nat.le_refl _)
    rw [ck.uniq (cnt_greedy ne)] at hk
    refine ⟨_, rfl, _, ?_, q⟩
    have hb : bs = bs.take ss.length ++ [((greedy ss).length : Int)] := by
      have h1 : bs.take (ss.length + 1) = bs.take ss.length ++ [((greedy ss).length : Int)] := by
        rw [List.take_succ, hk]
        rfl
      rw [← h1, List.take_of_length_le (by omega)]
    show atI (bs.map D.int) (-1) = _
    rw [hb, List.map_append]
    exact atI_last _
end DL
namespace DL
open PySem L2
/-! ### the law itself -/
theorem len_law : ∀ rs β Q E, T_law rs β Q E → rs.length = 1 ∧ Fz rs := by
  rintro rs β Q E ⟨ns, hl, hb, rfl, _⟩
  exact ⟨rfl, Fz.nil.val⟩
theorem gD_len {ss : List Int} (h : ss.length ≤ 60) : (gD ss).length ≤ 61 := by
  unfold gD
  split
  · exact Nat.le_of_ble_eq_true rfl
  · rw [List.length_map]
    have := pcs_len (ss := ss) ss.length 0
    unfold greedy
    exact Nat.le_trans this (by omega)
theorem gD_pair {ss : List Int} : ∀ d ∈ gD ss, ∃ a b : Int, d = iP a b := fun d hd => by
  unfold gD at hd
  split at hd
  · exact ⟨0, 0, List.mem_singleton.mp hd⟩
  · obtain ⟨p, _, rfl⟩ := List.mem_map.mp hd
    exact ⟨_, _, rfl⟩
theorem sml_pair (n : Nat) (a b : Int) : Sml (n + 1) (iP a b) := by
  refine ⟨Nat.le_of_ble_eq_true rfl, fun d hd => ?_⟩
  rcases List.mem_cons.mp hd with rfl | hd
  · cases n <;> trivial
  · rw [List.mem_singleton] at hd
    subst hd
    cases n <;> trivial
theorem sml_gD (n : Nat) {ss : List Int} (h : ss.length ≤ 60) : Sml (n + 2) (.lst (gD ss)) := by
  refine ⟨Nat.le_trans (gD_len h) (by decide), fun d hd => ?_⟩
  obtain ⟨a, b, rfl⟩ := gD_pair d hd
  exact sml_pair n a b
theorem sml_lst (n : Nat) {ds : List D} (hl : ds.length ≤ 1000000) (h : ∀ d ∈ ds, Sml n d) : Sml (n + 1) (.lst ds) := ⟨hl, h⟩
theorem eqv_bl (a b : Bool) : D.eqv (.bl a) (.bl b) = (a == b) := by
  unfold D.eqv
  rw [D.py, D.py, PyData.eqv]
theorem cells_repr {cs : List (Int × Int)} (hl : cs.length ≤ 61) (h : ∀ c ∈ cs, (-100000000000000000100 ≤ c.1 ∧ c.1 ≤ 100000000000000000100) ∧ -100000000000000000100 ≤ c.2 ∧ c.2 ≤ 100000000000000000100) : D.shp 60 (cL cs) ∧ D.shw (cL cs) ∧ D.ln (cL cs) ≤ 1000000 := by
  have one : ∀ i : Int, -100000000000000000100 ≤ i → i ≤ 100000000000000000100 → D.shw (.int i) ∧ D.ln (.int i) ≤ 23 := fun i h1 h2 => by
    refine ⟨?_, ln_int (k := 22) (by decide) (by omega)⟩
    rw [D.shw]
    exact Nat.lt_of_lt_of_le (PySem.Flt.log2_lt_of (by decide) (natAbs_lt_pow (by omega) (by omega))) (by decide)
  refine ⟨shp_lst.mpr (shps_iff.mpr fun d hd => ?_), ?_, ?_⟩
  · obtain ⟨c, _, rfl⟩ := List.mem_map.mp hd
    exact shp_pair 58 _ _
  · rw [D.shw, shws_iff]
    intro d hd
    obtain ⟨c, hc, rfl⟩ := List.mem_map.mp hd
    have := h c hc
    rw [D.shw, D.shws, D.shws, D.shws]
    exact ⟨(one _ this.1.1 this.1.2).1, (one _ this.2.1 this.2.2).1, trivial⟩
  · rw [D.ln]
    have := lns_le (m := 60) (ds := cs.map cP) fun d hd => by
      obtain ⟨c, hc, rfl⟩ := List.mem_map.mp hd
      have := h c hc
      have a := (one _ this.1.1 this.1.2).2
      have b := (one _ this.2.1 this.2.2).2
      rw [D.ln, D.lns, D.lns, D.lns]
      omega
    rw [List.length_map] at this
    have l2 : cs.length * (60 + 2) ≤ 61 * (60 + 2) := Nat.mul_le_mul_right _ hl
    omega
theorem eqP2 {P : R → Prop} {a b : Bool} (e : a = b) (h : P (.val (.bl b))) : P (.val (.bl a)) := by rw [e]; exact h
/-- a cell row cut -/
theorem cut_cells {cs : List (Int × Int)} {i j : Nat} (h : i ≤ j) {a b : Int} (ea : a = (i : Int)) (eb : b = (j : Int)) : cutD (cs.map cP) (some a) (some b) = ((cs.drop i).take (j - i)).map cP := by
  rw [ea, eb, cut_both h, ← List.map_drop, ← List.map_take]
theorem cut60 (ss : List Int) : cutD (ss.map D.int) none (some 60) = (ss.take 60).map D.int := by
  rw [show (60 : Int) = ((60 : Nat) : Int) from rfl, cut_to, List.map_take]
theorem fNe_nil {ss : List Int} {P : R → Prop} {v : R} (hv : look v = some (iL ss)) (h1 : ss = [] → P (.val (.bl false))) (h2 : ss ≠ [] → P (.val (.bl true))) : fEq true v (.own []) P := by
  have key : D.shp 64 (iL ss) ∧ D.shp 64 (.lst []) ∧ P (.val (.bl (true != D.eqv (iL ss) (.lst [])))) := by
    refine ⟨shp_iL 63 ss, shp_iL 63 [], ?_⟩
    have e := eqs_ints ss []
    rw [eqv_lst]
    rw [List.map_nil] at e
    rw [e]
    by_cases z : ss = []
    · rw [decide_eq_true z]
      exact h1 z
    · rw [decide_eq_false z]
      exact h2 z
  unfold fEq
  rw [hv]
  exact key
section
variable {a0 a1 a2 a4 a7 a8 a9 a10 a11 : Option R} {S : List Int} {cs : List (Int × Int)} {r6 : R} {C : Nat} {d : DEnds}
theorem law_10 (isp : IsP cs S) (rp : D.shp 60 (cL cs) ∧ D.shw (cL cs) ∧ D.ln (cL cs) ≤ 1000000) (h6 : r6 = .own (gD S) ∨ r6 = .val (.lst (gD S))) (fin : d.nx ⟨[a0, a1, a2, some (.val (iL S)), a4, some (.val (cL cs)), some r6, a7, a8, some (.val (.str (cL cs).py.shown)), a10, a11], C⟩) :
    b_law_1_10 d ⟨[a0, a1, a2, some (.val (iL S)), a4, some (.val (cL cs)), some r6, a7, a8, some (.val (.str (cL cs).py.shown)), a10, a11], C⟩ := by
  rcases h6 with rfl | rfl
  all_goals
    exact ⟨_, rfl, cs, S, rfl, isp, _, rfl, _, rfl, sml_gD 3 isp.few, _, rfl, ifF rfl ⟨_, rfl, rp.1, rp.2.1, rp.2.2, _, rfl, _, rfl, ifDx (fun h => absurd rfl h) fun _ => fin⟩⟩
theorem law_9 (isp : IsP cs S) (rp : D.shp 60 (cL cs) ∧ D.shw (cL cs) ∧ D.ln (cL cs) ≤ 1000000) (h6 : r6 = .own (gD S) ∨ r6 = .val (.lst (gD S))) (fin : ∀ a10, d.nx ⟨[a0, a1, a2, some (.val (iL S)), a4, some (.val (cL cs)), some r6, a7, a8, some (.val (.str (cL cs).py.shown)), a10, a11], C⟩) :
    b_law_1_9 d ⟨[a0, a1, a2, some (.val (iL S)), a4, some (.val (cL cs)), some r6, a7, a8, some (.val (.str (cL cs).py.shown)), some (.own (gD S)), a11], C⟩ :=
  ⟨Nat.le_trans (gD_len isp.few) (by decide), law_10 isp rp h6 (fin _)⟩
theorem gD_at {i : Nat} (isp : IsP cs S) (h : i < (gD S).length) : ∃ f l : Nat, (gD S)[i]? = some (iP f l) ∧ f ≤ l ∧ l ≤ S.length ∧ Strt (seg S f l) := by
  rw [List.getElem?_eq_getElem h]
  have m := List.getElem_mem h
  generalize (gD S)[i] = x at m
  unfold gD at m
  split at m
  · rename_i e
    rw [List.mem_singleton] at m
    subst m e
    exact ⟨0, 0, rfl, Nat.le_refl _, Nat.le_refl _, strt_nil⟩
  · obtain ⟨p, hp, rfl⟩ := List.mem_map.mp m
    have := pcs_mem isp.dir _ _ p hp
    exact ⟨p.1, p.2, rfl, by omega, this.2.1, this.2.2⟩
theorem gD_one_iff (isp : IsP cs S) : (gD S).length = 1 ↔ Strt S := by
  by_cases e : S = []
  · subst e
    rw [gD_nil]
    exact ⟨fun _ => strt_nil, fun _ => rfl⟩
  · unfold gD
    rw [if_neg e, List.length_map]
    exact one_iff e isp.dir
theorem law_8 (isp : IsP cs S) (rp : D.shp 60 (cL cs) ∧ D.shw (cL cs) ∧ D.ln (cL cs) ≤ 1000000) (h6 : r6 = .own (gD S) ∨ r6 = .val (.lst (gD S))) (fin : ∀ a10, d.nx ⟨[a0, a1, a2, some (.val (iL S)), a4, some (.val (cL cs)), some r6, a7, a8, some (.val (.str (cL cs).py.shown)), a10, a11], C⟩) :
    b_law_1_8 d ⟨[a0, a1, a2, some (.val (iL S)), a4, some (.val (cL cs)), some r6, a7, a8, some (.val (.str (cL cs).py.shown)), some (.own (gD S)), a11], C⟩ := by
  have next := law_9 (C := C) (a0 := a0) (a1 := a1) (a2 := a2) (a4 := a4) (a7 := a7) (a8 := a8) (a11 := a11) isp rp h6 fin
  have gl := gD_len isp.few
  have it : ∀ i x, i < (gD S).length → (gD S)[i]? = some x → x = (gD S).getD i .non := fun i x _ h => by
    rw [List.getD_eq_getElem?_getD, h]
    rfl
  have k := gD_one_iff isp
  have e1 : Strt S → (true != D.eqv (.bl (false != decide (((gD S).length : Int) = 1))) (.bl true)) = false := fun z => by
    have z1 : ((gD S).length : Int) = 1 := by have := k.mpr z; omega
    rw [eqv_bl, decide_eq_true z1]
    rfl
  have e2 : ¬ Strt S → (true != D.eqv (.bl (false != decide (((gD S).length : Int) = 1))) (.bl false)) = false := fun z => by
    have z1 : ¬ ((gD S).length : Int) = 1 := fun h => z (k.mp (by omega))
    rw [eqv_bl, decide_eq_false z1]
    rfl
  have sh : ∀ i, i < (gD S).length → D.shp 63 ((gD S).getD i .non) := fun i h => by
    obtain ⟨f, l, e, _⟩ := gD_at isp h
    rw [List.getD_eq_getElem?_getD, e]
    exact shp_pair 62 _ _
  rcases h6 with rfl | rfl
  all_goals
    refine ⟨_, rfl, by omega, Wf (fun _ => false) (fun i => (gD S).getD i .non) C, ⟨rfl, rfl⟩, fun i x acc β' hi hx hw => lcfT (by show 11 < 12; decide) (it i x hi hx) hw fun P hP => ?_, ?_⟩
    · obtain ⟨f, l, e, fl, ln, st⟩ := gD_at isp hi
      have e' : (gD S).getD i .non = iP f l := by rw [List.getD_eq_getElem?_getD, e]; rfl
      rw [e']
      exact ⟨_, rfl, _, rfl, _, rfl, _, rfl, _, rfl, (cs.drop f).take (l + 1 - f), seg S f l, congrArg (fun x => [R.val (.lst x)]) (cut_cells (j := l + 1) (by omega) rfl (by omega)), isp_seg isp fl ln, fun _ => ⟨_, rfl, hP⟩, fun ns => absurd st ns⟩
    · rintro _ C ⟨rfl, rfl⟩
      exact ⟨[], rfl, by decide, fnil sh (fun _ => ⟨_, rfl, ifF rfl ⟨_, rfl, _, rfl, S, rfl, isp.dir, by have := isp.few; omega, fun st => ⟨shp_bl 64 _, shp_bl 64 _, _, rfl, ifF (e1 st) next⟩, fun ns => ⟨shp_bl 64 _, shp_bl 64 _, _, rfl, ifF (e2 ns) next⟩⟩⟩) fun z => absurd (fun _ _ => rfl) z⟩
theorem law_7 (isp : IsP cs S) (rp : D.shp 60 (cL cs) ∧ D.shw (cL cs) ∧ D.ln (cL cs) ≤ 1000000) (h6 : r6 = .own (gD S) ∨ r6 = .val (.lst (gD S))) (fin : ∀ a10, d.nx ⟨[a0, a1, a2, some (.val (iL S)), a4, some (.val (cL cs)), some r6, a7, a8, some (.val (.str (cL cs).py.shown)), a10, a11], C⟩) :
    b_law_1_7 d ⟨[a0, a1, a2, some (.val (iL S)), a4, some (.val (cL cs)), some r6, a7, a8, some (.val (.str (cL cs).py.shown)), some (.own (gD S)), a11], C⟩ := by
  have next := law_8 (C := C) (a0 := a0) (a1 := a1) (a2 := a2) (a4 := a4) (a7 := a7) (a8 := a8) (a11 := a11) isp rp h6 fin
  have sm : Sml 5 (.lst [.lst (gD S), .lst (gD S)]) := ⟨Nat.le_of_ble_eq_true rfl, fun d hd => by
    rcases List.mem_cons.mp hd with rfl | hd
    · exact sml_gD 2 isp.few
    · rw [List.mem_singleton] at hd
      subst hd
      exact sml_gD 2 isp.few⟩
  have gl : S ≠ [] → (gD S).length = (greedy S).length := fun e => by
    unfold gD
    rw [if_neg e, List.length_map]
  rcases h6 with rfl | rfl
  all_goals
    refine ⟨_, rfl, _, rfl, rfl, rfl, cs, S, rfl, isp, _, rfl, Nat.le_of_ble_eq_true rfl, _, rfl, _, rfl, _, rfl, Nat.le_of_ble_eq_true rfl, _, rfl, sm, _, rfl, ifF rfl ?_⟩
    refine ⟨_, rfl, [], rfl, by decide, fNe_nil rfl (fun z => ⟨_, rfl, ifF rfl (ifF rfl next)⟩) fun z => ⟨_, rfl, ifT rfl ?_⟩⟩
    refine ⟨_, rfl, _, rfl, ifD (fun lt => ?_) fun _ => ifF rfl next⟩
    refine ⟨_, rfl, _, rfl, S, rfl, isp.dir, z, isp.few, _, rfl, ifDx (fun h => absurd (congrArg (fun n : Nat => (n : Int)) (gl z)) h) fun _ => next⟩
theorem law_6 (isp : IsP cs S) (rp : D.shp 60 (cL cs) ∧ D.shw (cL cs) ∧ D.ln (cL cs) ≤ 1000000) (h6 : r6 = .own (gD S) ∨ r6 = .val (.lst (gD S))) (fin : ∀ a9 a10, d.nx ⟨[a0, a1, a2, some (.val (iL S)), a4, some (.val (cL cs)), some r6, a7, a8, a9, a10, a11], C⟩) :
    b_law_1_6 d ⟨[a0, a1, a2, some (.val (iL S)), a4, some (.val (cL cs)), some r6, a7, a8, a9, a10, a11], C⟩ :=
  ⟨_, rfl, rp.1, rp.2.1, rp.2.2, _, rfl, cs, S, rfl, isp, law_7 isp rp h6 (fin _)⟩
theorem law_5 (isp : IsP cs S) (rp : D.shp 60 (cL cs) ∧ D.shw (cL cs) ∧ D.ln (cL cs) ≤ 1000000) (fin : ∀ a6 a9 a10, d.nx ⟨[a0, a1, a2, some (.val (iL S)), a4, some (.val (cL cs)), a6, a7, a8, a9, a10, a11], C⟩) :
    b_law_1_5 d ⟨[a0, a1, a2, some (.val (iL S)), a4, some (.val (cL cs)), some (.own ((greedy S).map pD)), a7, a8, a9, a10, a11], C⟩ := by
  refine ⟨_, rfl, [], rfl, by decide, fEq_nil rfl (fun z => ⟨_, rfl, ifT rfl ?_⟩) fun z => ⟨_, rfl, ifF rfl ?_⟩⟩
  · have e : gD S = [iP 0 0] := by rw [z, gD_nil]
    exact ⟨_, rfl, Nat.le_of_ble_eq_true rfl, _, rfl, Nat.le_of_ble_eq_true rfl, law_6 isp rp (.inl (by rw [e])) fun a9 a10 => fin _ a9 a10⟩
  · have e : gD S = (greedy S).map pD := by unfold gD; rw [if_neg z]
    exact ⟨_, rfl, law_6 isp rp (.inr (by rw [e]; rfl)) fun a9 a10 => fin _ a9 a10⟩
theorem law_4 (isp : IsP cs S) (rp : D.shp 60 (cL cs) ∧ D.shw (cL cs) ∧ D.ln (cL cs) ≤ 1000000) (fin : ∀ a6 a7 a8 a9 a10, d.nx ⟨[a0, a1, a2, some (.val (iL S)), a4, some (.val (cL cs)), a6, a7, a8, a9, a10, a11], C⟩) :
    b_law_1_4 d ⟨[a0, a1, a2, some (.val (iL S)), a4, some (.val (cL cs)), some (.own []), some (.val (.int 0)), a8, a9, a10, a11], C⟩ := by
  have hf := isp.few
  have hd := isp.dir
  refine ⟨fun n ρ => ∃ acc f k x, n = S.length - f ∧ PO1 S acc f k ∧ ρ = ⟨[a0, a1, a2, some (.val (iL S)), a4, some (.val (cL cs)), some (.own (acc.map pD)), some (.val (.int f)), x, a9, a10, a11], C⟩, ⟨_, [], 0, S.length, a8, rfl, PO1.start S, rfl⟩, ?_⟩
  rintro n ρ ⟨acc, f, k, x, rfl, po, rfl⟩
  refine ⟨_, rfl, _, rfl, _, rfl, ifD (fun z => ?_) fun z => ?_⟩
  · rw [List.length_map] at z
    have z2 : f < S.length := by omega
    refine ⟨_, rfl, ?_⟩
    refine ⟨fun m ρ => ∃ l j : Nat, m = S.length - l ∧ PI1 S f l j ∧ ρ = ⟨[a0, a1, a2, some (.val (iL S)), a4, some (.val (cL cs)), some (.own (acc.map pD)), some (.val (.int f)), some (.val (.int l)), a9, a10, a11], C⟩, ⟨_, f + 1, S.length, rfl, PI1.start z2, by rw [show ((f + 1 : Nat) : Int) = (f : Int) + 1 by omega]; rfl⟩, ?_⟩
    rintro m ρ ⟨l, j, rfl, pi, rfl⟩
    have exit : (l < S.length → ¬ Strt (seg S f (l + 1))) → ∀ d' : DEnds, d'.nx = (fun ρ' => ∃ m', m' < S.length - f ∧ ∃ acc f k x, m' = S.length - f ∧ PO1 S acc f k ∧ ρ' = ⟨[a0, a1, a2, some (.val (iL S)), a4, some (.val (cL cs)), some (.own (acc.map pD)), some (.val (.int f)), x, a9, a10, a11], C⟩) →
        b_law_0_2 d' ⟨[a0, a1, a2, some (.val (iL S)), a4, some (.val (cL cs)), some (.own (acc.map pD)), some (.val (.int f)), some (.val (.int l)), a9, a10, a11], C⟩ := fun no d' hd' => by
      have e := pi.fin no
      obtain ⟨k', po'⟩ := po.next z2
      rw [← e] at po'
      have := po.al
      have := pi.fl
      refine ⟨_, rfl, _, rfl, _, rfl, Nat.le_of_ble_eq_true rfl, by rw [List.length_map]; omega, ?_⟩
      refine ⟨_, rfl, ?_⟩
      show d'.nx _
      rw [hd']
      refine ⟨S.length - l, by omega, _, l, k', some (.val (.int l)), rfl, po', ?_⟩
      rw [List.map_append]
      rfl
    refine ⟨_, rfl, _, rfl, _, rfl, ifD (fun c => ?_) fun c => ?_⟩
    · rw [List.length_map] at c
      have c2 : l < S.length := by omega
      have fl := pi.fl
      refine ⟨_, rfl, _, rfl, _, rfl, seg S f (l + 1), congrArg (fun x => [R.val (.lst x)]) (cut_seg (by omega) rfl (by omega)), seg_dirs hd, Nat.le_trans seg_len (by omega), fun st => ⟨_, rfl, ifT rfl ?_⟩, fun ns => ⟨_, rfl, ifF rfl (exit (fun _ => ns) _ rfl)⟩⟩
      obtain ⟨j', pi'⟩ := pi.next c2 st
      refine ⟨_, rfl, S.length - (l + 1), by omega, l + 1, j', rfl, pi', ?_⟩
      rw [show ((l + 1 : Nat) : Int) = (l : Int) + 1 by omega]
      rfl
    · rw [List.length_map] at c
      exact ifF rfl (exit (fun z => absurd (show (l : Int) < (S.length : Int) by omega) c) _ rfl)
  · rw [List.length_map] at z
    rw [po.fin (by omega)]
    exact law_5 isp rp fun a6 a9 a10 => fin a6 _ _ a9 a10
end
theorem spec_law : ∀ rs β PQ PE, T_law rs β PQ PE → b_law (endsOf PQ) ⟨startR N_law rs, β⟩ := by
  rintro rs β PQ PE ⟨ns, hl, rfl, rfl, q⟩
  refine ⟨_, rfl, ns, 0, rfl, hl, by decide, by decide, Nat.le_refl _, ?_⟩
  refine ⟨⟨by decide, by decide⟩, fun i ρ => ∃ (x2 x3 x4 x5 x6 x7 x8 x9 x10 x11 : Option R) (B : Nat), 2 ^ 40 ≤ B + 1000 * i ∧ B ≤ 2 ^ 40 ∧ ρ = ⟨[some (.val (iL ns)), some .gen, x2, x3, x4, x5, x6, x7, x8, x9, x10, x11], B⟩, ⟨none, none, none, none, none, none, none, none, none, none, 2 ^ 40, by omega, Nat.le_refl _, rfl⟩, ?_, ?_⟩
  · rintro i x ρ hi hx ⟨x2, x3, x4, x5, x6, x7, x8, x9, x10, x11, B, hB, hB2, rfl⟩
    have hi2 : i < 2 := hi
    have hx2 := (Option.some.inj hx).symm
    subst hx2
    have big : (2 : Nat) ^ 40 = 1099511627776 := by decide
    refine ⟨[], rfl, by decide, ?_⟩
    refine ⟨_, rfl, by decide, by decide, by show 1 ≤ B; omega, fun r r0 r1 => ?_⟩
    refine ⟨⟨by omega, by omega⟩, fun j ρ => ∃ (ss : List Int) (y4 : Option R) (C : Nat), Dirs ss ∧ ss.length ≤ 15 * j ∧ B ≤ C + 1 + 100 * j ∧ C ≤ B ∧ ρ = ⟨[some (.val (iL ns)), some .gen, some (.val (.int i)), some (.val (iL ss)), y4, x5, x6, x7, x8, x9, x10, x11], C⟩, ⟨[], x4, B - 1, (fun s h => by cases h), Nat.zero_le _, by omega, by omega, rfl⟩, ?_, ?_⟩
    · rintro j x ρ hj hx ⟨ss, y4, C, hd, sl, hC, hC2, rfl⟩
      have hj2 : j < 4 := by omega
      have hx2 := (Option.some.inj hx).symm
      subst hx2
      refine ⟨_, rfl, _, rfl, 14, rfl, by decide, by decide, by show 100 ≤ C; omega, fun ss' r' C' hd' sl' hr' hC' hC3 => ?_⟩
      have hC'' : C ≤ C' + 100 := hC'
      have hC4 : C' ≤ C := hC3
      have app : iL (ss ++ ss') = .lst (ss.map D.int ++ ss'.map D.int) := congrArg D.lst List.map_append
      have dd : Dirs (ss ++ ss') := fun s hs => by
        rcases List.mem_append.mp hs with h | h
        · exact hd s h
        · exact hd' s h
      rcases hr' with rfl | rfl
      all_goals
        refine ⟨by rw [List.length_map, List.length_map]; omega, ss ++ ss', some (.val (.int j)), C', dd, by rw [List.length_append]; omega, by omega, by omega, ?_⟩
        rw [app]
        rfl
    · rintro ρ ⟨ss, y4, C, hd, sl, hC, hC2, rfl⟩
      have hn : (1 + r).toNat ≤ 4 := by omega
      have tl : (ss.take 60).length ≤ 60 := by rw [List.length_take]; omega
      have td : Dirs (ss.take 60) := fun s hs => hd s (List.mem_of_mem_take hs)
      refine ⟨_, rfl, rfl, by show 3 ≤ C; omega, fun a b C' a0 a1 b0 b1 hC' => ?_⟩
      have hC'' : C = C' + 3 := hC'
      refine ⟨_, rfl, a, b, ss.take 60, congrArg (fun x => [R.val (iP a b), R.val (.lst x)]) (cut60 ss), td, by omega, ?_⟩
      refine ⟨[], rfl, by decide, _, rfl, ?_⟩
      have isp := pth_isp (c := (a, b)) td tl
      have near := pth_near (B := 100000000000000000000) (ss.take 60) (a, b) td a0 a1 b0 b1
      have rp := cells_repr (cs := pth (a, b) (ss.take 60)) (by rw [isp.len]; omega) fun c hc => by
        have := near c hc
        omega
      have go := law_4 (a0 := some (.val (iL ns))) (a1 := some .gen) (a2 := some (.val (.int i))) (a4 := y4) (a8 := x8) (a9 := x9) (a10 := x10) (a11 := x11) (C := C') (d := { nx := fun ρ => ∃ (x2 x3 x4 x5 x6 x7 x8 x9 x10 x11 : Option R) (B : Nat), 2 ^ 40 ≤ B + 1000 * (i + 1) ∧ B ≤ 2 ^ 40 ∧ ρ = ⟨[some (.val (iL ns)), some .gen, x2, x3, x4, x5, x6, x7, x8, x9, x10, x11], B⟩, rt := (endsOf PQ).rt, bk := b_law_2_2 (endsOf PQ), ct := fun ρ => ∃ (x2 x3 x4 x5 x6 x7 x8 x9 x10 x11 : Option R) (B : Nat), 2 ^ 40 ≤ B + 1000 * (i + 1) ∧ B ≤ 2 ^ 40 ∧ ρ = ⟨[some (.val (iL ns)), some .gen, x2, x3, x4, x5, x6, x7, x8, x9, x10, x11], B⟩ }) isp rp fun a6 a7 a8 a9 a10 => ⟨_, _, _, _, _, _, _, _, _, _, C', by omega, by omega, rfl⟩
      rw [show iL (ss.take 60) = .lst (cutD (ss.map D.int) none (some 60)) by rw [cut60]] at go
      exact go
  · rintro ρ ⟨x2, x3, x4, x5, x6, x7, x8, x9, x10, x11, B, hB, hB2, rfl⟩
    have d5 : Dirs [0, 0, 1, 1, 2] := fun s hs => by simp at hs; omega
    have i1 := pth_isp (c := (0, 0)) d5 (by decide)
    have i2 : IsP [(7, 7)] [] := ⟨rfl, by decide, (fun s hs => by cases hs), fun i hi => by cases hi⟩
    have i3 : IsP [(0, 0), (1, 1)] [1] := ⟨rfl, by decide, (fun s hs => by simp at hs; omega), fun i hi => by
      have : i = 0 := by simpa using hi
      subst this
      decide⟩
    refine ⟨_, rfl, Nat.le_of_ble_eq_true rfl, _, rfl, Nat.le_of_ble_eq_true rfl, 0, 0, [0, 0, 1, 1, 2], rfl, d5, by decide, ?_⟩
    refine ⟨_, [0, 0, 1, 1, 2], rfl, i1, ?_⟩
    rw [gD_five]
    refine ⟨_, rfl, Nat.le_of_ble_eq_true rfl, _, rfl, Nat.le_of_ble_eq_true rfl, [(7, 7)], [], rfl, i2, ?_⟩
    rw [gD_nil]
    refine ⟨_, rfl, Nat.le_of_ble_eq_true rfl, _, rfl, Nat.le_of_ble_eq_true rfl, _, rfl, Nat.le_of_ble_eq_true rfl, [(0, 0), (1, 1)], [1], rfl, i3, ?_⟩
    rw [gD_one]
    have sm : Sml 5 (.lst [.lst [iP 0 3, iP 3 5], .lst [iP 0 0], .lst [iP 0 1]]) := by
      have one : ∀ d ∈ [iP 0 3, iP 3 5, iP 0 0, iP 0 1], Sml 3 d := fun d hd => by
        simp only [List.mem_cons, List.not_mem_nil, or_false] at hd
        rcases hd with rfl | rfl | rfl | rfl <;> exact sml_pair 2 _ _
      refine ⟨Nat.le_of_ble_eq_true rfl, fun d hd => ?_⟩
      simp only [List.mem_cons, List.not_mem_nil, or_false] at hd
      rcases hd with rfl | rfl | rfl
      · exact ⟨Nat.le_of_ble_eq_true rfl, fun e he => one e (by simp only [List.mem_cons, List.not_mem_nil, or_false] at he ⊢; rcases he with h | h <;> simp [h])⟩
      · exact ⟨Nat.le_of_ble_eq_true rfl, fun e he => one e (by simp only [List.mem_cons, List.not_mem_nil, or_false] at he ⊢; simp [he])⟩
      · exact ⟨Nat.le_of_ble_eq_true rfl, fun e he => one e (by simp only [List.mem_cons, List.not_mem_nil, or_false] at he ⊢; simp [he])⟩
    have L3 : ∀ {n : Nat}, Nat.ble n 1000 = true → n ≤ 1000 := fun h => Nat.le_of_ble_eq_true h
    exact ⟨_, rfl, L3 rfl, _, rfl, L3 rfl, _, rfl, L3 rfl, _, rfl, L3 rfl, _, rfl, L3 rfl, _, rfl, L3 rfl, _, rfl, L3 rfl, _, rfl, L3 rfl, _, rfl, L3 rfl, _, rfl, sm, q _⟩
end DL
namespace DL
open PySem L2 PySem.Spec PyProof.Rows
def topS (i : Nat) : Stmt := PySem.Challenge.pw_spreadline_k68_whole_fewest_pieces.main.body.getD i (.Pass ⟨0, 0, 0, 0⟩)
structure Bts (mg : Str → Option Value) : Prop where
  n_bool : mg "bool" = none
  n_enumerate : mg "enumerate" = none
  n_int : mg "int" = none
  n_isinstance : mg "isinstance" = none
  n_len : mg "len" = none
  n_list : mg "list" = none
  n_max : mg "max" = none
  n_min : mg "min" = none
  n_range : mg "range" = none
  n_repr : mg "repr" = none
  n_set : mg "set" = none
  n_sorted : mg "sorted" = none
  n_str : mg "str" = none
  n_sum : mg "sum" = none
  n_tuple : mg "tuple" = none
  n_gcd : mg "gcd" = some (.builtin "math.gcd")
section
variable {P : Program} {w : World} {K : PySem.W.Frag} {mg : Str → Option Value} {base : Heap}
abbrev s_is_whole : Stmt := topS 5
theorem sc_is_whole : FnScope ["value"] ["value"] (defScope s_is_whole) := ⟨rfl, rfl, rfl, by decide +kernel, rfl, by decide +kernel, by decide +kernel⟩
theorem ok_is_whole {f : Addr} {fd : FuncData} (bt : Bts mg) (F : Fun K "is_whole" "is_whole" s_is_whole f fd) :
    FnG P w K mg base CX0 1 f fd ["value"] (spD K T_is_whole) := by
  have nd := (sc_is_whole).nd
  refine fnD F sc_is_whole len_is_whole b_is_whole (fun cdv A outer s H G E hr hg => ?_) spec_is_whole
  exact (dss_one (ds_ret (de_and (de_isi1 .int bt.n_isinstance bt.n_int (de_var 0)) (de_one (de_not (de_isi1 .bool bt.n_isinstance bt.n_bool (de_var 0)))))))
abbrev s_lowest : Stmt := topS 6
theorem sc_lowest : FnScope ["number", "bottom", "common"] ["number", "bottom"] (defScope s_lowest) := ⟨rfl, rfl, rfl, by decide +kernel, rfl, by decide +kernel, by decide +kernel⟩
theorem ok_lowest {f : Addr} {fd : FuncData} (bt : Bts mg) (F : Fun K "lowest" "lowest" s_lowest f fd) :
    FnG P w K mg base CX0 1 f fd ["number", "bottom"] (spD K T_lowest) := by
  have nd := (sc_lowest).nd
  refine fnD F sc_lowest len_lowest b_lowest (fun cdv A outer s H G E hr hg => ?_) spec_lowest
  exact (dss_cons (ds_setv 2 nd (de_bf2 cr_gcd c_gcd bt.n_gcd (de_var 0) (de_var 1)))
 (dss_cons (ds_if (dt_cmp op_lt c_lt (de_var 1) de_int)
 (dss_one (ds_setv 2 nd (de_un un_neg c_neg (de_var 2))))
 dss_nil)
 (dss_one (ds_ret (de_tup (da_cons (de_op op_div c_div (de_var 0) (de_var 2)) (da_cons (de_op op_div c_div (de_var 1) (de_var 2)) da_nil)))))))
abbrev s_is_less : Stmt := topS 7
theorem sc_is_less : FnScope ["one", "other"] ["one", "other"] (defScope s_is_less) := ⟨rfl, rfl, rfl, by decide +kernel, rfl, by decide +kernel, by decide +kernel⟩
theorem ok_is_less {f : Addr} {fd : FuncData} (bt : Bts mg) (F : Fun K "is_less" "is_less" s_is_less f fd) :
    FnG P w K mg base CX0 1 f fd ["one", "other"] (spD K T_is_less) := by
  have nd := (sc_is_less).nd
  refine fnD F sc_is_less len_is_less b_is_less (fun cdv A outer s H G E hr hg => ?_) spec_is_less
  exact (dss_one (ds_ret (de_cmp op_lt c_lt (de_op op_mulW c_mul (de_ix (de_var 0) de_int) (de_ix (de_var 1) de_int)) (de_op op_mulW c_mul (de_ix (de_var 1) de_int) (de_ix (de_var 0) de_int)))))
abbrev s_heights : Stmt := topS 11
theorem sc_heights : FnScope ["row", "told", "letter"] ["row"] (defScope s_heights) := ⟨rfl, rfl, rfl, by decide +kernel, rfl, by decide +kernel, by decide +kernel⟩
theorem ok_heights {f : Addr} {fd : FuncData} (bt : Bts mg) (F : Fun K "heights" "heights" s_heights f fd) :
    FnG P w K mg base CX0 1 f fd ["row"] (spD K T_heights) := by
  have nd := (sc_heights).nd
  refine fnD F sc_heights len_heights b_heights (fun cdv A outer s H G E hr hg => ?_) spec_heights
  exact (dss_cons (ds_set 1 nd (de_lst (da_cons de_int da_nil)))
 (dss_cons (ds_for PassesOwn.never rfl (pi_l (de_var 0)) (dg_name 2 nd)
 (dss_one (ds_app 1 (de_op op_plus c_plus (de_ix (de_var 1) (de_un un_neg c_neg de_int)) (de_var 2)))))
 (dss_one (ds_ret (de_var 1)))))
abbrev s_put_together : Stmt := topS 13
theorem sc_put_together : FnScope ["wholes", "last", "number", "bottom", "whole"] ["wholes", "last"] (defScope s_put_together) := ⟨rfl, rfl, rfl, by decide +kernel, rfl, by decide +kernel, by decide +kernel⟩
theorem ok_put_together {f : Addr} {fd : FuncData} (bt : Bts mg) (F : Fun K "put_together" "put_together" s_put_together f fd) :
    FnG P w K mg base CX0 1 f fd ["wholes", "last"] (spD K T_put_together) := by
  have nd := (sc_put_together).nd
  refine fnD F sc_put_together len_put_together b_put_together (fun cdv A outer s H G E hr hg => ?_) spec_put_together
  exact (dss_cons (ds_par2 2 3 rfl nd (de_fz (de_var 1)) (de_fz de_int))
 (dss_cons (ds_for PassesOwn.never rfl (pi_l (de_rev (de_var 0))) (dg_name 4 nd)
 (dss_one (ds_par2 2 3 rfl nd (de_fz (de_op op_plus c_plus (de_op op_mulW c_mul (de_var 4) (de_var 2)) (de_var 3))) (de_fz (de_var 2)))))
 (dss_one (ds_ret (de_tup (da_cons (de_var 2) (da_cons (de_var 3) da_nil)))))))
abbrev s_found_inside : Stmt := topS 14
theorem sc_found_inside : FnScope ["least", "most", "wholes", "whole", "end"] ["least", "most"] (defScope s_found_inside) := ⟨rfl, rfl, rfl, by decide +kernel, rfl, by decide +kernel, by decide +kernel⟩
theorem ok_found_inside {f : Addr} {fd : FuncData} (bt : Bts mg) (F : Fun K "found_inside" "found_inside" s_found_inside f fd) (cal_put_together : Cal P w K mg base CX0 1 "put_together" ["wholes", "last"] T_put_together) :
    FnG P w K mg base CX0 2 f fd ["least", "most"] (spD K T_found_inside) := by
  have nd := (sc_found_inside).nd
  refine fnD F sc_found_inside len_found_inside b_found_inside (fun cdv A outer s H G E hr hg => ?_) spec_found_inside
  exact (dss_cons (ds_set 2 nd (de_lst da_nil))
 (dss_cons (ds_setv 3 nd (de_op op_div c_div (de_ix (de_var 0) de_int) (de_ix (de_var 0) de_int)))
 (dss_cons (ds_while PassesOwn.never (dt_cmp op_ge c_ge (de_op op_mulW c_mul (de_op op_plus c_plus (de_var 3) de_int) (de_ix (de_var 1) de_int)) (de_ix (de_var 1) de_int))
 (dss_cons (ds_app 2 (de_var 3))
 (dss_cons (ds_setv 4 nd (de_if (dt_cmp (op_eqA (u64 hr)) c_eq (de_ix (de_var 0) de_int) (de_op op_mulW c_mul (de_var 3) (de_ix (de_var 0) de_int))) (de_tup (da_cons de_int (da_cons de_int da_nil))) (de_tup (da_cons (de_ix (de_var 0) de_int) (da_cons (de_op op_sub c_sub (de_ix (de_var 0) de_int) (de_op op_mulW c_mul (de_var 3) (de_ix (de_var 0) de_int))) da_nil)))))
 (dss_cons (ds_par2 0 1 rfl nd (de_fz (de_tup (da_cons (de_ix (de_var 1) de_int) (da_cons (de_op op_sub c_sub (de_ix (de_var 1) de_int) (de_op op_mulW c_mul (de_var 3) (de_ix (de_var 1) de_int))) da_nil)))) (de_fz (de_var 4)))
 (dss_one (ds_setv 3 nd (de_op op_div c_div (de_ix (de_var 0) de_int) (de_ix (de_var 0) de_int))))))))
 (dss_one (ds_frz 2 (ds_ret (de_c cal_put_together hr hg (daf_cons (de_var 2) (daf_cons (de_op op_plus c_plus (de_var 3) de_int) daf_nil)))))))))
abbrev s_rates_between : Stmt := topS 16
theorem sc_rates_between : FnScope ["sums", "low", "high", "start", "end", "least", "most"] ["sums"] (defScope s_rates_between) := ⟨rfl, rfl, rfl, by decide +kernel, rfl, by decide +kernel, by decide +kernel⟩
theorem ok_rates_between {f : Addr} {fd : FuncData} (bt : Bts mg) (F : Fun K "rates_between" "rates_between" s_rates_between f fd) (cal_lowest : Cal P w K mg base CX0 1 "lowest" ["number", "bottom"] T_lowest) (cal_is_less : Cal P w K mg base CX0 1 "is_less" ["one", "other"] T_is_less) :
    FnG P w K mg base CX0 2 f fd ["sums"] (spD K T_rates_between) := by
  have nd := (sc_rates_between).nd
  refine fnD F sc_rates_between len_rates_between b_rates_between (fun cdv A outer s H G E hr hg => ?_) spec_rates_between
  exact (dss_cons (ds_setv 1 nd de_non)
 (dss_cons (ds_setv 2 nd de_non)
 (dss_cons (ds_for PassesOwn.never rfl (pi_r1 bt.n_range (de_b1 cr_len c_len bt.n_len (de_var 0))) (dg_name 3 nd)
 (dss_one (ds_for PassesOwn.never rfl (pi_r2 bt.n_range (de_op op_plus c_plus (de_var 3) de_int) (de_b1 cr_len c_len bt.n_len (de_var 0))) (dg_name 4 nd)
 (dss_cons (ds_setv 5 nd (de_c cal_lowest hr hg (daf_cons (de_op op_sub c_sub (de_op op_sub c_sub (de_ix (de_var 0) (de_var 4)) (de_ix (de_var 0) (de_var 3))) de_int) (daf_cons (de_op op_sub c_sub (de_var 4) (de_var 3)) daf_nil))))
 (dss_cons (ds_setv 6 nd (de_c cal_lowest hr hg (daf_cons (de_op op_plus c_plus (de_op op_sub c_sub (de_ix (de_var 0) (de_var 4)) (de_ix (de_var 0) (de_var 3))) de_int) (daf_cons (de_op op_sub c_sub (de_var 4) (de_var 3)) daf_nil))))
 (dss_cons (ds_setv 1 nd (de_if (PW.pt (dw_or (dt_cmp op_is c_is (de_var 1) de_non) (dw_or1 (dt_val (de_c cal_is_less hr hg (daf_cons (de_var 1) (daf_cons (de_var 5) daf_nil))))))) (de_var 5) (de_var 1)))
 (dss_one (ds_setv 2 nd (de_if (PW.pt (dw_or (dt_cmp op_is c_is (de_var 2) de_non) (dw_or1 (dt_val (de_c cal_is_less hr hg (daf_cons (de_var 6) (daf_cons (de_var 2) daf_nil))))))) (de_var 6) (de_var 2))))))))))
 (dss_one (ds_ret (de_tup (da_cons (de_var 1) (da_cons (de_var 2) da_nil))))))))
abbrev s_found_formula : Stmt := topS 17
theorem sc_found_formula : FnScope ["lengths", "sums", "low", "high", "factor", "divisor", "start", "place", "total"] ["lengths"] (defScope s_found_formula) := ⟨rfl, rfl, rfl, by decide +kernel, rfl, by decide +kernel, by decide +kernel⟩
theorem ok_found_formula {f : Addr} {fd : FuncData} (bt : Bts mg) (F : Fun K "found_formula" "found_formula" s_found_formula f fd) (cal_heights : Cal P w K mg base CX0 1 "heights" ["row"] T_heights) (cal_rates_between : Cal P w K mg base CX0 2 "rates_between" ["sums"] T_rates_between) (cal_is_less : Cal P w K mg base CX0 1 "is_less" ["one", "other"] T_is_less) (cal_found_inside : Cal P w K mg base CX0 2 "found_inside" ["least", "most"] T_found_inside) :
    FnG P w K mg base CX0 3 f fd ["lengths"] (spD K T_found_formula) := by
  have nd := (sc_found_formula).nd
  refine fnD F sc_found_formula len_found_formula b_found_formula (fun cdv A outer s H G E hr hg => ?_) spec_found_formula
  exact (dss_cons (ds_setv 1 nd (de_c cal_heights hr hg (daf_cons (de_var 0) daf_nil)))
 (dss_cons (ds_setg (de_c cal_rates_between hr hg (daf_cons (de_var 1) daf_nil)) (dg_tup (is := [2, 3]) rfl (pgs_name 2 nd (pgs_name 3 nd pgs_nil))))
 (dss_cons (ds_if (dt_not (dt_val (de_c cal_is_less hr hg (daf_cons (de_var 2) (daf_cons (de_var 3) daf_nil)))))
 (dss_one (ds_ret de_non))
 dss_nil)
 (dss_cons (ds_setg (de_if (dt_cmp op_lt c_lt (de_ix (de_var 2) de_int) de_int) (de_tup (da_cons de_int (da_cons de_int da_nil))) (de_c cal_found_inside hr hg (daf_cons (de_var 2) (daf_cons (de_var 3) daf_nil)))) (dg_tup (is := [4, 5]) rfl (pgs_name 4 nd (pgs_name 5 nd pgs_nil))))
 (dss_cons (ds_setv 6 nd (de_b1 (cr_max rfl) c_max bt.n_max (de_lc (own := [("place", 7), ("total", 8)]) (g := dgTup [7, 8]) (gg := gTup K 2 (gNames [7, 8])) rfl nd (pi_en bt.n_enumerate (de_var 1)) (blkOk_by (by kernel_rfl)) (go_tup (by decide)) (fun _ _ _ _ _ => pg_tup rfl (pgs_name 7 nd (pgs_name 8 nd pgs_nil))) (fun _ _ _ _ _ => dts_nil) (fun _ _ _ _ _ => (de_op op_sub c_sub (de_op op_mulW c_mul (de_var 5) (de_var 8)) (de_op op_mulW c_mul (de_var 4) (de_var 7)))))))
 (dss_one (ds_ret (de_tup (da_cons (de_var 4) (da_cons (de_var 6) (da_cons (de_var 5) da_nil)))))))))))
abbrev s_is_cell : Stmt := topS 20
theorem sc_is_cell : FnScope ["value"] ["value"] (defScope s_is_cell) := ⟨rfl, rfl, rfl, by decide +kernel, rfl, by decide +kernel, by decide +kernel⟩
theorem ok_is_cell {f : Addr} {fd : FuncData} (bt : Bts mg) (F : Fun K "is_cell" "is_cell" s_is_cell f fd) (cal_is_whole : Cal P w K mg base CX0 1 "is_whole" ["value"] T_is_whole) :
    FnG P w K mg base CX0 2 f fd ["value"] (spD K T_is_cell) := by
  have nd := (sc_is_cell).nd
  refine fnD F sc_is_cell len_is_cell b_is_cell (fun cdv A outer s H G E hr hg => ?_) spec_is_cell
  exact (dss_one (ds_ret (de_and (de_isi1 .tuple bt.n_isinstance bt.n_tuple (de_var 0)) (de_and (de_cmp (op_eqA (u64 hr)) c_eq (de_b1 cr_len c_len bt.n_len (de_var 0)) de_int) (de_and (de_c cal_is_whole hr hg (daf_cons (de_ix (de_var 0) de_int) daf_nil)) (de_one (de_c cal_is_whole hr hg (daf_cons (de_ix (de_var 0) de_int) daf_nil))))))))
abbrev s_step_between : Stmt := topS 21
theorem sc_step_between : FnScope ["cell", "other"] ["cell", "other"] (defScope s_step_between) := ⟨rfl, rfl, rfl, by decide +kernel, rfl, by decide +kernel, by decide +kernel⟩
theorem ok_step_between {f : Addr} {fd : FuncData} (bt : Bts mg) (F : Fun K "step_between" "step_between" s_step_between f fd) :
    FnG P w K mg base CX0 1 f fd ["cell", "other"] (spD K T_step_between) := by
  have nd := (sc_step_between).nd
  refine fnD F sc_step_between len_step_between b_step_between (fun cdv A outer s H G E hr hg => ?_) spec_step_between
  exact (dss_one (ds_ret (de_tup (da_cons (de_op op_sub c_sub (de_ix (de_var 1) de_int) (de_ix (de_var 0) de_int)) (da_cons (de_op op_sub c_sub (de_ix (de_var 1) de_int) (de_ix (de_var 0) de_int)) da_nil)))))
abbrev s_are_cells : Stmt := topS 22
theorem sc_are_cells : FnScope ["value", "cell", "at"] ["value"] (defScope s_are_cells) := ⟨rfl, rfl, rfl, by decide +kernel, rfl, by decide +kernel, by decide +kernel⟩
theorem ok_are_cells {f : Addr} {fd : FuncData} (bt : Bts mg) (F : Fun K "are_cells" "are_cells" s_are_cells f fd) (cal_is_cell : Cal P w K mg base CX0 2 "is_cell" ["value"] T_is_cell) (cal_step_between : Cal P w K mg base CX0 1 "step_between" ["cell", "other"] T_step_between) (k_MOST_ROW : Cst K mg "MOST_ROW" c_MOST_ROW) (k_STEPS : Cst K mg "STEPS" c_STEPS) :
    FnG P w K mg base CX0 3 f fd ["value"] (spD K T_are_cells) := by
  have nd := (sc_are_cells).nd
  refine fnD F sc_are_cells len_are_cells b_are_cells (fun cdv A outer s H G E hr hg => ?_) spec_are_cells
  exact (dss_cons (ds_if (PW.pt (dw_or (dt_not (dt_val (de_isi1 .list bt.n_isinstance bt.n_list (de_var 0)))) (dw_or1 (dt_not (dt_chain op_le c_le op_le c_le de_int (de_b1 cr_len c_len bt.n_len (de_var 0)) (de_op op_plus c_plus (de_cst k_MOST_ROW) de_int))))))
 (dss_one (ds_ret de_bl))
 dss_nil)
 (dss_cons (ds_if (dt_cmp (op_neA (u64 hr)) c_ne (de_lc (own := [("cell", 1)]) (g := dgName 1) (gg := gName 1) rfl nd (pi_l (de_var 0)) (blkOk_by (by kernel_rfl)) (go_name (by decide)) (fun _ _ _ _ _ => pg_n 1 nd) (fun _ _ _ _ _ => (dts_one (dt_not (dt_val (de_c cal_is_cell hr hg (daf_cons (de_var 1) daf_nil)))))) (fun _ _ _ _ _ => (de_var 1))) (de_lst da_nil))
 (dss_one (ds_ret de_bl))
 dss_nil)
 (dss_one (ds_ret (de_cmp (op_eqA (u64 hr)) c_eq (de_lc (own := [("at", 2)]) (g := dgName 2) (gg := gName 2) rfl nd (pi_r2 bt.n_range de_int (de_b1 cr_len c_len bt.n_len (de_var 0))) (blkOk_by (by kernel_rfl)) (go_name (by decide)) (fun _ _ _ _ _ => pg_n 2 nd) (fun _ _ _ _ _ => (dts_one (dt_cmp (op_notinA (u65 hr)) c_notin (de_c cal_step_between hr hg (daf_cons (de_ix (de_var 0) (de_op op_sub c_sub (de_var 2) de_int)) (daf_cons (de_ix (de_var 0) (de_var 2)) daf_nil))) (de_cst k_STEPS)))) (fun _ _ _ _ _ => (de_var 2))) (de_lst da_nil))))))
abbrev s_check_cells : Stmt := topS 23
theorem sc_check_cells : FnScope ["cells"] ["cells"] (defScope s_check_cells) := ⟨rfl, rfl, rfl, by decide +kernel, rfl, by decide +kernel, by decide +kernel⟩
theorem ok_check_cells {f : Addr} {fd : FuncData} (bt : Bts mg) (F : Fun K "check_cells" "check_cells" s_check_cells f fd) (cal_are_cells : Cal P w K mg base CX0 3 "are_cells" ["value"] T_are_cells) :
    FnG P w K mg base CX0 4 f fd ["cells"] (spD K T_check_cells) := by
  have nd := (sc_check_cells).nd
  refine fnD F sc_check_cells len_check_cells b_check_cells (fun cdv A outer s H G E hr hg => ?_) spec_check_cells
  exact (dss_one (ds_if (dt_not (dt_val (de_c cal_are_cells hr hg (daf_cons (de_var 0) daf_nil))))
 dss_never
 dss_nil))
abbrev s_directions_of : Stmt := topS 24
theorem sc_directions_of : FnScope ["cells", "at"] ["cells"] (defScope s_directions_of) := ⟨rfl, rfl, rfl, by decide +kernel, rfl, by decide +kernel, by decide +kernel⟩
theorem ok_directions_of {f : Addr} {fd : FuncData} (bt : Bts mg) (F : Fun K "directions_of" "directions_of" s_directions_of f fd) (cal_step_between : Cal P w K mg base CX0 1 "step_between" ["cell", "other"] T_step_between) (k_STEPS : Cst K mg "STEPS" c_STEPS) :
    FnG P w K mg base CX0 2 f fd ["cells"] (spD K T_directions_of) := by
  have nd := (sc_directions_of).nd
  refine fnD F sc_directions_of len_directions_of b_directions_of (fun cdv A outer s H G E hr hg => ?_) spec_directions_of
  exact (dss_one (ds_ret (de_lc (own := [("at", 1)]) (g := dgName 1) (gg := gName 1) rfl nd (pi_r2 bt.n_range de_int (de_b1 cr_len c_len bt.n_len (de_var 0))) (blkOk_by (by kernel_rfl)) (go_name (by decide)) (fun _ _ _ _ _ => pg_n 1 nd) (fun _ _ _ _ _ => dts_nil) (fun _ _ _ _ _ => (de_index (u65 hr) (de_cst k_STEPS) (de_c cal_step_between hr hg (daf_cons (de_ix (de_var 0) (de_op op_sub c_sub (de_var 1) de_int)) (daf_cons (de_ix (de_var 0) (de_var 1)) daf_nil))))))))
abbrev s_first_direction : Stmt := topS 25
theorem sc_first_direction : FnScope ["steps", "direction", "step"] ["steps"] (defScope s_first_direction) := ⟨rfl, rfl, rfl, by decide +kernel, rfl, by decide +kernel, by decide +kernel⟩
theorem ok_first_direction {f : Addr} {fd : FuncData} (bt : Bts mg) (F : Fun K "first_direction" "first_direction" s_first_direction f fd) (k_STEPS : Cst K mg "STEPS" c_STEPS) :
    FnG P w K mg base CX0 1 f fd ["steps"] (spD K T_first_direction) := by
  have nd := (sc_first_direction).nd
  refine fnD F sc_first_direction len_first_direction b_first_direction (fun cdv A outer s H G E hr hg => ?_) spec_first_direction
  exact (dss_cons (ds_for PassesOwn.never rfl (pi_l (de_sortset rfl bt.n_sorted bt.n_set (de_var 0))) (dg_name 1 nd)
 (dss_one (ds_if (dt_cmp (op_eqA (u64 hr)) c_eq (de_lc (own := [("step", 2)]) (g := dgName 2) (gg := gName 2) rfl nd (pi_l (de_var 0)) (blkOk_by (by kernel_rfl)) (go_name (by decide)) (fun _ _ _ _ _ => pg_n 2 nd) (fun _ _ _ _ _ => (dts_one (dt_cmp (op_notinA (u65 hr)) c_notin (de_var 2) (de_tup (da_cons (de_var 1) (da_cons (de_op op_modN c_mod (de_op op_plus c_plus (de_var 1) de_int) (de_b1 cr_len c_len bt.n_len (de_cst k_STEPS))) da_nil)))))) (fun _ _ _ _ _ => (de_var 2))) (de_lst da_nil))
 (dss_one (ds_ret (de_var 1)))
 dss_nil)))
 (dss_one (ds_ret de_non)))
abbrev s_found_line : Stmt := topS 26
theorem sc_found_line : FnScope ["steps", "direction", "formula", "step", "factor", "start", "divisor"] ["steps"] (defScope s_found_line) := ⟨rfl, rfl, rfl, by decide +kernel, rfl, by decide +kernel, by decide +kernel⟩
theorem ok_found_line {f : Addr} {fd : FuncData} (bt : Bts mg) (F : Fun K "found_line" "found_line" s_found_line f fd) (cal_first_direction : Cal P w K mg base CX0 1 "first_direction" ["steps"] T_first_direction) (cal_found_formula : Cal P w K mg base CX0 3 "found_formula" ["lengths"] T_found_formula) (cal_lowest : Cal P w K mg base CX0 1 "lowest" ["number", "bottom"] T_lowest) (k_NOUGHT : Cst K mg "NOUGHT" c_NOUGHT) :
    FnG P w K mg base CX0 4 f fd ["steps"] (spD K T_found_line) := by
  have nd := (sc_found_line).nd
  refine fnD F sc_found_line len_found_line b_found_line (fun cdv A outer s H G E hr hg => ?_) spec_found_line
  exact (dss_cons (ds_if (dt_cmp (op_eqA (u64 hr)) c_eq (de_var 0) (de_lst da_nil))
 (dss_one (ds_ret (de_tup (da_cons de_int (da_cons (de_tup (da_cons (de_cst k_NOUGHT) (da_cons (de_cst k_NOUGHT) da_nil))) da_nil)))))
 dss_nil)
 (dss_cons (ds_setv 1 nd (de_c cal_first_direction hr hg (daf_cons (de_var 0) daf_nil)))
 (dss_cons (ds_if (dt_cmp op_is c_is (de_var 1) de_non)
 (dss_one (ds_ret de_non))
 dss_nil)
 (dss_cons (ds_setv 2 nd (de_c cal_found_formula hr hg (daf_cons (de_lc (own := [("step", 3)]) (g := dgName 3) (gg := gName 3) rfl nd (pi_l (de_var 0)) (blkOk_by (by kernel_rfl)) (go_name (by decide)) (fun _ _ _ _ _ => pg_n 3 nd) (fun _ _ _ _ _ => dts_nil) (fun _ _ _ _ _ => (de_t1 call_int1 c_int1 bt.n_int (de_cmp (op_neA (u64 hr)) c_ne (de_var 3) (de_var 1))))) daf_nil)))
 (dss_cons (ds_if (dt_cmp op_is c_is (de_var 2) de_non)
 (dss_one (ds_ret de_non))
 dss_nil)
 (dss_cons (ds_setg (de_var 2) (dg_tup (is := [4, 5, 6]) rfl (pgs_name 4 nd (pgs_name 5 nd (pgs_name 6 nd pgs_nil)))))
 (dss_one (ds_ret (de_tup (da_cons (de_var 1) (da_cons (de_tup (da_cons (de_c cal_lowest hr hg (daf_cons (de_var 4) (daf_cons (de_var 6) daf_nil))) (da_cons (de_c cal_lowest hr hg (daf_cons (de_var 5) (daf_cons (de_var 6) daf_nil))) da_nil))) da_nil)))))))))))
abbrev s_is_straight : Stmt := topS 27
theorem sc_is_straight : FnScope ["cells"] ["cells"] (defScope s_is_straight) := ⟨rfl, rfl, rfl, by decide +kernel, rfl, by decide +kernel, by decide +kernel⟩
theorem ok_is_straight {f : Addr} {fd : FuncData} (bt : Bts mg) (F : Fun K "is_straight" "is_straight" s_is_straight f fd) (cal_check_cells : Cal P w K mg base CX0 4 "check_cells" ["cells"] T_check_cells) (cal_found_line : Cal P w K mg base CX0 4 "found_line" ["steps"] T_found_line) (cal_directions_of : Cal P w K mg base CX0 2 "directions_of" ["cells"] T_directions_of) :
    FnG P w K mg base CX0 5 f fd ["cells"] (spD K T_is_straight) := by
  have nd := (sc_is_straight).nd
  refine fnD F sc_is_straight len_is_straight b_is_straight (fun cdv A outer s H G E hr hg => ?_) spec_is_straight
  exact (dss_cons (ds_expr (de_c cal_check_cells hr hg (daf_cons (de_var 0) daf_nil)))
 (dss_one (ds_ret (de_cmp op_isnot c_is (de_c cal_found_line hr hg (daf_cons (de_c cal_directions_of hr hg (daf_cons (de_var 0) daf_nil)) daf_nil)) de_non))))
abbrev s_fewest_pieces : Stmt := topS 28
theorem sc_fewest_pieces : FnScope ["cells", "steps", "pieces", "first", "last"] ["cells"] (defScope s_fewest_pieces) := ⟨rfl, rfl, rfl, by decide +kernel, rfl, by decide +kernel, by decide +kernel⟩
theorem ok_fewest_pieces {f : Addr} {fd : FuncData} (bt : Bts mg) (F : Fun K "fewest_pieces" "fewest_pieces" s_fewest_pieces f fd) (cal_check_cells : Cal P w K mg base CX0 4 "check_cells" ["cells"] T_check_cells) (cal_directions_of : Cal P w K mg base CX0 2 "directions_of" ["cells"] T_directions_of) (cal_found_line : Cal P w K mg base CX0 4 "found_line" ["steps"] T_found_line) :
    FnG P w K mg base CX0 5 f fd ["cells"] (spD K T_fewest_pieces) := by
  have nd := (sc_fewest_pieces).nd
  refine fnD F sc_fewest_pieces len_fewest_pieces b_fewest_pieces (fun cdv A outer s H G E hr hg => ?_) spec_fewest_pieces
  exact (dss_cons (ds_expr (de_c cal_check_cells hr hg (daf_cons (de_var 0) daf_nil)))
 (dss_cons (ds_if (dt_cmp (op_eqA (u64 hr)) c_eq (de_b1 cr_len c_len bt.n_len (de_var 0)) de_int)
 (dss_one (ds_ret (de_lst (da_cons (de_tup (da_cons de_int (da_cons de_int da_nil))) da_nil))))
 dss_nil)
 (dss_cons (ds_setv 1 nd (de_c cal_directions_of hr hg (daf_cons (de_var 0) daf_nil)))
 (dss_cons (ds_set 2 nd (de_lst da_nil))
 (dss_cons (ds_setv 3 nd de_int)
 (dss_cons (ds_while PassesOwn.never (dt_cmp op_lt c_lt (de_var 3) (de_b1 cr_len c_len bt.n_len (de_var 1)))
 (dss_cons (ds_setv 4 nd (de_op op_plus c_plus (de_var 3) de_int))
 (dss_cons (ds_while PassesOwn.never (PW.pt (dw_and (dt_cmp op_lt c_lt (de_var 4) (de_b1 cr_len c_len bt.n_len (de_var 1))) (dw_and1 (dt_cmp op_isnot c_is (de_c cal_found_line hr hg (daf_cons (de_sl (de_var 1) (do_some (de_var 3)) (do_some (de_op op_plus c_plus (de_var 4) de_int))) daf_nil)) de_non))))
 (dss_one (ds_setv 4 nd (de_op op_plus c_plus (de_var 4) de_int))))
 (dss_cons (ds_app 2 (de_tup (da_cons (de_var 3) (da_cons (de_var 4) da_nil))))
 (dss_one (ds_setv 3 nd (de_var 4)))))))
 (dss_one (ds_ret (de_var 2)))))))))
abbrev s__law_hash : Stmt := topS 30
theorem sc__law_hash : FnScope ["seed", "index", "mixed"] ["seed", "index"] (defScope s__law_hash) := ⟨rfl, rfl, rfl, by decide +kernel, rfl, by decide +kernel, by decide +kernel⟩
theorem ok__law_hash {f : Addr} {fd : FuncData} (bt : Bts mg) (F : Fun K "_law_hash" "_law_hash" s__law_hash f fd) :
    FnG P w K mg base CX0 1 f fd ["seed", "index"] (spD K T__law_hash) := by
  have nd := (sc__law_hash).nd
  refine fnD F sc__law_hash len__law_hash b__law_hash (fun cdv A outer s H G E hr hg => ?_) spec__law_hash
  exact (dss_cons (ds_setv 2 nd (de_op op_modN c_mod (de_t1 call_int1 c_int1 bt.n_int (de_op op_plus c_plus (de_op op_plus c_plus (de_op op_plus c_plus (de_op op_mulW c_mul (de_var 0) de_int) (de_op op_mulW c_mul (de_op op_mulW c_mul de_int (de_var 1)) (de_var 1))) (de_op op_mulW c_mul de_int (de_var 1))) de_int)) de_int))
 (dss_cons (ds_setv 2 nd (de_op op_modN c_mod (de_t1 call_int1 c_int1 bt.n_int (de_op op_plus c_plus (de_op op_plus c_plus (de_op op_mulW c_mul (de_var 2) (de_var 2)) (de_op op_mulW c_mul de_int (de_var 1))) de_int)) de_int))
 (dss_one (ds_ret (de_op op_modN c_mod (de_t1 call_int1 c_int1 bt.n_int (de_op op_mulW c_mul (de_var 2) de_int)) de_int)))))
abbrev s__law_cell : Stmt := topS 32
theorem sc__law_cell : FnScope ["script", "index"] ["script", "index"] (defScope s__law_cell) := ⟨rfl, rfl, rfl, by decide +kernel, rfl, by decide +kernel, by decide +kernel⟩
theorem ok__law_cell {f : Addr} {fd : FuncData} (bt : Bts mg) (F : Fun K "_law_cell" "_law_cell" s__law_cell f fd) :
    FnG P w K mg base CX0 1 f fd ["script", "index"] (spD K T__law_cell) := by
  have nd := (sc__law_cell).nd
  refine fnD F sc__law_cell len__law_cell b__law_cell (fun cdv A outer s H G E hr hg => ?_) spec__law_cell
  exact (dss_cons (ds_if (dt_cmp op_lt c_lt (de_var 1) (de_b1 cr_len c_len bt.n_len (de_var 0)))
 (dss_one (ds_ret (de_ix (de_var 0) (de_var 1))))
 dss_nil)
 (dss_one (ds_ret (de_op op_modN c_mod (de_b1 (cr_sum rfl) c_sum bt.n_sum (de_sl (de_var 0) do_none (do_some de_int))) de_int))))
abbrev s__law_generator : Stmt := topS 33
theorem sc__law_generator : FnScope ["script", "index", "seed"] ["script", "index"] (defScope s__law_generator) := ⟨rfl, rfl, rfl, by decide +kernel, rfl, by decide +kernel, by decide +kernel⟩
theorem ok__law_generator {f : Addr} {fd : FuncData} (bt : Bts mg) (F : Fun K "_law_generator" "_law_generator" s__law_generator f fd) (cal__law_cell : Cal P w K mg base CX0 1 "_law_cell" ["script", "index"] T__law_cell) :
    FnG P w K mg base CX0 2 f fd ["script", "index"] (spD K T__law_generator0) := by
  have nd := (sc__law_generator).nd
  refine fnD F sc__law_generator len__law_generator b__law_generator (fun cdv A outer s H G E hr hg => ?_) spec__law_generator
  exact (dss_cons (ds_setv 2 nd (de_c cal__law_cell hr hg (daf_cons (de_var 0) (daf_cons (de_var 1) daf_nil))))
 (dss_one (ds_ret (de_lst (da_cons (de_op op_modN c_mod (de_t1 call_int1 c_int1 bt.n_int (de_b2 (call_max2 rfl) c_max2 bt.n_max (de_op op_sub c_sub (de_var 2) (de_op op_powW c_pow de_int de_int)) de_int)) (de_op op_powW c_pow (de_op op_powW c_pow de_int de_int) de_int)) (da_cons (de_op op_modN c_mod (de_t1 call_int1 c_int1 bt.n_int (de_var 2)) de_int) (da_cons (de_op op_mulW c_mul de_int (de_var 1)) da_nil)))))))
abbrev s__law_pick : Stmt := topS 34
theorem sc__law_pick : FnScope ["generator", "things"] ["generator", "things"] (defScope s__law_pick) := ⟨rfl, rfl, rfl, by decide +kernel, rfl, by decide +kernel, by decide +kernel⟩
theorem ok__law_pick {f : Addr} {fd : FuncData} (bt : Bts mg) (F : Fun K "_law_pick" "_law_pick" s__law_pick f fd) (cal__law_random : Cal P w K mg base CX0 2 "_law_random" ["generator", "bound"] T__law_random) :
    FnG P w K mg base CX0 3 f fd ["generator", "things"] (spD K T__law_pick) := by
  have nd := (sc__law_pick).nd
  refine fnD F sc__law_pick len__law_pick b__law_pick (fun cdv A outer s H G E hr hg => ?_) spec__law_pick
  exact (dss_one (ds_ret (de_ix (de_var 1) (de_c cal__law_random hr hg (daf_cons (de_var 0) (daf_cons (de_b1 cr_len c_len bt.n_len (de_var 1)) daf_nil))))))
abbrev s__law_same : Stmt := topS 35
theorem sc__law_same : FnScope ["told", "due", "at"] ["told", "due"] (defScope s__law_same) := ⟨rfl, rfl, rfl, by decide +kernel, rfl, by decide +kernel, by decide +kernel⟩
theorem ok__law_same {k : Nat} {T T__law_same : DSpec} {f : Addr} {fd : FuncData} (len : ∀ rs β Q E, T rs β Q E → rs.length = 2 ∧ Fz rs) (spec : ∀ rs β PQ PE, T rs β PQ PE → b__law_same T__law_same (endsOf PQ) ⟨startR N__law_same rs, β⟩) (bt : Bts mg) (F : Fun K "_law_same" "_law_same" s__law_same f fd)
    (cal__law_same : Cal P w K mg base CX0 k "_law_same" ["told", "due"] T__law_same) (hk : 0 ≤ k) : FnG P w K mg base CX0 (k + 1) f fd ["told", "due"] (spD K T) := by
  have nd := (sc__law_same).nd
  refine fnD F sc__law_same len (b__law_same T__law_same) (fun cdv A outer s H G E hr hg => ?_) spec
  exact (dss_cons (ds_if (PW.pt (dw_or (dt_cmp op_is c_is (de_var 1) de_non) (dw_or (dt_cmp op_is c_is (de_var 1) de_bl) (dw_or1 (dt_cmp op_is c_is (de_var 1) de_bl)))))
 (dss_one (ds_ret (de_if (dt_cmp op_is c_is (de_var 1) de_non) (de_cmp op_is c_is (de_var 0) de_non) (de_if (dt_cmp op_is c_is (de_var 1) de_bl) (de_cmp op_is c_is (de_var 0) de_bl) (de_cmp op_is c_is (de_var 0) de_bl)))))
 dss_nil)
 (dss_cons (ds_if (dt_val (de_isi2 .list .tuple bt.n_isinstance bt.n_list bt.n_tuple (de_var 1)))
 (dss_cons (ds_if (PW.pt (dw_or (PW.pt (dw_and (dt_not (dt_val (de_isi1 .list bt.n_isinstance bt.n_list (de_var 0)))) (dw_and1 (dt_val (de_isi1 .list bt.n_isinstance bt.n_list (de_var 1)))))) (dw_or1 (PW.pt (dw_and (dt_not (dt_val (de_isi1 .tuple bt.n_isinstance bt.n_tuple (de_var 0)))) (dw_and1 (dt_val (de_isi1 .tuple bt.n_isinstance bt.n_tuple (de_var 1)))))))))
 (dss_one (ds_ret de_bl))
 dss_nil)
 (dss_one (ds_ret (de_and (de_cmp (op_eqA (u64 hr)) c_eq (de_b1 cr_len c_len bt.n_len (de_var 0)) (de_b1 cr_len c_len bt.n_len (de_var 1))) (de_one (de_cmp (op_eqA (u64 hr)) c_eq (de_lc (own := [("at", 2)]) (g := dgName 2) (gg := gName 2) rfl nd (pi_r1 bt.n_range (de_b1 cr_len c_len bt.n_len (de_var 1))) (blkOk_by (by kernel_rfl)) (go_name (by decide)) (fun _ _ _ _ _ => pg_n 2 nd) (fun _ _ _ _ _ => (dts_one (dt_not (dt_val (de_c cal__law_same (hj := by omega) hr hg (daf_cons (de_ix (de_var 0) (de_var 2)) (daf_cons (de_ix (de_var 1) (de_var 2)) daf_nil))))))) (fun _ _ _ _ _ => (de_var 2))) (de_lst da_nil)))))))
 dss_nil)
 (dss_cons (ds_if (dt_val (de_isi1 .int bt.n_isinstance bt.n_int (de_var 1)))
 (dss_one (ds_ret (de_and (de_isi1 .int bt.n_isinstance bt.n_int (de_var 0)) (de_and (de_not (de_isi1 .bool bt.n_isinstance bt.n_bool (de_var 0))) (de_one (de_cmp (op_eqA (u64 hr)) c_eq (de_var 0) (de_var 1)))))))
 dss_nil)
 (dss_one (ds_ret (de_and (de_isi1 .str bt.n_isinstance bt.n_str (de_var 0)) (de_one (de_cmp (op_eqA (u64 hr)) c_eq (de_var 0) (de_var 1)))))))))
abbrev s__law_put : Stmt := topS 36
theorem sc__law_put : FnScope ["things", "at", "thing"] ["things", "at", "thing"] (defScope s__law_put) := ⟨rfl, rfl, rfl, by decide +kernel, rfl, by decide +kernel, by decide +kernel⟩
theorem ok__law_put {f : Addr} {fd : FuncData} (bt : Bts mg) (F : Fun K "_law_put" "_law_put" s__law_put f fd) :
    FnG P w K mg base CX0 1 f fd ["things", "at", "thing"] (spD K T__law_put) := by
  have nd := (sc__law_put).nd
  refine fnD F sc__law_put len__law_put b__law_put (fun cdv A outer s H G E hr hg => ?_) spec__law_put
  exact (dss_one (ds_ret (de_op op_plus c_plus (de_op op_plus c_plus (de_sl (de_var 0) do_none (do_some (de_var 1))) (de_lst (da_cons (de_var 2) da_nil))) (de_sl (de_var 0) (do_some (de_op op_plus c_plus (de_var 1) de_int)) do_none))))
abbrev s__law_heights : Stmt := topS 37
theorem sc__law_heights : FnScope ["row", "told", "letter"] ["row"] (defScope s__law_heights) := ⟨rfl, rfl, rfl, by decide +kernel, rfl, by decide +kernel, by decide +kernel⟩
theorem ok__law_heights {f : Addr} {fd : FuncData} (bt : Bts mg) (F : Fun K "_law_heights" "_law_heights" s__law_heights f fd) :
    FnG P w K mg base CX0 1 f fd ["row"] (spD K T__law_heights) := by
  have nd := (sc__law_heights).nd
  refine fnD F sc__law_heights len__law_heights b__law_heights (fun cdv A outer s H G E hr hg => ?_) spec__law_heights
  exact (dss_cons (ds_set 1 nd (de_lst (da_cons de_int da_nil)))
 (dss_cons (ds_for PassesOwn.never rfl (pi_l (de_var 0)) (dg_name 2 nd)
 (dss_one (ds_app 1 (de_op op_plus c_plus (de_ix (de_var 1) (de_un un_neg c_neg de_int)) (de_var 2)))))
 (dss_one (ds_ret (de_var 1)))))
abbrev s__law_line_row : Stmt := topS 38
theorem sc__law_line_row : FnScope ["generator", "most", "bottom", "number", "start", "length", "sums", "place"] ["generator", "most"] (defScope s__law_line_row) := ⟨rfl, rfl, rfl, by decide +kernel, rfl, by decide +kernel, by decide +kernel⟩
theorem ok__law_line_row {f : Addr} {fd : FuncData} (bt : Bts mg) (F : Fun K "_law_line_row" "_law_line_row" s__law_line_row f fd) (cal__law_random : Cal P w K mg base CX0 2 "_law_random" ["generator", "bound"] T__law_random) (cal__law_pick : Cal P w K mg base CX0 3 "_law_pick" ["generator", "things"] T__law_pick) :
    FnG P w K mg base CX0 4 f fd ["generator", "most"] (spD K T__law_line_row) := by
  have nd := (sc__law_line_row).nd
  refine fnD F sc__law_line_row len__law_line_row b__law_line_row (fun cdv A outer s H G E hr hg => ?_) spec__law_line_row
  exact (dss_cons (ds_setv 2 nd (de_op op_plus c_plus de_int (de_c cal__law_random hr hg (daf_cons (de_var 0) (daf_cons (de_c cal__law_pick hr hg (daf_cons (de_var 0) (daf_cons (de_lst (da_cons de_int (da_cons de_int (da_cons de_int da_nil)))) daf_nil))) daf_nil)))))
 (dss_cons (ds_set3 3 4 5 rfl (pgs_name 3 nd (pgs_name 4 nd (pgs_name 5 nd pgs_nil))) (de_fz (de_c cal__law_random hr hg (daf_cons (de_var 0) (daf_cons (de_op op_plus c_plus (de_var 2) de_int) daf_nil)))) (de_fz (de_c cal__law_random hr hg (daf_cons (de_var 0) (daf_cons (de_var 2) daf_nil)))) (de_fz (de_c cal__law_random hr hg (daf_cons (de_var 0) (daf_cons (de_op op_plus c_plus (de_var 1) de_int) daf_nil)))))
 (dss_cons (ds_setv 6 nd (de_lc (own := [("place", 7)]) (g := dgName 7) (gg := gName 7) rfl nd (pi_r1 bt.n_range (de_op op_plus c_plus (de_var 5) de_int)) (blkOk_by (by kernel_rfl)) (go_name (by decide)) (fun _ _ _ _ _ => pg_n 7 nd) (fun _ _ _ _ _ => dts_nil) (fun _ _ _ _ _ => (de_op op_div c_div (de_op op_plus c_plus (de_op op_mulW c_mul (de_var 3) (de_var 7)) (de_var 4)) (de_var 2)))))
 (dss_one (ds_ret (de_lc (own := [("place", 7)]) (g := dgName 7) (gg := gName 7) rfl nd (pi_r1 bt.n_range (de_var 5)) (blkOk_by (by kernel_rfl)) (go_name (by decide)) (fun _ _ _ _ _ => pg_n 7 nd) (fun _ _ _ _ _ => dts_nil) (fun _ _ _ _ _ => (de_op op_sub c_sub (de_ix (de_var 6) (de_op op_plus c_plus (de_var 7) de_int)) (de_ix (de_var 6) (de_var 7))))))))))
abbrev s__law_bent_row : Stmt := topS 39
theorem sc__law_bent_row : FnScope ["generator", "row", "at"] ["generator", "row"] (defScope s__law_bent_row) := ⟨rfl, rfl, rfl, by decide +kernel, rfl, by decide +kernel, by decide +kernel⟩
theorem ok__law_bent_row {f : Addr} {fd : FuncData} (bt : Bts mg) (F : Fun K "_law_bent_row" "_law_bent_row" s__law_bent_row f fd) (cal__law_random : Cal P w K mg base CX0 2 "_law_random" ["generator", "bound"] T__law_random) (cal__law_put : Cal P w K mg base CX0 1 "_law_put" ["things", "at", "thing"] T__law_put) :
    FnG P w K mg base CX0 3 f fd ["generator", "row"] (spD K T__law_bent_row) := by
  have nd := (sc__law_bent_row).nd
  refine fnD F sc__law_bent_row len__law_bent_row b__law_bent_row (fun cdv A outer s H G E hr hg => ?_) spec__law_bent_row
  exact (dss_cons (ds_if (dt_cmp (op_eqA (u64 hr)) c_eq (de_var 1) (de_lst da_nil))
 (dss_one (ds_ret (de_lst (da_cons de_int da_nil))))
 dss_nil)
 (dss_cons (ds_setv 2 nd (de_c cal__law_random hr hg (daf_cons (de_var 0) (daf_cons (de_b1 cr_len c_len bt.n_len (de_var 1)) daf_nil))))
 (dss_one (ds_ret (de_c cal__law_put hr hg (daf_cons (de_var 1) (daf_cons (de_var 2) (daf_cons (de_op op_sub c_sub de_int (de_ix (de_var 1) (de_var 2))) daf_nil))))))))
abbrev s__law_uneven : Stmt := topS 40
theorem sc__law_uneven : FnScope ["row", "sums", "length", "told", "start"] ["row"] (defScope s__law_uneven) := ⟨rfl, rfl, rfl, by decide +kernel, rfl, by decide +kernel, by decide +kernel⟩
theorem ok__law_uneven {f : Addr} {fd : FuncData} (bt : Bts mg) (F : Fun K "_law_uneven" "_law_uneven" s__law_uneven f fd) (cal__law_heights : Cal P w K mg base CX0 1 "_law_heights" ["row"] T__law_heights) :
    FnG P w K mg base CX0 2 f fd ["row"] (spD K T__law_uneven) := by
  have nd := (sc__law_uneven).nd
  refine fnD F sc__law_uneven len__law_uneven b__law_uneven (fun cdv A outer s H G E hr hg => ?_) spec__law_uneven
  exact (dss_cons (ds_setv 1 nd (de_c cal__law_heights hr hg (daf_cons (de_var 0) daf_nil)))
 (dss_cons (ds_for PassesOwn.never rfl (pi_r2 bt.n_range de_int (de_op op_plus c_plus (de_b1 cr_len c_len bt.n_len (de_var 0)) de_int)) (dg_name 2 nd)
 (dss_cons (ds_setlcv 3 (own := [("start", 4)]) (g := dgName 4) (gg := gName 4) rfl nd (pi_r1 bt.n_range (de_op op_plus c_plus (de_op op_sub c_sub (de_b1 cr_len c_len bt.n_len (de_var 0)) (de_var 2)) de_int)) (blkOk_by (by kernel_rfl)) (go_name (by decide)) (fun _ _ _ _ _ => pg_n 4 nd) (fun _ _ _ _ _ => dts_nil) (fun _ _ _ _ _ => (de_op op_sub c_sub (de_ix (de_var 1) (de_op op_plus c_plus (de_var 4) (de_var 2))) (de_ix (de_var 1) (de_var 4)))) (sw_true rfl rfl rfl (by decide +kernel)))
 (dss_one (ds_if (dt_cmp op_gt c_gt (de_op op_sub c_sub (de_b1 (cr_max rfl) c_max bt.n_max (de_var 3)) (de_b1 (cr_min rfl) c_min bt.n_min (de_var 3))) de_int)
 (dss_one (ds_ret (de_tup (da_cons (de_index (u65 hr) (de_var 3) (de_b1 (cr_min rfl) c_min bt.n_min (de_var 3))) (da_cons (de_index (u65 hr) (de_var 3) (de_b1 (cr_max rfl) c_max bt.n_max (de_var 3))) (da_cons (de_var 2) da_nil))))))
 dss_nil))))
 (dss_one (ds_ret de_non))))
abbrev s__law_steps : Stmt := topS 41
theorem sc__law_steps : FnScope [] [] (defScope s__law_steps) := ⟨rfl, rfl, rfl, by decide +kernel, rfl, by decide +kernel, by decide +kernel⟩
theorem ok__law_steps {f : Addr} {fd : FuncData} (bt : Bts mg) (F : Fun K "_law_steps" "_law_steps" s__law_steps f fd) :
    FnG P w K mg base CX0 1 f fd [] (spD K T__law_steps) := by
  have nd := (sc__law_steps).nd
  refine fnD F sc__law_steps len__law_steps b__law_steps (fun cdv A outer s H G E hr hg => ?_) spec__law_steps
  exact (dss_one (ds_ret (de_lst (da_cons (de_tup (da_cons de_int (da_cons de_int da_nil))) (da_cons (de_tup (da_cons de_int (da_cons de_int da_nil))) (da_cons (de_tup (da_cons de_int (da_cons de_int da_nil))) (da_cons (de_tup (da_cons (de_op op_sub c_sub de_int de_int) (da_cons de_int da_nil))) (da_cons (de_tup (da_cons (de_op op_sub c_sub de_int de_int) (da_cons de_int da_nil))) (da_cons (de_tup (da_cons (de_op op_sub c_sub de_int de_int) (da_cons (de_op op_sub c_sub de_int de_int) da_nil))) (da_cons (de_tup (da_cons de_int (da_cons (de_op op_sub c_sub de_int de_int) da_nil))) (da_cons (de_tup (da_cons de_int (da_cons (de_op op_sub c_sub de_int de_int) da_nil))) da_nil)))))))))))
abbrev s__law_direction : Stmt := topS 42
theorem sc__law_direction : FnScope ["steps", "direction", "step"] ["steps"] (defScope s__law_direction) := ⟨rfl, rfl, rfl, by decide +kernel, rfl, by decide +kernel, by decide +kernel⟩
theorem ok__law_direction {f : Addr} {fd : FuncData} (bt : Bts mg) (F : Fun K "_law_direction" "_law_direction" s__law_direction f fd) :
    FnG P w K mg base CX0 1 f fd ["steps"] (spD K T__law_direction) := by
  have nd := (sc__law_direction).nd
  refine fnD F sc__law_direction len__law_direction b__law_direction (fun cdv A outer s H G E hr hg => ?_) spec__law_direction
  exact (dss_cons (ds_for PassesOwn.never rfl (pi_r1 bt.n_range de_int) (dg_name 1 nd)
 (dss_one (ds_if (dt_cmp (op_eqA (u64 hr)) c_eq (de_lc (own := [("step", 2)]) (g := dgName 2) (gg := gName 2) rfl nd (pi_l (de_var 0)) (blkOk_by (by kernel_rfl)) (go_name (by decide)) (fun _ _ _ _ _ => pg_n 2 nd) (fun _ _ _ _ _ => (dts_one (dt_cmp (op_notinA (u65 hr)) c_notin (de_var 2) (de_tup (da_cons (de_var 1) (da_cons (de_op op_modN c_mod (de_t1 call_int1 c_int1 bt.n_int (de_op op_plus c_plus (de_var 1) de_int)) de_int) da_nil)))))) (fun _ _ _ _ _ => (de_var 2))) (de_lst da_nil))
 (dss_one (ds_ret (de_var 1)))
 dss_nil)))
 (dss_one (ds_ret de_non)))
abbrev s__law_path : Stmt := topS 43
theorem sc__law_path : FnScope ["cell", "steps", "cells", "step", "move"] ["cell", "steps"] (defScope s__law_path) := ⟨rfl, rfl, rfl, by decide +kernel, rfl, by decide +kernel, by decide +kernel⟩
theorem ok__law_path {f : Addr} {fd : FuncData} (bt : Bts mg) (F : Fun K "_law_path" "_law_path" s__law_path f fd) (cal__law_steps : Cal P w K mg base CX0 1 "_law_steps" [] T__law_steps) :
    FnG P w K mg base CX0 2 f fd ["cell", "steps"] (spD K T__law_path) := by
  have nd := (sc__law_path).nd
  refine fnD F sc__law_path len__law_path b__law_path (fun cdv A outer s H G E hr hg => ?_) spec__law_path
  exact (dss_cons (ds_set 2 nd (de_lst (da_cons (de_var 0) da_nil)))
 (dss_cons (ds_for PassesOwn.never rfl (pi_l (de_var 1)) (dg_name 3 nd)
 (dss_cons (ds_setv 4 nd (de_ix (de_c0 cal__law_steps hr hg) (de_var 3)))
 (dss_one (ds_app 2 (de_tup (da_cons (de_op op_plus c_plus (de_ix (de_ix (de_var 2) (de_un un_neg c_neg de_int)) de_int) (de_ix (de_var 4) de_int)) (da_cons (de_op op_plus c_plus (de_ix (de_ix (de_var 2) (de_un un_neg c_neg de_int)) de_int) (de_ix (de_var 4) de_int)) da_nil)))))))
 (dss_one (ds_ret (de_var 2)))))
abbrev s__law_is_straight : Stmt := topS 44
theorem sc__law_is_straight : FnScope ["steps", "direction", "step"] ["steps"] (defScope s__law_is_straight) := ⟨rfl, rfl, rfl, by decide +kernel, rfl, by decide +kernel, by decide +kernel⟩
theorem ok__law_is_straight {f : Addr} {fd : FuncData} (bt : Bts mg) (F : Fun K "_law_is_straight" "_law_is_straight" s__law_is_straight f fd) (cal__law_direction : Cal P w K mg base CX0 1 "_law_direction" ["steps"] T__law_direction) (cal__law_uneven : Cal P w K mg base CX0 2 "_law_uneven" ["row"] T__law_uneven) :
    FnG P w K mg base CX0 3 f fd ["steps"] (spD K T__law_is_straight) := by
  have nd := (sc__law_is_straight).nd
  refine fnD F sc__law_is_straight len__law_is_straight b__law_is_straight (fun cdv A outer s H G E hr hg => ?_) spec__law_is_straight
  exact (dss_cons (ds_setv 1 nd (de_c cal__law_direction hr hg (daf_cons (de_var 0) daf_nil)))
 (dss_one (ds_ret (de_and (de_cmp op_isnot c_is (de_var 1) de_non) (de_one (de_cmp op_is c_is (de_c cal__law_uneven hr hg (daf_cons (de_lc (own := [("step", 2)]) (g := dgName 2) (gg := gName 2) rfl nd (pi_l (de_var 0)) (blkOk_by (by kernel_rfl)) (go_name (by decide)) (fun _ _ _ _ _ => pg_n 2 nd) (fun _ _ _ _ _ => dts_nil) (fun _ _ _ _ _ => (de_t1 call_int1 c_int1 bt.n_int (de_cmp (op_neA (u64 hr)) c_ne (de_var 2) (de_var 1))))) daf_nil)) de_non))))))
abbrev s__law_drawn_steps : Stmt := topS 45
theorem sc__law_drawn_steps : FnScope ["generator", "most", "direction", "way", "row", "steps", "letter", "step"] ["generator", "most"] (defScope s__law_drawn_steps) := ⟨rfl, rfl, rfl, by decide +kernel, rfl, by decide +kernel, by decide +kernel⟩
theorem ok__law_drawn_steps {f : Addr} {fd : FuncData} (bt : Bts mg) (F : Fun K "_law_drawn_steps" "_law_drawn_steps" s__law_drawn_steps f fd) (cal__law_random : Cal P w K mg base CX0 2 "_law_random" ["generator", "bound"] T__law_random) (cal__law_line_row : Cal P w K mg base CX0 4 "_law_line_row" ["generator", "most"] T__law_line_row) (cal__law_bent_row : Cal P w K mg base CX0 3 "_law_bent_row" ["generator", "row"] T__law_bent_row) (cal__law_put : Cal P w K mg base CX0 1 "_law_put" ["things", "at", "thing"] T__law_put) :
    FnG P w K mg base CX0 5 f fd ["generator", "most"] (spD K T__law_drawn_steps) := by
  have nd := (sc__law_drawn_steps).nd
  refine fnD F sc__law_drawn_steps len__law_drawn_steps b__law_drawn_steps (fun cdv A outer s H G E hr hg => ?_) spec__law_drawn_steps
  exact (dss_cons (ds_set2 2 3 rfl (pgs_name 2 nd (pgs_name 3 nd pgs_nil)) (de_fz (de_c cal__law_random hr hg (daf_cons (de_var 0) (daf_cons de_int daf_nil)))) (de_fz (de_c cal__law_random hr hg (daf_cons (de_var 0) (daf_cons de_int daf_nil)))))
 (dss_cons (ds_setv 4 nd (de_c cal__law_line_row hr hg (daf_cons (de_var 0) (daf_cons (de_var 1) daf_nil))))
 (dss_cons (ds_if (dt_cmp (op_eqA (u64 hr)) c_eq (de_var 3) de_int)
 (dss_one (ds_setv 4 nd (de_c cal__law_bent_row hr hg (daf_cons (de_var 0) (daf_cons (de_var 4) daf_nil)))))
 dss_nil)
 (dss_cons (ds_setlcv 5 (own := [("letter", 6)]) (g := dgName 6) (gg := gName 6) rfl nd (pi_l (de_var 4)) (blkOk_by (by kernel_rfl)) (go_name (by decide)) (fun _ _ _ _ _ => pg_n 6 nd) (fun _ _ _ _ _ => dts_nil) (fun _ _ _ _ _ => (de_op op_modN c_mod (de_t1 call_int1 c_int1 bt.n_int (de_op op_plus c_plus (de_var 2) (de_var 6))) de_int)) (sw_true rfl rfl rfl (by decide +kernel)))
 (dss_cons (ds_if (PW.pt (dw_and (dt_cmp (op_eqA (u64 hr)) c_eq (de_var 3) de_int) (dw_and1 (dt_cmp (op_neA (u64 hr)) c_ne (de_var 5) (de_lst da_nil)))))
 (dss_one (ds_setv 5 nd (de_c cal__law_put hr hg (daf_cons (de_var 5) (daf_cons (de_c cal__law_random hr hg (daf_cons (de_var 0) (daf_cons (de_b1 cr_len c_len bt.n_len (de_var 5)) daf_nil))) (daf_cons (de_c cal__law_random hr hg (daf_cons (de_var 0) (daf_cons de_int daf_nil))) daf_nil))))))
 dss_nil)
 (dss_one (ds_ret (de_if (dt_cmp op_lt c_lt (de_var 3) de_int) (de_var 5) (de_lc (own := [("step", 7)]) (g := dgName 7) (gg := gName 7) rfl nd (pi_r1 bt.n_range (de_c cal__law_random hr hg (daf_cons (de_var 0) (daf_cons (de_op op_plus c_plus (de_var 1) de_int) daf_nil)))) (blkOk_by (by kernel_rfl)) (go_name (by decide)) (fun _ _ _ _ _ => pg_n 7 nd) (fun _ _ _ _ _ => dts_nil) (fun _ _ _ _ _ => (de_op op_modN c_mod (de_t1 call_int1 c_int1 bt.n_int (de_op op_plus c_plus (de_var 2) (de_c cal__law_random hr hg (daf_cons (de_var 0) (daf_cons de_int daf_nil))))) de_int)))))))))))
abbrev s__law_cell_drawn : Stmt := topS 46
theorem sc__law_cell_drawn : FnScope ["generator", "far"] ["generator"] (defScope s__law_cell_drawn) := ⟨rfl, rfl, rfl, by decide +kernel, rfl, by decide +kernel, by decide +kernel⟩
theorem ok__law_cell_drawn {f : Addr} {fd : FuncData} (bt : Bts mg) (F : Fun K "_law_cell_drawn" "_law_cell_drawn" s__law_cell_drawn f fd) (cal__law_pick : Cal P w K mg base CX0 3 "_law_pick" ["generator", "things"] T__law_pick) (cal__law_random : Cal P w K mg base CX0 2 "_law_random" ["generator", "bound"] T__law_random) :
    FnG P w K mg base CX0 4 f fd ["generator"] (spD K T__law_cell_drawn) := by
  have nd := (sc__law_cell_drawn).nd
  refine fnD F sc__law_cell_drawn len__law_cell_drawn b__law_cell_drawn (fun cdv A outer s H G E hr hg => ?_) spec__law_cell_drawn
  exact (dss_cons (ds_setv 1 nd (de_c cal__law_pick hr hg (daf_cons (de_var 0) (daf_cons (de_lst (da_cons de_int (da_cons (de_op op_powW c_pow de_int de_int) da_nil))) daf_nil))))
 (dss_one (ds_ret (de_tup (da_cons (de_op op_sub c_sub (de_c cal__law_random hr hg (daf_cons (de_var 0) (daf_cons (de_op op_mulW c_mul de_int (de_var 1)) daf_nil))) (de_var 1)) (da_cons (de_op op_sub c_sub (de_c cal__law_random hr hg (daf_cons (de_var 0) (daf_cons (de_op op_mulW c_mul de_int (de_var 1)) daf_nil))) (de_var 1)) da_nil))))))
abbrev s__law_fewest : Stmt := topS 47
theorem sc__law_fewest : FnScope ["steps", "best", "end", "start"] ["steps"] (defScope s__law_fewest) := ⟨rfl, rfl, rfl, by decide +kernel, rfl, by decide +kernel, by decide +kernel⟩
theorem ok__law_fewest {f : Addr} {fd : FuncData} (bt : Bts mg) (F : Fun K "_law_fewest" "_law_fewest" s__law_fewest f fd) (cal__law_is_straight : Cal P w K mg base CX0 3 "_law_is_straight" ["steps"] T__law_is_straight) :
    FnG P w K mg base CX0 4 f fd ["steps"] (spD K T__law_fewest) := by
  have nd := (sc__law_fewest).nd
  refine fnD F sc__law_fewest len__law_fewest b__law_fewest (fun cdv A outer s H G E hr hg => ?_) spec__law_fewest
  exact (dss_cons (ds_set 1 nd (de_lst (da_cons de_int da_nil)))
 (dss_cons (ds_for PassesOwn.never rfl (pi_r2 bt.n_range de_int (de_op op_plus c_plus (de_b1 cr_len c_len bt.n_len (de_var 0)) de_int)) (dg_name 2 nd)
 (dss_one (ds_app 1 (de_b1 (cr_min rfl) c_min bt.n_min (de_lc (own := [("start", 3)]) (g := dgName 3) (gg := gName 3) rfl nd (pi_r1 bt.n_range (de_var 2)) (blkOk_by (by kernel_rfl)) (go_name (by decide)) (fun _ _ _ _ _ => pg_n 3 nd) (fun _ _ _ _ _ => (dts_one (dt_val (de_c cal__law_is_straight hr hg (daf_cons (de_sl (de_var 0) (do_some (de_var 3)) (do_some (de_var 2))) daf_nil))))) (fun _ _ _ _ _ => (de_op op_plus c_plus (de_ix (de_var 1) (de_var 3)) de_int)))))))
 (dss_one (ds_ret (de_ix (de_var 1) (de_un un_neg c_neg de_int))))))
abbrev s_law : Stmt := topS 48
theorem sc_law : FnScope ["script", "generator", "turn", "steps", "part", "cells", "due", "first", "last", "kept", "told", "piece"] ["script"] (defScope s_law) := ⟨rfl, rfl, rfl, by decide +kernel, rfl, by decide +kernel, by decide +kernel⟩
theorem ok_law {f : Addr} {fd : FuncData} (bt : Bts mg) (F : Fun K "law" "law" s_law f fd) (cal__law_generator : Cal P w K mg base CX0 2 "_law_generator" ["script", "index"] T__law_generator) (cal__law_random : Cal P w K mg base CX0 2 "_law_random" ["generator", "bound"] T__law_random) (cal__law_drawn_steps : Cal P w K mg base CX0 5 "_law_drawn_steps" ["generator", "most"] T__law_drawn_steps) (cal__law_path : Cal P w K mg base CX0 2 "_law_path" ["cell", "steps"] T__law_path) (cal__law_cell_drawn : Cal P w K mg base CX0 4 "_law_cell_drawn" ["generator"] T__law_cell_drawn) (cal__law_is_straight : Cal P w K mg base CX0 3 "_law_is_straight" ["steps"] T__law_is_straight) (cal_fewest_pieces : Cal P w K mg base CX0 5 "fewest_pieces" ["cells"] T_fewest_pieces) (cal__law_same : Cal P w K mg base CX0 6 "_law_same" ["told", "due"] T__law_same) (cal__law_fewest : Cal P w K mg base CX0 4 "_law_fewest" ["steps"] T__law_fewest) (cal_is_straight : Cal P w K mg base CX0 5 "is_straight" ["cells"] T_is_straight) (kal_fewest_pieces_0_0 : CalK P w K mg base CX0 5 "fewest_pieces" ["cells"] ["cells"] 0 [0] T_fewest_pieces) :
    FnG P w K mg base CX0 7 f fd ["script"] (spD K T_law) := by
  have nd := (sc_law).nd
  refine fnD F sc_law len_law b_law (fun cdv A outer s H G E hr hg => ?_) spec_law
  exact (dss_cons (ds_setv 1 nd (de_c cal__law_generator hr hg (daf_cons (de_var 0) (daf_cons de_int daf_nil))))
 (dss_cons (ds_for PassesOwn.never rfl (pi_r1 bt.n_range de_int) (dg_name 2 nd)
 (dss_cons (ds_setv 3 nd (de_lst da_nil))
 (dss_cons (ds_for PassesOwn.never rfl (pi_r1 bt.n_range (de_op op_plus c_plus de_int (de_c cal__law_random hr hg (daf_cons (de_var 1) (daf_cons de_int daf_nil))))) (dg_name 4 nd)
 (dss_one (ds_setv 3 nd (de_op op_plus c_plus (de_var 3) (de_c cal__law_drawn_steps hr hg (daf_cons (de_var 1) (daf_cons de_int daf_nil)))))))
 (dss_cons (ds_set3 5 6 7 rfl (pgs_name 5 nd (pgs_name 6 nd (pgs_name 7 nd pgs_nil))) (de_fz (de_c cal__law_path hr hg (daf_cons (de_c cal__law_cell_drawn hr hg (daf_cons (de_var 1) daf_nil)) (daf_cons (de_sl (de_var 3) do_none (do_some de_int)) daf_nil)))) (de_lst da_nil) (de_fz de_int))
 (dss_cons (ds_setv 3 nd (de_sl (de_var 3) do_none (do_some de_int)))
 (dss_cons (ds_while PassesOwn.never (dt_cmp op_lt c_lt (de_var 7) (de_b1 cr_len c_len bt.n_len (de_var 3)))
 (dss_cons (ds_setv 8 nd (de_op op_plus c_plus (de_var 7) de_int))
 (dss_cons (ds_while PassesOwn.never (PW.pt (dw_and (dt_cmp op_lt c_lt (de_var 8) (de_b1 cr_len c_len bt.n_len (de_var 3))) (dw_and1 (dt_val (de_c cal__law_is_straight hr hg (daf_cons (de_sl (de_var 3) (do_some (de_var 7)) (do_some (de_op op_plus c_plus (de_var 8) de_int))) daf_nil))))))
 (dss_one (ds_setv 8 nd (de_op op_plus c_plus (de_var 8) de_int))))
 (dss_cons (ds_app 6 (de_tup (da_cons (de_var 7) (da_cons (de_var 8) da_nil))))
 (dss_one (ds_setv 7 nd (de_var 8)))))))
 (dss_cons (ds_frz 6 (ds_set 6 nd (de_if (dt_cmp (op_eqA (u64 hr)) c_eq (de_var 3) (de_lst da_nil)) (de_lst (da_cons (de_tup (da_cons de_int (da_cons de_int da_nil))) da_nil)) (de_var 6))))
 (dss_cons (ds_par2 9 10 rfl nd (de_fz (de_b1 (cr_repr hg (u65 hr)) c_repr bt.n_repr (de_var 5))) (de_c cal_fewest_pieces hr hg (daf_cons (de_var 5) daf_nil)))
 (dss_cons (ds_if (dt_bor 10 (dt_bor 6 (PW.pt (dw_or (dt_not (dt_val (de_c cal__law_same hr hg (daf_cons (de_lst (da_cons (de_var 10) (da_cons (de_ck0 kal_fewest_pieces_0_0 hr hg (dk_cons (de_var 5) dk_nil)) da_nil))) (daf_cons (de_lst (da_cons (de_var 6) (da_cons (de_var 6) da_nil))) daf_nil))))) (dw_or1 (PW.pt (dw_and (dt_cmp (op_neA (u64 hr)) c_ne (de_var 3) (de_lst da_nil)) (dw_and (dt_cmp op_lt c_lt (de_b1 cr_len c_len bt.n_len (de_var 3)) de_int) (dw_and1 (dt_cmp (op_neA (u64 hr)) c_ne (de_b1 cr_len c_len bt.n_len (de_var 6)) (de_c cal__law_fewest hr hg (daf_cons (de_var 3) daf_nil))))))))))))
 (dss_one (ds_ret de_bl))
 dss_nil)
 (dss_cons (ds_if (dt_bor 6 (PW.pt (dw_or (dt_cmp (op_neA (u64 hr)) c_ne (de_lc (own := [("piece", 11)]) (g := dgName 11) (gg := gName 11) rfl nd (pi_l (de_var 6)) (blkOk_by (by kernel_rfl)) (go_name (by decide)) (fun _ _ _ _ _ => pg_n 11 nd) (fun _ _ _ _ _ => (dts_one (dt_cmp op_isnot c_is (de_c cal_is_straight hr hg (daf_cons (de_sl (de_var 5) (do_some (de_ix (de_var 11) de_int)) (do_some (de_op op_plus c_plus (de_ix (de_var 11) de_int) de_int))) daf_nil)) de_bl))) (fun _ _ _ _ _ => (de_var 11))) (de_lst da_nil)) (dw_or1 (dt_cmp (op_neA (u64 hr)) c_ne (de_cmp (op_eqA (u64 hr)) c_eq (de_b1 cr_len c_len bt.n_len (de_var 6)) de_int) (de_c cal__law_is_straight hr hg (daf_cons (de_var 3) daf_nil)))))))
 (dss_one (ds_ret de_bl))
 dss_nil)
 (dss_cons (ds_app 10 de_int)
 (dss_one (ds_if (dt_bor 6 (PW.pt (dw_or (dt_not (dt_val (de_c cal__law_same hr hg (daf_cons (de_c cal_fewest_pieces hr hg (daf_cons (de_var 5) daf_nil)) (daf_cons (de_var 6) daf_nil))))) (dw_or1 (dt_cmp (op_neA (u64 hr)) c_ne (de_b1 (cr_repr hg (u65 hr)) c_repr bt.n_repr (de_var 5)) (de_var 9))))))
 (dss_one (ds_ret de_bl))
 dss_nil)))))))))))))
 (dss_one (ds_ret (de_c cal__law_same hr hg (daf_cons (de_lst (da_cons (de_c cal_fewest_pieces hr hg (daf_cons (de_c cal__law_path hr hg (daf_cons (de_tup (da_cons de_int (da_cons de_int da_nil))) (daf_cons (de_lst (da_cons de_int (da_cons de_int (da_cons de_int (da_cons de_int (da_cons de_int da_nil)))))) daf_nil))) daf_nil)) (da_cons (de_c cal_fewest_pieces hr hg (daf_cons (de_lst (da_cons (de_tup (da_cons de_int (da_cons de_int da_nil))) da_nil)) daf_nil)) (da_cons (de_c cal_fewest_pieces hr hg (daf_cons (de_lst (da_cons (de_tup (da_cons de_int (da_cons de_int da_nil))) (da_cons (de_tup (da_cons de_int (da_cons de_int da_nil))) da_nil))) daf_nil)) da_nil)))) (daf_cons (de_lst (da_cons (de_lst (da_cons (de_tup (da_cons de_int (da_cons de_int da_nil))) (da_cons (de_tup (da_cons de_int (da_cons de_int da_nil))) da_nil))) (da_cons (de_lst (da_cons (de_tup (da_cons de_int (da_cons de_int da_nil))) da_nil)) (da_cons (de_lst (da_cons (de_tup (da_cons de_int (da_cons de_int da_nil))) da_nil)) da_nil)))) daf_nil)))))))
end
end DL
namespace DL
open PySem L2 PySem.Spec PyProof.Rows
section
variable {P : Program} {w : World} {K : PySem.W.Frag} {mg : Str → Option Value} {base : Heap}
abbrev s__law_random : Stmt := topS 31
theorem sc__law_random : FnScope ["generator", "bound", "drawn", "turn"] ["generator", "bound"] (defScope s__law_random) := ⟨rfl, rfl, rfl, by decide +kernel, rfl, by decide +kernel, by decide +kernel⟩
theorem ok__law_random {f : Addr} {fd : FuncData} (bt : Bts mg) (F : Fun K "_law_random" "_law_random" s__law_random f fd) (c : Cal P w K mg base CX0 1 "_law_hash" ["seed", "index"] T__law_hash) : FnG P w K mg base CX0 2 f fd ["generator", "bound"] (spD K tRandom) := by
  have nd := (sc__law_random).nd
  obtain ⟨f2, fd2, F2, m2, k2, b2⟩ := c.ex
  refine fnRandom F sc__law_random rfl rfl fun cdv A outer s H E hr hg => ?_
  exact pss_cons (ps_if (pt_cmpR op_gt (pe_ix ix_list (pv 0) pe_int (fun _ _ => rfl)) pe_int (nomark _))
      (pss_cons (ps_set (i := 2) nd rfl (Or.inl rfl) (pe_op op_modN (pe_callTy call_int1 (by rfl) bt.n_int (by decide +kernel) (pa_cons (pe_ix ix_list (pv 0) pe_int (fun _ _ => rfl)) pa_nil)) (pv 1)))
        (pss_cons (ps_sx 0 (pe_op op_div (pe_ix ix_list (pv 0) pe_int (fun _ _ => rfl)) (pv 1)) pe_int)
          (pss_one (ps_ret (pv 2))))) pss_nil)
    (pss_cons (ps_set (i := 2) nd rfl (Or.inl rfl) pe_int)
      (pss_cons (ps_for PassesOwn.never rfl (pi_range1 (by rfl) bt.n_range (pa_cons (pe_op op_add pe_int (pe_op op_div (pe_bits (pv 1)) pe_int)) pa_nil)) (pg_name (i := 3) nd rfl (Or.inl rfl))
        (pss_cons (ps_sx 0 (pe_op op_add (pe_ix ix_list (pv 0) pe_int (fun _ _ => rfl)) pe_int) pe_int)
          (pss_one (ps_set (i := 2) nd rfl (Or.inl rfl) (pe_op op_add (pe_op op_mulW (pv 2) pe_int) (pe_g F2 (hr.mono (by decide)) hg m2 k2 b2 .nil pass0 (pa_cons (pe_ix ix_list (pv 0) pe_int (fun _ _ => rfl)) (pa_cons (pe_ix ix_list (pv 0) pe_int (fun _ _ => rfl)) pa_nil))))))))
        (pss_one (ps_ret (pe_op op_modN (pe_callTy call_int1 (by rfl) bt.n_int (by decide +kernel) (pa_cons (pv 2) pa_nil)) (pv 1))))))
end
theorem all_ok {P : Program} {w : World} {K : PySem.W.Frag} {h : Heap} {mg : Str → Option Value} {fa : Addr} (X : K.In h) (G : h.Ns mainGlobals mg) (hfa : mg "law" = some (.ref fa)) (d_is_whole : Dfn K "is_whole" s_is_whole) (d_lowest : Dfn K "lowest" s_lowest) (d_is_less : Dfn K "is_less" s_is_less) (d_heights : Dfn K "heights" s_heights) (d_put_together : Dfn K "put_together" s_put_together) (d_found_inside : Dfn K "found_inside" s_found_inside) (d_rates_between : Dfn K "rates_between" s_rates_between) (d_found_formula : Dfn K "found_formula" s_found_formula) (d_is_cell : Dfn K "is_cell" s_is_cell) (d_step_between : Dfn K "step_between" s_step_between) (d_are_cells : Dfn K "are_cells" s_are_cells) (d_check_cells : Dfn K "check_cells" s_check_cells) (d_directions_of : Dfn K "directions_of" s_directions_of) (d_first_direction : Dfn K "first_direction" s_first_direction) (d_found_line : Dfn K "found_line" s_found_line) (d_is_straight : Dfn K "is_straight" s_is_straight) (d_fewest_pieces : Dfn K "fewest_pieces" s_fewest_pieces) (d__law_hash : Dfn K "_law_hash" s__law_hash) (d__law_random : Dfn K "_law_random" s__law_random) (d__law_cell : Dfn K "_law_cell" s__law_cell) (d__law_generator : Dfn K "_law_generator" s__law_generator) (d__law_pick : Dfn K "_law_pick" s__law_pick) (d__law_same : Dfn K "_law_same" s__law_same) (d__law_put : Dfn K "_law_put" s__law_put) (d__law_heights : Dfn K "_law_heights" s__law_heights) (d__law_line_row : Dfn K "_law_line_row" s__law_line_row) (d__law_bent_row : Dfn K "_law_bent_row" s__law_bent_row) (d__law_uneven : Dfn K "_law_uneven" s__law_uneven) (d__law_steps : Dfn K "_law_steps" s__law_steps) (d__law_direction : Dfn K "_law_direction" s__law_direction) (d__law_path : Dfn K "_law_path" s__law_path) (d__law_is_straight : Dfn K "_law_is_straight" s__law_is_straight) (d__law_drawn_steps : Dfn K "_law_drawn_steps" s__law_drawn_steps) (d__law_cell_drawn : Dfn K "_law_cell_drawn" s__law_cell_drawn) (d__law_fewest : Dfn K "_law_fewest" s__law_fewest) (d_law : Dfn K "law" s_law) (bt : Bts mg) (k_MOST_ROW : Cst K mg "MOST_ROW" c_MOST_ROW) (k_STEPS : Cst K mg "STEPS" c_STEPS) (k_NOUGHT : Cst K mg "NOUGHT" c_NOUGHT) :
    ∃ fd : FuncData, (∀ (s : Shared) (u : Value), BindsTo s fd ⟨[u], []⟩ [("script", u)]) ∧ ∀ base : Heap, K.In base → base.Ns mainGlobals mg → FnG P w K mg base CX0 7 fa fd ["script"] (spD K tLaw) := by
  obtain ⟨f, od, an, sl, oc, kV, dc, pm, cd, ct, a1, l1, c1, k1⟩ := d_law.ex
  have e := hfa.symm.trans (PySem.W.mg_of X G a1)
  cases e
  refine ⟨PySem.W.fnOf "law" "law" (defArgs s_law) (defBody s_law) (defScope s_law) .none kV dc pm an cd ct, fun s u => .of_eq rfl, fun base _ _ => ?_⟩
  have cal_is_whole : Cal P w K mg base CX0 1 "is_whole" ["value"] T_is_whole := d_is_whole.cal X G (fun _ _ _ _ _ _ us hl => match us, hl with | [_], _ => rfl) fun f fd F => ok_is_whole bt F
  have cal_lowest : Cal P w K mg base CX0 1 "lowest" ["number", "bottom"] T_lowest := d_lowest.cal X G (fun _ _ _ _ _ _ us hl => match us, hl with | [_, _], _ => rfl) fun f fd F => ok_lowest bt F
  have cal_is_less : Cal P w K mg base CX0 1 "is_less" ["one", "other"] T_is_less := d_is_less.cal X G (fun _ _ _ _ _ _ us hl => match us, hl with | [_, _], _ => rfl) fun f fd F => ok_is_less bt F
  have cal_heights : Cal P w K mg base CX0 1 "heights" ["row"] T_heights := d_heights.cal X G (fun _ _ _ _ _ _ us hl => match us, hl with | [_], _ => rfl) fun f fd F => ok_heights bt F
  have cal_put_together : Cal P w K mg base CX0 1 "put_together" ["wholes", "last"] T_put_together := d_put_together.cal X G (fun _ _ _ _ _ _ us hl => match us, hl with | [_, _], _ => rfl) fun f fd F => ok_put_together bt F
  have cal_found_inside : Cal P w K mg base CX0 2 "found_inside" ["least", "most"] T_found_inside := d_found_inside.cal X G (fun _ _ _ _ _ _ us hl => match us, hl with | [_, _], _ => rfl) fun f fd F => ok_found_inside bt F cal_put_together
  have cal_rates_between : Cal P w K mg base CX0 2 "rates_between" ["sums"] T_rates_between := d_rates_between.cal X G (fun _ _ _ _ _ _ us hl => match us, hl with | [_], _ => rfl) fun f fd F => ok_rates_between bt F cal_lowest cal_is_less
  have cal_found_formula : Cal P w K mg base CX0 3 "found_formula" ["lengths"] T_found_formula := d_found_formula.cal X G (fun _ _ _ _ _ _ us hl => match us, hl with | [_], _ => rfl) fun f fd F => ok_found_formula bt F cal_heights cal_rates_between cal_is_less cal_found_inside
  have cal_is_cell : Cal P w K mg base CX0 2 "is_cell" ["value"] T_is_cell := d_is_cell.cal X G (fun _ _ _ _ _ _ us hl => match us, hl with | [_], _ => rfl) fun f fd F => ok_is_cell bt F cal_is_whole
  have cal_step_between : Cal P w K mg base CX0 1 "step_between" ["cell", "other"] T_step_between := d_step_between.cal X G (fun _ _ _ _ _ _ us hl => match us, hl with | [_, _], _ => rfl) fun f fd F => ok_step_between bt F
  have cal_are_cells : Cal P w K mg base CX0 3 "are_cells" ["value"] T_are_cells := d_are_cells.cal X G (fun _ _ _ _ _ _ us hl => match us, hl with | [_], _ => rfl) fun f fd F => ok_are_cells bt F cal_is_cell cal_step_between k_MOST_ROW k_STEPS
  have cal_check_cells : Cal P w K mg base CX0 4 "check_cells" ["cells"] T_check_cells := d_check_cells.cal X G (fun _ _ _ _ _ _ us hl => match us, hl with | [_], _ => rfl) fun f fd F => ok_check_cells bt F cal_are_cells
  have cal_directions_of : Cal P w K mg base CX0 2 "directions_of" ["cells"] T_directions_of := d_directions_of.cal X G (fun _ _ _ _ _ _ us hl => match us, hl with | [_], _ => rfl) fun f fd F => ok_directions_of bt F cal_step_between k_STEPS
  have cal_first_direction : Cal P w K mg base CX0 1 "first_direction" ["steps"] T_first_direction := d_first_direction.cal X G (fun _ _ _ _ _ _ us hl => match us, hl with | [_], _ => rfl) fun f fd F => ok_first_direction bt F k_STEPS
  have cal_found_line : Cal P w K mg base CX0 4 "found_line" ["steps"] T_found_line := d_found_line.cal X G (fun _ _ _ _ _ _ us hl => match us, hl with | [_], _ => rfl) fun f fd F => ok_found_line bt F cal_first_direction cal_found_formula cal_lowest k_NOUGHT
  have cal_is_straight : Cal P w K mg base CX0 5 "is_straight" ["cells"] T_is_straight := d_is_straight.cal X G (fun _ _ _ _ _ _ us hl => match us, hl with | [_], _ => rfl) fun f fd F => ok_is_straight bt F cal_check_cells cal_found_line cal_directions_of
  have cal_fewest_pieces : Cal P w K mg base CX0 5 "fewest_pieces" ["cells"] T_fewest_pieces := d_fewest_pieces.cal X G (fun _ _ _ _ _ _ us hl => match us, hl with | [_], _ => rfl) fun f fd F => ok_fewest_pieces bt F cal_check_cells cal_directions_of cal_found_line
  have kal_fewest_pieces_0_0 : CalK P w K mg base CX0 5 "fewest_pieces" ["cells"] ["cells"] 0 [0] T_fewest_pieces := d_fewest_pieces.calk X G (fun _ _ _ _ _ _ us ws h1 h2 => match us, ws, h1, h2 with | [], [_], _, _ => rfl) fun f fd F => ok_fewest_pieces bt F cal_check_cells cal_directions_of cal_found_line
  have cal__law_hash : Cal P w K mg base CX0 1 "_law_hash" ["seed", "index"] T__law_hash := d__law_hash.cal X G (fun _ _ _ _ _ _ us hl => match us, hl with | [_, _], _ => rfl) fun f fd F => ok__law_hash bt F
  have cal__law_random : Cal P w K mg base CX0 2 "_law_random" ["generator", "bound"] T__law_random := d__law_random.cal X G (fun _ _ _ _ _ _ us hl => match us, hl with | [_, _], _ => rfl) fun f fd F => ok__law_random bt F cal__law_hash
  have cal__law_cell : Cal P w K mg base CX0 1 "_law_cell" ["script", "index"] T__law_cell := d__law_cell.cal X G (fun _ _ _ _ _ _ us hl => match us, hl with | [_, _], _ => rfl) fun f fd F => ok__law_cell bt F
  have cal__law_generator : Cal P w K mg base CX0 2 "_law_generator" ["script", "index"] T__law_generator := d__law_generator.cal X G (fun _ _ _ _ _ _ us hl => match us, hl with | [_, _], _ => rfl) fun f fd F => ((ok__law_generator bt F cal__law_cell).toGen (2 ^ 40)).less gen_less
  have cal__law_pick : Cal P w K mg base CX0 3 "_law_pick" ["generator", "things"] T__law_pick := d__law_pick.cal X G (fun _ _ _ _ _ _ us hl => match us, hl with | [_, _], _ => rfl) fun f fd F => ok__law_pick bt F cal__law_random
  have rec__law_same : ∀ m : Nat, Cal P w K mg base CX0 m "_law_same" ["told", "due"] (T_same' m) := fun m => by
    induction m with
    | zero => exact d__law_same.cal X G (fun _ _ _ _ _ _ us hl => match us, hl with | [_, _], _ => rfl) fun f fd F => FnG.never
    | succ m ih => exact d__law_same.cal X G (fun _ _ _ _ _ _ us hl => match us, hl with | [_, _], _ => rfl) fun f fd F => ok__law_same (len__law_same m) (spec__law_same m) bt F ih (by omega)
  have cal__law_same : Cal P w K mg base CX0 6 "_law_same" ["told", "due"] T__law_same := rec__law_same 6
  have cal__law_put : Cal P w K mg base CX0 1 "_law_put" ["things", "at", "thing"] T__law_put := d__law_put.cal X G (fun _ _ _ _ _ _ us hl => match us, hl with | [_, _, _], _ => rfl) fun f fd F => ok__law_put bt F
  have cal__law_heights : Cal P w K mg base CX0 1 "_law_heights" ["row"] T__law_heights := d__law_heights.cal X G (fun _ _ _ _ _ _ us hl => match us, hl with | [_], _ => rfl) fun f fd F => ok__law_heights bt F
  have cal__law_line_row : Cal P w K mg base CX0 4 "_law_line_row" ["generator", "most"] T__law_line_row := d__law_line_row.cal X G (fun _ _ _ _ _ _ us hl => match us, hl with | [_, _], _ => rfl) fun f fd F => ok__law_line_row bt F cal__law_random cal__law_pick
  have cal__law_bent_row : Cal P w K mg base CX0 3 "_law_bent_row" ["generator", "row"] T__law_bent_row := d__law_bent_row.cal X G (fun _ _ _ _ _ _ us hl => match us, hl with | [_, _], _ => rfl) fun f fd F => ok__law_bent_row bt F cal__law_random cal__law_put
  have cal__law_uneven : Cal P w K mg base CX0 2 "_law_uneven" ["row"] T__law_uneven := d__law_uneven.cal X G (fun _ _ _ _ _ _ us hl => match us, hl with | [_], _ => rfl) fun f fd F => ok__law_uneven bt F cal__law_heights
  have cal__law_steps : Cal P w K mg base CX0 1 "_law_steps" [] T__law_steps := d__law_steps.cal X G (fun _ _ _ _ _ _ us hl => match us, hl with | [], _ => rfl) fun f fd F => ok__law_steps bt F
  have cal__law_direction : Cal P w K mg base CX0 1 "_law_direction" ["steps"] T__law_direction := d__law_direction.cal X G (fun _ _ _ _ _ _ us hl => match us, hl with | [_], _ => rfl) fun f fd F => ok__law_direction bt F
  have cal__law_path : Cal P w K mg base CX0 2 "_law_path" ["cell", "steps"] T__law_path := d__law_path.cal X G (fun _ _ _ _ _ _ us hl => match us, hl with | [_, _], _ => rfl) fun f fd F => ok__law_path bt F cal__law_steps
  have cal__law_is_straight : Cal P w K mg base CX0 3 "_law_is_straight" ["steps"] T__law_is_straight := d__law_is_straight.cal X G (fun _ _ _ _ _ _ us hl => match us, hl with | [_], _ => rfl) fun f fd F => ok__law_is_straight bt F cal__law_direction cal__law_uneven
  have cal__law_drawn_steps : Cal P w K mg base CX0 5 "_law_drawn_steps" ["generator", "most"] T__law_drawn_steps := d__law_drawn_steps.cal X G (fun _ _ _ _ _ _ us hl => match us, hl with | [_, _], _ => rfl) fun f fd F => ok__law_drawn_steps bt F cal__law_random cal__law_line_row cal__law_bent_row cal__law_put
  have cal__law_cell_drawn : Cal P w K mg base CX0 4 "_law_cell_drawn" ["generator"] T__law_cell_drawn := d__law_cell_drawn.cal X G (fun _ _ _ _ _ _ us hl => match us, hl with | [_], _ => rfl) fun f fd F => ok__law_cell_drawn bt F cal__law_pick cal__law_random
  have cal__law_fewest : Cal P w K mg base CX0 4 "_law_fewest" ["steps"] T__law_fewest := d__law_fewest.cal X G (fun _ _ _ _ _ _ us hl => match us, hl with | [_], _ => rfl) fun f fd F => ok__law_fewest bt F cal__law_is_straight
  exact ok_law bt (fun_mk (st := s_law) l1 c1 k1) cal__law_generator cal__law_random cal__law_drawn_steps cal__law_path cal__law_cell_drawn cal__law_is_straight cal_fewest_pieces cal__law_same cal__law_fewest cal_is_straight kal_fewest_pieces_0_0
end DL
namespace DL
end DL
open PySem PySem.W PyProof.Rows
set_option maxRecDepth 100000 in
set_option maxHeartbeats 0 in
theorem PySem.Challenge.cw_spreadline_k68_whole_fewest_pieces_holds : PySem.Challenge.rw_spreadline_k68_whole_fewest_pieces.Holds := by
  w_on; o_law; k_head; (case hw => w_witness2)
  k_fill
  refine DL.walkD (l := PySem.Challenge.rw_spreadline_k68_whole_fewest_pieces) (k := 7) (x := "script") rfl rfl ⟨rfl, by decide, by decide⟩ (fun w h Y => PySem.W.kIn_of Y) ?F
  case F =>
    intro w mg fa h X G hmg
    refine' DL.all_ok X G hmg (DL.Dfn.mk' ?a_is_whole ?l_is_whole ?c_is_whole ?e_is_whole) (DL.Dfn.mk' ?a_lowest ?l_lowest ?c_lowest ?e_lowest) (DL.Dfn.mk' ?a_is_less ?l_is_less ?c_is_less ?e_is_less) (DL.Dfn.mk' ?a_heights ?l_heights ?c_heights ?e_heights) (DL.Dfn.mk' ?a_put_together ?l_put_together ?c_put_together ?e_put_together) (DL.Dfn.mk' ?a_found_inside ?l_found_inside ?c_found_inside ?e_found_inside) (DL.Dfn.mk' ?a_rates_between ?l_rates_between ?c_rates_between ?e_rates_between) (DL.Dfn.mk' ?a_found_formula ?l_found_formula ?c_found_formula ?e_found_formula) (DL.Dfn.mk' ?a_is_cell ?l_is_cell ?c_is_cell ?e_is_cell) (DL.Dfn.mk' ?a_step_between ?l_step_between ?c_step_between ?e_step_between) (DL.Dfn.mk' ?a_are_cells ?l_are_cells ?c_are_cells ?e_are_cells) (DL.Dfn.mk' ?a_check_cells ?l_check_cells ?c_check_cells ?e_check_cells) (DL.Dfn.mk' ?a_directions_of ?l_directions_of ?c_directions_of ?e_directions_of) (DL.Dfn.mk' ?a_first_direction ?l_first_direction ?c_first_direction ?e_first_direction) (DL.Dfn.mk' ?a_found_line ?l_found_line ?c_found_line ?e_found_line) (DL.Dfn.mk' ?a_is_straight ?l_is_straight ?c_is_straight ?e_is_straight) (DL.Dfn.mk' ?a_fewest_pieces ?l_fewest_pieces ?c_fewest_pieces ?e_fewest_pieces) (DL.Dfn.mk' ?a__law_hash ?l__law_hash ?c__law_hash ?e__law_hash) (DL.Dfn.mk' ?a__law_random ?l__law_random ?c__law_random ?e__law_random) (DL.Dfn.mk' ?a__law_cell ?l__law_cell ?c__law_cell ?e__law_cell) (DL.Dfn.mk' ?a__law_generator ?l__law_generator ?c__law_generator ?e__law_generator) (DL.Dfn.mk' ?a__law_pick ?l__law_pick ?c__law_pick ?e__law_pick) (DL.Dfn.mk' ?a__law_same ?l__law_same ?c__law_same ?e__law_same) (DL.Dfn.mk' ?a__law_put ?l__law_put ?c__law_put ?e__law_put) (DL.Dfn.mk' ?a__law_heights ?l__law_heights ?c__law_heights ?e__law_heights) (DL.Dfn.mk' ?a__law_line_row ?l__law_line_row ?c__law_line_row ?e__law_line_row) (DL.Dfn.mk' ?a__law_bent_row ?l__law_bent_row ?c__law_bent_row ?e__law_bent_row) (DL.Dfn.mk' ?a__law_uneven ?l__law_uneven ?c__law_uneven ?e__law_uneven) (DL.Dfn.mk' ?a__law_steps ?l__law_steps ?c__law_steps ?e__law_steps) (DL.Dfn.mk' ?a__law_direction ?l__law_direction ?c__law_direction ?e__law_direction) (DL.Dfn.mk' ?a__law_path ?l__law_path ?c__law_path ?e__law_path) (DL.Dfn.mk' ?a__law_is_straight ?l__law_is_straight ?c__law_is_straight ?e__law_is_straight) (DL.Dfn.mk' ?a__law_drawn_steps ?l__law_drawn_steps ?c__law_drawn_steps ?e__law_drawn_steps) (DL.Dfn.mk' ?a__law_cell_drawn ?l__law_cell_drawn ?c__law_cell_drawn ?e__law_cell_drawn) (DL.Dfn.mk' ?a__law_fewest ?l__law_fewest ?c__law_fewest ?e__law_fewest) (DL.Dfn.mk' ?a_law ?l_law ?c_law ?e_law) ⟨PySem.W.mg_none_of X G ?z_bool, PySem.W.mg_none_of X G ?z_enumerate, PySem.W.mg_none_of X G ?z_int, PySem.W.mg_none_of X G ?z_isinstance, PySem.W.mg_none_of X G ?z_len, PySem.W.mg_none_of X G ?z_list, PySem.W.mg_none_of X G ?z_max, PySem.W.mg_none_of X G ?z_min, PySem.W.mg_none_of X G ?z_range, PySem.W.mg_none_of X G ?z_repr, PySem.W.mg_none_of X G ?z_set, PySem.W.mg_none_of X G ?z_sorted, PySem.W.mg_none_of X G ?z_str, PySem.W.mg_none_of X G ?z_sum, PySem.W.mg_none_of X G ?z_tuple, PySem.W.mg_of X G ?z_gcd⟩ (DL.cst_int X G ?n_MOST_ROW) (DL.cst_obj X G ?n_STEPS (DL.krep_lst ?o1 (.cons (DL.krep_tup ?o2 (.cons DL.krep_int (.cons DL.krep_int .nil))) (.cons (DL.krep_tup ?o3 (.cons DL.krep_int (.cons DL.krep_int .nil))) (.cons (DL.krep_tup ?o4 (.cons DL.krep_int (.cons DL.krep_int .nil))) (.cons (DL.krep_tup ?o5 (.cons DL.krep_int (.cons DL.krep_int .nil))) (.cons (DL.krep_tup ?o6 (.cons DL.krep_int (.cons DL.krep_int .nil))) (.cons (DL.krep_tup ?o7 (.cons DL.krep_int (.cons DL.krep_int .nil))) (.cons (DL.krep_tup ?o8 (.cons DL.krep_int (.cons DL.krep_int .nil))) (.cons (DL.krep_tup ?o9 (.cons DL.krep_int (.cons DL.krep_int .nil))) .nil)))))))))) (DL.cst_obj X G ?n_NOUGHT (DL.krep_tup ?o10 (.cons DL.krep_int (.cons DL.krep_int .nil))))
    (case a_is_whole => k_is)
    (case l_is_whole => k_is)
    (case c_is_whole => k_is)
    (case e_is_whole => k_is)
    (case a_lowest => k_is)
    (case l_lowest => k_is)
    (case c_lowest => k_is)
    (case e_lowest => k_is)
    (case a_is_less => k_is)
    (case l_is_less => k_is)
    (case c_is_less => k_is)
    (case e_is_less => k_is)
    (case a_heights => k_is)
    (case l_heights => k_is)
    (case c_heights => k_is)
    (case e_heights => k_is)
    (case a_put_together => k_is)
    (case l_put_together => k_is)
    (case c_put_together => k_is)
    (case e_put_together => k_is)
    (case a_found_inside => k_is)
    (case l_found_inside => k_is)
    (case c_found_inside => k_is)
    (case e_found_inside => k_is)
    (case a_rates_between => k_is)
    (case l_rates_between => k_is)
    (case c_rates_between => k_is)
    (case e_rates_between => k_is)
    (case a_found_formula => k_is)
    (case l_found_formula => k_is)
    (case c_found_formula => k_is)
    (case e_found_formula => k_is)
    (case a_is_cell => k_is)
    (case l_is_cell => k_is)
    (case c_is_cell => k_is)
    (case e_is_cell => k_is)
    (case a_step_between => k_is)
    (case l_step_between => k_is)
    (case c_step_between => k_is)
    (case e_step_between => k_is)
    (case a_are_cells => k_is)
    (case l_are_cells => k_is)
    (case c_are_cells => k_is)
    (case e_are_cells => k_is)
    (case a_check_cells => k_is)
    (case l_check_cells => k_is)
    (case c_check_cells => k_is)
    (case e_check_cells => k_is)
    (case a_directions_of => k_is)
    (case l_directions_of => k_is)
    (case c_directions_of => k_is)
    (case e_directions_of => k_is)
    (case a_first_direction => k_is)
    (case l_first_direction => k_is)
    (case c_first_direction => k_is)
    (case e_first_direction => k_is)
    (case a_found_line => k_is)
    (case l_found_line => k_is)
    (case c_found_line => k_is)
    (case e_found_line => k_is)
    (case a_is_straight => k_is)
    (case l_is_straight => k_is)
    (case c_is_straight => k_is)
    (case e_is_straight => k_is)
    (case a_fewest_pieces => k_is)
    (case l_fewest_pieces => k_is)
    (case c_fewest_pieces => k_is)
    (case e_fewest_pieces => k_is)
    (case a__law_hash => k_is)
    (case l__law_hash => k_is)
    (case c__law_hash => k_is)
    (case e__law_hash => k_is)
    (case a__law_random => k_is)
    (case l__law_random => k_is)
    (case c__law_random => k_is)
    (case e__law_random => k_is)
    (case a__law_cell => k_is)
    (case l__law_cell => k_is)
    (case c__law_cell => k_is)
    (case e__law_cell => k_is)
    (case a__law_generator => k_is)
    (case l__law_generator => k_is)
    (case c__law_generator => k_is)
    (case e__law_generator => k_is)
    (case a__law_pick => k_is)
    (case l__law_pick => k_is)
    (case c__law_pick => k_is)
    (case e__law_pick => k_is)
    (case a__law_same => k_is)
    (case l__law_same => k_is)
    (case c__law_same => k_is)
    (case e__law_same => k_is)
    (case a__law_put => k_is)
    (case l__law_put => k_is)
    (case c__law_put => k_is)
    (case e__law_put => k_is)
    (case a__law_heights => k_is)
    (case l__law_heights => k_is)
    (case c__law_heights => k_is)
    (case e__law_heights => k_is)
    (case a__law_line_row => k_is)
    (case l__law_line_row => k_is)
    (case c__law_line_row => k_is)
    (case e__law_line_row => k_is)
    (case a__law_bent_row => k_is)
    (case l__law_bent_row => k_is)
    (case c__law_bent_row => k_is)
    (case e__law_bent_row => k_is)
    (case a__law_uneven => k_is)
    (case l__law_uneven => k_is)
    (case c__law_uneven => k_is)
    (case e__law_uneven => k_is)
    (case a__law_steps => k_is)
    (case l__law_steps => k_is)
    (case c__law_steps => k_is)
    (case e__law_steps => k_is)
    (case a__law_direction => k_is)
    (case l__law_direction => k_is)
    (case c__law_direction => k_is)
    (case e__law_direction => k_is)
    (case a__law_path => k_is)
    (case l__law_path => k_is)
    (case c__law_path => k_is)
    (case e__law_path => k_is)
    (case a__law_is_straight => k_is)
    (case l__law_is_straight => k_is)
    (case c__law_is_straight => k_is)
    (case e__law_is_straight => k_is)
    (case a__law_drawn_steps => k_is)
    (case l__law_drawn_steps => k_is)
    (case c__law_drawn_steps => k_is)
    (case e__law_drawn_steps => k_is)
    (case a__law_cell_drawn => k_is)
    (case l__law_cell_drawn => k_is)
    (case c__law_cell_drawn => k_is)
    (case e__law_cell_drawn => k_is)
    (case a__law_fewest => k_is)
    (case l__law_fewest => k_is)
    (case c__law_fewest => k_is)
    (case e__law_fewest => k_is)
    (case a_law => k_is)
    (case l_law => k_is)
    (case c_law => k_is)
    (case e_law => k_is)
    (case z_bool => k_is)
    (case z_enumerate => k_is)
    (case z_int => k_is)
    (case z_isinstance => k_is)
    (case z_len => k_is)
    (case z_list => k_is)
    (case z_max => k_is)
    (case z_min => k_is)
    (case z_range => k_is)
    (case z_repr => k_is)
    (case z_set => k_is)
    (case z_sorted => k_is)
    (case z_str => k_is)
    (case z_sum => k_is)
    (case z_tuple => k_is)
    (case z_gcd => k_is)
    (case n_MOST_ROW => k_is)
    (case n_STEPS => k_is)
    (case o1 => k_is)
    (case o2 => k_is)
    (case o3 => k_is)
    (case o4 => k_is)
    (case o5 => k_is)
    (case o6 => k_is)
    (case o7 => k_is)
    (case o8 => k_is)
    (case o9 => k_is)
    (case n_NOUGHT => k_is)
    (case o10 => k_is)
#print axioms PySem.Challenge.cw_spreadline_k68_whole_fewest_pieces_holds
