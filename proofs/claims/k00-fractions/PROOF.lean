import PyProof.Rows.All
import Wide.All
import OpenK.AllK
import Wide.FinOn
import HandS.ForMost
import HandS.ForExc
import HandS.Wide
import HandS.IsInst
import HandS.Style
import HandS.NoneIn
import HandS.Conv
import HandS.Small
import HandS.Flow
import HandS.ExcField
import HandS.ExcIs
import HandS.CallSlots
import HandS.TryMany
import KE.KExcSuper
import KE.KSuperObj
import HandS.TupAny
import HandS.Zip
import KE.KExcIs
import KE.RegKSuper
import PyProof.P3Eq
import PySem.Challenge.RW_anypaces_k00_fractions
set_option Elab.async false
set_option linter.all false
set_option maxRecDepth 100000
set_option maxHeartbeats 8000000
set_option exponentiation.threshold 10000
/-! The value layer: data, what stands for them in the heap, cells, growth. -/
namespace VL
open PySem L2

inductive D where
  | non | bl (b : Bool) | int (i : Int) | str (s : Str)
  | tup (xs : List D) | lst (xs : List D) | scr (xs : List D)
  | ins (cls : Str) (fs : List (Str × D))

mutual
inductive Rp (K : PySem.W.Frag) (mg : Str → Option Value) (G : Hp) : V → D → Prop
  | non : Rp K mg G .non .non
  | bl (b : Bool) : Rp K mg G (.bl b) (.bl b)
  | int (i : Int) : Rp K mg G (.int i) (.int i)
  | str (x : Str) : Rp K mg G (.str x) (.str x)
  | tup {a : Addr} {vs : List V} {ds : List D} : SqT K G a vs → RpAll K mg G vs ds → Rp K mg G (.ref a) (.tup ds)
  | lst {a : Addr} {vs : List V} {ds : List D} : G a = some (.lst vs) → RpAll K mg G vs ds → Rp K mg G (.ref a) (.lst ds)
  | scr {a : Addr} {vs : List V} {ds : List D} : SqL K G a vs → RpAll K mg G vs ds → Rp K mg G (.ref a) (.scr ds)
  | ins {a C dx : Addr} {cls : Str} {fvs : List (Str × V)} {fs : List (Str × D)} : mg cls = some (.ref C) → G a = some (.ins C dx fvs) → RpF K mg G fvs fs → Rp K mg G (.ref a) (.ins cls fs)
inductive RpAll (K : PySem.W.Frag) (mg : Str → Option Value) (G : Hp) : List V → List D → Prop
  | nil : RpAll K mg G [] []
  | cons {v : V} {vs : List V} {d : D} {ds : List D} : Rp K mg G v d → RpAll K mg G vs ds → RpAll K mg G (v :: vs) (d :: ds)
inductive RpF (K : PySem.W.Frag) (mg : Str → Option Value) (G : Hp) : List (Str × V) → List (Str × D) → Prop
  | nil : RpF K mg G [] []
  | cons {f : Str} {v : V} {vs : List (Str × V)} {d : D} {ds : List (Str × D)} : Rp K mg G v d → RpF K mg G vs ds → RpF K mg G ((f, v) :: vs) ((f, d) :: ds)
end

section
variable {K : PySem.W.Frag} {mg : Str → Option Value} {G G' H H' : Hp}
theorem same_t {a : Addr} {xs : List V} (e : Same G G') (h : SqT K G a xs) : SqT K G' a xs := by
  rcases h with (h | ⟨o, h⟩) | h
  · exact .inl (.inl (e _ _ h))
  · exact .inl (.inr ⟨o, e _ _ h⟩)
  · exact .inr h
theorem Rp.mono {v : V} {d : D} (e : Same G G') (h : Rp K mg G v d) : Rp K mg G' v d := by
  refine Rp.rec (motive_1 := fun v d _ => Rp K mg G' v d) (motive_2 := fun vs ds _ => RpAll K mg G' vs ds) (motive_3 := fun vs ds _ => RpF K mg G' vs ds)
    .non .bl .int .str (fun h1 _ i => .tup (same_t e h1) i) (fun h1 _ i => .lst (e _ _ h1) i) (fun h1 _ i => .scr (e.seq h1) i) (fun h1 h2 _ i => .ins h1 (e _ _ h2) i)
    .nil (fun _ _ i j => .cons i j) .nil (fun _ _ i j => .cons i j) h
theorem Rp.non' {v : V} (h : Rp K mg G v .non) : v = .non := by cases h; rfl
theorem Rp.bl' {v : V} {b : Bool} (h : Rp K mg G v (.bl b)) : v = .bl b := by cases h; rfl
theorem Rp.int' {v : V} {i : Int} (h : Rp K mg G v (.int i)) : v = .int i := by cases h; rfl
theorem Rp.str' {v : V} {x : Str} (h : Rp K mg G v (.str x)) : v = .str x := by cases h; rfl
theorem Rp.tup' {v : V} {ds : List D} (h : Rp K mg G v (.tup ds)) : ∃ a vs, v = .ref a ∧ SqT K G a vs ∧ RpAll K mg G vs ds := by cases h; exact ⟨_, _, rfl, by assumption, by assumption⟩
theorem Rp.lst' {v : V} {ds : List D} (h : Rp K mg G v (.lst ds)) : ∃ a vs, v = .ref a ∧ G a = some (.lst vs) ∧ RpAll K mg G vs ds := by cases h; exact ⟨_, _, rfl, by assumption, by assumption⟩
theorem Rp.scr' {v : V} {ds : List D} (h : Rp K mg G v (.scr ds)) : ∃ a vs, v = .ref a ∧ SqL K G a vs ∧ RpAll K mg G vs ds := by cases h; exact ⟨_, _, rfl, by assumption, by assumption⟩
theorem Rp.ins' {v : V} {cls : Str} {fs : List (Str × D)} (h : Rp K mg G v (.ins cls fs)) : ∃ a C dx fvs, v = .ref a ∧ mg cls = some (.ref C) ∧ G a = some (.ins C dx fvs) ∧ RpF K mg G fvs fs := by cases h; exact ⟨_, _, _, _, rfl, by assumption, by assumption, by assumption⟩
theorem RpAll.mono {vs : List V} {ds : List D} (e : Same G G') : RpAll K mg G vs ds → RpAll K mg G' vs ds
  | .nil => .nil
  | .cons a b => .cons (a.mono e) (RpAll.mono e b)
theorem RpF.mono {vs : List (Str × V)} {ds : List (Str × D)} (e : Same G G') : RpF K mg G vs ds → RpF K mg G' vs ds
  | .nil => .nil
  | .cons a b => .cons (a.mono e) (RpF.mono e b)
theorem RpAll.len {vs : List V} {ds : List D} : RpAll K mg G vs ds → vs.length = ds.length
  | .nil => rfl
  | .cons _ b => by rw [List.length_cons, List.length_cons, RpAll.len b]
theorem RpAll.app {vs ws : List V} {ds es : List D} : RpAll K mg G vs ds → RpAll K mg G ws es → RpAll K mg G (vs ++ ws) (ds ++ es)
  | .nil, h => h
  | .cons a b, h => .cons a (RpAll.app b h)
theorem RpAll.at {vs : List V} {ds : List D} {i : Nat} {d : D} : RpAll K mg G vs ds → ds[i]? = some d → ∃ v, vs[i]? = some v ∧ Rp K mg G v d := by
  intro h
  induction i generalizing vs ds with
  | zero => intro e; cases h with
    | nil => cases e
    | cons a b => cases e; exact ⟨_, rfl, a⟩
  | succ i ih => intro e; cases h with
    | nil => cases e
    | cons a b => exact ih b (by simpa using e)
theorem RpAll.at' {vs : List V} {ds : List D} {i : Nat} {v : V} : RpAll K mg G vs ds → vs[i]? = some v → ∃ d, ds[i]? = some d ∧ Rp K mg G v d := by
  intro h
  induction i generalizing vs ds with
  | zero => intro e; cases h with
    | nil => cases e
    | cons a b => cases e; exact ⟨_, rfl, a⟩
  | succ i ih => intro e; cases h with
    | nil => cases e
    | cons a b => exact ih b (by simpa using e)
theorem RpAll.set {vs : List V} {ds : List D} {v : V} {d : D} (r : Rp K mg G v d) : ∀ (i : Nat), RpAll K mg G vs ds → RpAll K mg G (vs.set i v) (ds.set i d) := by
  intro i h
  induction i generalizing vs ds with
  | zero => cases h with
    | nil => exact .nil
    | cons a b => exact .cons r b
  | succ i ih => cases h with
    | nil => exact .nil
    | cons a b => exact .cons a (ih b)
theorem RpAll.take {vs : List V} {ds : List D} : ∀ (n : Nat), RpAll K mg G vs ds → RpAll K mg G (vs.take n) (ds.take n) := by
  intro i h
  induction i generalizing vs ds with
  | zero => exact .nil
  | succ i ih => cases h with
    | nil => exact .nil
    | cons a b => exact .cons a (ih b)
theorem RpAll.drop {vs : List V} {ds : List D} : ∀ (n : Nat), RpAll K mg G vs ds → RpAll K mg G (vs.drop n) (ds.drop n) := by
  intro i h
  induction i generalizing vs ds with
  | zero => exact h
  | succ i ih => cases h with
    | nil => exact .nil
    | cons a b => exact ih b
theorem RpAll.dropLast {vs : List V} {ds : List D} (h : RpAll K mg G vs ds) : RpAll K mg G vs.dropLast ds.dropLast := by
  rw [List.dropLast_eq_take, List.dropLast_eq_take, h.len]
  exact h.take _
theorem RpAll.erase {vs : List V} {ds : List D} : ∀ (i : Nat), RpAll K mg G vs ds → RpAll K mg G (vs.eraseIdx i) (ds.eraseIdx i) := by
  intro i h
  induction i generalizing vs ds with
  | zero => cases h with
    | nil => exact .nil
    | cons a b => exact b
  | succ i ih => cases h with
    | nil => exact .nil
    | cons a b => exact .cons a (ih b)
theorem RpAll.rev {vs : List V} {ds : List D} (h : RpAll K mg G vs ds) : RpAll K mg G vs.reverse ds.reverse := by
  induction vs generalizing ds with
  | nil => cases h; exact .nil
  | cons v vs ih => cases h with
    | cons a b => rw [List.reverse_cons, List.reverse_cons]; exact (ih b).app (.cons a .nil)
theorem RpAll.rep {vs : List V} {ds : List D} (h : RpAll K mg G vs ds) : ∀ k : Nat, RpAll K mg G (List.replicate k vs).flatten (List.replicate k ds).flatten
  | 0 => .nil
  | k + 1 => by
    rw [List.replicate_succ, List.replicate_succ, List.flatten_cons, List.flatten_cons]
    exact h.app (h.rep k)
theorem RpAll.ints {G : Hp} : ∀ ns : List Int, RpAll K mg G (ns.map V.int) (ns.map D.int)
  | [] => .nil
  | n :: ns => .cons (.int n) (RpAll.ints ns)
theorem RpF.at {vs : List (Str × V)} {ds : List (Str × D)} {f : Str} {d : D} (h : RpF K mg G vs ds) : ds.lookup f = some d → ∃ v, vs.lookup f = some v ∧ Rp K mg G v d := by
  induction vs generalizing ds with
  | nil => cases h; intro e; cases e
  | cons p vs ih =>
    cases h with
    | cons a b =>
      rename_i g v d' ds'
      intro e
      rw [List.lookup_cons] at e ⊢
      cases hq : (f == g) with
      | true => rw [hq] at e; cases e; exact ⟨_, rfl, a⟩
      | false => rw [hq] at e; exact ih b e
theorem RpF.none {vs : List (Str × V)} {ds : List (Str × D)} {f : Str} (h : RpF K mg G vs ds) : ds.lookup f = none → vs.lookup f = none := by
  induction vs generalizing ds with
  | nil => cases h; intro e; rfl
  | cons p vs ih =>
    cases h with
    | cons a b =>
      intro e
      rw [List.lookup_cons] at e ⊢
      rename_i g _ _ _
      cases hq : (f == g) with
      | true => rw [hq] at e; cases e
      | false => rw [hq] at e; exact ih b e
theorem RpF.len {vs : List (Str × V)} {ds : List (Str × D)} (h : RpF K mg G vs ds) : vs.length = ds.length := by
  induction vs generalizing ds with
  | nil => cases h; rfl
  | cons p vs ih =>
    cases h with
    | cons a b => rw [List.length_cons, List.length_cons, ih b]
def putD (f : Str) (v : D) : List (Str × D) → List (Str × D)
  | [] => [(f, v)]
  | (g, x) :: r => if g = f then (g, v) :: r else (g, x) :: putD f v r
theorem RpF.put {vs : List (Str × V)} {ds : List (Str × D)} {f : Str} {v : V} {d : D} (r : Rp K mg G v d) (h : RpF K mg G vs ds) : RpF K mg G (putF f v vs) (putD f d ds) := by
  induction vs generalizing ds with
  | nil => cases h; exact .cons r .nil
  | cons p vs ih =>
    cases h with
    | cons a b =>
      rename_i g v' d' ds'
      show RpF K mg G (if g = f then (g, v) :: vs else (g, v') :: putF f v vs) (if g = f then (g, d) :: ds' else (g, d') :: putD f d ds')
      split
      · exact .cons r b
      · exact .cons a (ih b)
end

/-! ### cells: what a slot holds -/
inductive Cell where
  /-- nothing is known of it -/
  | un
  /-- data that stay -/
  | im (d : D)
  /-- a list that this slot alone holds -/
  | ml (xs : List D)
  /-- an instance that this slot alone holds, its fields data that stay -/
  | mi (cls : Str) (fs : List (Str × D))
abbrev Env := List Cell

section
variable (K : PySem.W.Frag) (mg : Str → Option Value)
def CellR (G H : Hp) : Option V → Cell → Prop
  | _, .un => True
  | some v, .im d => Rp K mg G v d
  | some (.ref a), .ml xs => G a = none ∧ ∃ vs, H a = some (.lst vs) ∧ RpAll K mg G vs xs
  | some (.ref a), .mi cls fs => G a = none ∧ ∃ C dx fvs, mg cls = some (.ref C) ∧ H a = some (.ins C dx fvs) ∧ RpF K mg G fvs fs
  | _, _ => False
end
/-- the address that a slot alone holds -/
def adr : Option V → Cell → Option Addr
  | some (.ref a), .ml _ => some a
  | some (.ref a), .mi _ _ => some a
  | _, _ => none
def Ad (σ : L2.St) (δ : Env) (a : Addr) : Prop := ∃ (i : Nat) (v : Option V) (c : Cell), σ[i]? = some v ∧ δ[i]? = some c ∧ adr v c = some a
structure Sta (K : PySem.W.Frag) (mg : Str → Option Value) (G H : Hp) (σ : L2.St) (δ : Env) : Prop where
  gh : Same G H
  len : σ.length = δ.length
  at_ : ∀ (i : Nat) (v : Option V) (c : Cell), σ[i]? = some v → δ[i]? = some c → CellR K mg G H v c
  dis : ∀ (i j : Nat) (v w : Option V) (c e : Cell) (a : Addr), σ[i]? = some v → δ[i]? = some c → σ[j]? = some w → δ[j]? = some e → adr v c = some a → adr w e = some a → i = j
structure Grow (A A' : Addr → Prop) (G H G' H' : Hp) : Prop where
  gg : Same G G'
  fresh : ∀ b, H b ≠ none → ¬ A b → G' b = G b
  keep : ∀ b o, H b = some o → ¬ A b → H' b = some o
  there : ∀ b, H b ≠ none → H' b ≠ none
  new : ∀ b, A' b → A b ∨ H b = none
theorem Grow.refl {A : Addr → Prop} {G H : Hp} : Grow A A G H G H := ⟨Same.refl _, fun _ _ _ => rfl, fun _ _ e _ => e, fun _ e => e, fun _ h => .inl h⟩
theorem Grow.trans {A A1 A2 : Addr → Prop} {G H G1 H1 G2 H2 : Hp} (x : Grow A A1 G H G1 H1) (y : Grow A1 A2 G1 H1 G2 H2) : Grow A A2 G H G2 H2 where
  gg := x.gg.trans y.gg
  fresh := fun b hb ha => by
    have h1 : ¬ A1 b := fun q => (x.new b q).elim ha hb
    rw [y.fresh b (x.there b hb) h1, x.fresh b hb ha]
  keep := fun b o hb ha => y.keep b o (x.keep b o hb ha) (fun q => (x.new b q).elim ha (by rw [hb]; exact fun z => nomatch z))
  there := fun b hb => y.there b (x.there b hb)
  new := fun b hb => by
    rcases y.new b hb with h | h
    · exact x.new b h
    · right
      cases e : H b with
      | none => rfl
      | some o => exact absurd h (x.there b (by rw [e]; exact fun z => nomatch z))
/-- growth that turns nothing -/
abbrev Gro (G H G' H' : Hp) : Prop := Grow (fun _ => False) (fun _ => False) G H G' H'
theorem Gro.new {G H : Hp} {p : Addr} {o : HO} (gh : Same G H) (h : H p = none) : Gro G H (upd G p o) (upd H p o) where
  gg := fun b u e => by
    have : b ≠ p := fun q => by
      have := gh b u e
      rw [q, h] at this; cases this
    rw [upd_ne this]; exact e
  fresh := fun b hb _ => upd_ne (fun q => hb (by rw [q]; exact h))
  keep := fun b u e _ => by rw [upd_ne (ne_of_none e h)]; exact e
  there := fun b hb => by
    by_cases q : b = p
    · rw [q, upd_same]; exact fun z => nomatch z
    · rw [upd_ne q]; exact hb
  new := fun _ h => h.elim
theorem Gro.hh {G H G' H' : Hp} (x : Gro G H G' H') : Same H H' := fun b o e => x.keep b o e fun z => z
theorem same_upd {G H : Hp} {p : Addr} {o : HO} (gh : Same G H) : Same (upd G p o) (upd H p o) := fun b u e => by
  by_cases q : b = p
  · rw [q, upd_same] at e ⊢; exact e
  · rw [upd_ne q] at e ⊢; exact gh b u e
theorem same_none {G H : Hp} {a : Addr} (e : Same G H) (h : H a = none) : G a = none := e.free h

section
variable {K : PySem.W.Frag} {mg : Str → Option Value} {G G' H H' : Hp} {σ : L2.St} {δ : Env}
theorem CellR.im' {v : Option V} {d : D} (h : CellR K mg G H v (.im d)) : ∃ x, v = some x ∧ Rp K mg G x d := by
  cases v with
  | none => exact h.elim
  | some x => exact ⟨x, rfl, h⟩
theorem CellR.ml' {v : Option V} {xs : List D} (h : CellR K mg G H v (.ml xs)) : ∃ a vs, v = some (.ref a) ∧ G a = none ∧ H a = some (.lst vs) ∧ RpAll K mg G vs xs := by
  cases v with
  | none => exact h.elim
  | some x =>
    cases x with
    | ref a => obtain ⟨g, vs, h1, h2⟩ := h; exact ⟨a, vs, rfl, g, h1, h2⟩
    | _ => exact h.elim
theorem CellR.mi' {v : Option V} {cls : Str} {fs : List (Str × D)} (h : CellR K mg G H v (.mi cls fs)) : ∃ a C dx fvs, v = some (.ref a) ∧ G a = none ∧ mg cls = some (.ref C) ∧ H a = some (.ins C dx fvs) ∧ RpF K mg G fvs fs := by
  cases v with
  | none => exact h.elim
  | some x =>
    cases x with
    | ref a => obtain ⟨g, C, dx, fvs, h0, h1, h2⟩ := h; exact ⟨a, C, dx, fvs, rfl, g, h0, h1, h2⟩
    | _ => exact h.elim
/-- a cell keeps what it says over a growth that does not turn its own object -/
theorem CellR.grow {v : Option V} {c : Cell} (h : CellR K mg G H v c) (gg : Same G G') (ho : ∀ a, adr v c = some a → G' a = none ∧ ∀ o, H a = some o → H' a = some o) : CellR K mg G' H' v c := by
  cases c with
  | un => cases v <;> trivial
  | im d =>
    obtain ⟨x, rfl, r⟩ := h.im'
    exact r.mono gg
  | ml xs =>
    obtain ⟨a, vs, rfl, g, h1, h2⟩ := h.ml'
    obtain ⟨k1, k2⟩ := ho a rfl
    exact ⟨k1, vs, k2 _ h1, h2.mono gg⟩
  | mi cls fs =>
    obtain ⟨a, C, dx, fvs, rfl, g, h0, h1, h2⟩ := h.mi'
    obtain ⟨k1, k2⟩ := ho a rfl
    exact ⟨k1, C, dx, fvs, h0, k2 _ h1, h2.mono gg⟩
theorem CellR.there {v : Option V} {c : Cell} {a : Addr} (h : CellR K mg G H v c) (e : adr v c = some a) : H a ≠ none ∧ G a = none := by
  cases c with
  | un => cases v with
    | none => cases e
    | some x => cases x <;> cases e
  | im d => cases v with
    | none => cases e
    | some x => cases x <;> cases e
  | ml xs =>
    obtain ⟨b, vs, rfl, g, h1, h2⟩ := h.ml'
    cases e
    exact ⟨(by rw [h1]; intro z; cases z), g⟩
  | mi cls fs =>
    obtain ⟨b, C, dx, fvs, rfl, g, h0, h1, h2⟩ := h.mi'
    cases e
    exact ⟨(by rw [h1]; intro z; cases z), g⟩
/-- nothing of the slots is turned -/
theorem Sta.gro (S : Sta K mg G H σ δ) (x : Gro G H G' H') (gh : Same G' H') : Sta K mg G' H' σ δ where
  gh := gh
  len := S.len
  at_ := fun i v c h1 h2 => (S.at_ i v c h1 h2).grow x.gg fun a e => by
    obtain ⟨q1, q2⟩ := (S.at_ i v c h1 h2).there e
    exact ⟨by rw [x.fresh a q1 (fun z => z), q2], fun o z => x.keep a o z fun y => y⟩
  dis := S.dis
theorem Gro.any {A A' : Addr → Prop} (x : Gro G H G' H') (h : ∀ b, A' b → A b) : Grow A A' G H G' H' :=
  ⟨x.gg, fun b hb _ => x.fresh b hb fun z => z, fun b o e _ => x.keep b o e fun z => z, x.there, fun b hb => .inl (h b hb)⟩
end
end VL
/-! The value layer: mirrors, judgements, how they are joined. -/
namespace VL
open PySem L2

structure Exc where
  cls : Str
  fs : List (Str × D)
inductive R (α : Type) where
  | ok (a : α) (δ : Env) | ex (x : Exc) (δ : Env) | un
abbrev M (α : Type) := Env → R α
def M.ret {α : Type} (a : α) : M α := fun δ => .ok a δ
def M.bind {α β : Type} (m : M α) (f : α → M β) : M β := fun δ => match m δ with
  | .ok a δ' => f a δ'
  | .ex x δ' => .ex x δ'
  | .un => .un
theorem M.bind_ok {α β : Type} {m : M α} {f : α → M β} {a : α} {δ δ' : Env} (e : m δ = .ok a δ') : M.bind m f δ = f a δ' := by unfold M.bind; rw [e]
theorem M.bind_ex {α β : Type} {m : M α} {f : α → M β} {x : Exc} {δ δ' : Env} (e : m δ = .ex x δ') : M.bind m f δ = .ex x δ' := by unfold M.bind; rw [e]
theorem M.bind_un {α β : Type} {m : M α} {f : α → M β} {δ : Env} (e : m δ = .un) : M.bind m f δ = .un := by unfold M.bind; rw [e]
def lift {α : Type} (o : Option α) : M α := fun δ => match o with
  | some d => .ok d δ
  | none => .un
theorem lift_some {α : Type} {o : Option α} {a : α} {δ : Env} (e : o = some a) : lift o δ = .ok a δ := by rw [e]; rfl
theorem lift_none {α : Type} {o : Option α} {δ : Env} (e : o = none) : lift o δ = .un := by rw [e]; rfl
/-- a statement's end -/
inductive RS where
  | nx (δ : Env) | rt (d : D) (δ : Env) | rn (xs : List D) (δ : Env) | bk (δ : Env) | ct (δ : Env) | ex (x : Exc) (δ : Env) | un
abbrev SF := Env → RS

abbrev RRel (β α : Type) := L2.St → Env → Hp → Hp → β → α → Prop
section
variable (K : PySem.W.Frag) (mg : Str → Option Value)
/-- the value stands for the data -/
abbrev RD : RRel V D := fun _ _ G _ v d => Rp K mg G v d
def XP (W : Option WX) (P : List Nat) (G H : Hp) (σ : L2.St) (δ : Env) (x : Exc) (δ' : Env) : Prop := match W with
  | none => False
  | some W => ∀ (σ' : L2.St) (C dd : Addr) (fvs : List (Str × V)) (G' H' : Hp), mg x.cls = some (.ref C) → H' dd = some (.xd fvs) → RpF K mg G' fvs x.fs → Grow (Ad σ δ) (Ad σ' δ') G H G' H' → Sta K mg G' H' σ' δ' →
      (∀ i ∈ P, σ'[i]? = σ[i]?) → W (.ref C) (some dd) σ' H'
def Pst {α β : Type} (RR : RRel β α) (W : Option WX) (P : List Nat) (G H : Hp) (σ : L2.St) (δ : Env) (r : R α) (Q : β → Hp → Prop) : Prop := match r with
  | .ok a δ' => ∀ (b : β) (G' H' : Hp), Grow (Ad σ δ) (Ad σ δ') G H G' H' → Sta K mg G' H' σ δ' → RR σ δ' G' H' b a → Q b H'
  | .ex x δ' => XP K mg W P G H σ δ x δ'
  | .un => False
def Ev {α β : Type} (RR : RRel β α) (W : Option WX) (P : List Nat) (t : L2.St → Hp → (β → Hp → Prop) → Prop) (f : M α) : Prop :=
  ∀ (G H : Hp) (σ : L2.St) (δ : Env), Sta K mg G H σ δ → ∀ Q : β → Hp → Prop, Pst K mg RR W P G H σ δ (f δ) Q → t σ H Q
def SPst (W : Option WX) (P : List Nat) (G H : Hp) (σ : L2.St) (δ : Env) (r : RS) (Z : Ends) : Prop := match r with
  | .nx δ' => ∀ (σ' : L2.St) (G' H' : Hp), Grow (Ad σ δ) (Ad σ' δ') G H G' H' → Sta K mg G' H' σ' δ' → (∀ i ∈ P, σ'[i]? = σ[i]?) → Z.nx σ' H'
  | .bk δ' => ∀ (σ' : L2.St) (G' H' : Hp), Grow (Ad σ δ) (Ad σ' δ') G H G' H' → Sta K mg G' H' σ' δ' → (∀ i ∈ P, σ'[i]? = σ[i]?) → Z.bk σ' H'
  | .ct δ' => ∀ (σ' : L2.St) (G' H' : Hp), Grow (Ad σ δ) (Ad σ' δ') G H G' H' → Sta K mg G' H' σ' δ' → (∀ i ∈ P, σ'[i]? = σ[i]?) → Z.ct σ' H'
  | .rt d δ' => ∀ (v : V) (σ' : L2.St) (G' H' : Hp), Grow (Ad σ δ) (Ad σ' δ') G H G' H' → Sta K mg G' H' σ' δ' → (∀ i ∈ P, σ'[i]? = σ[i]?) → Rp K mg G' v d → Z.rt v H'
  | .rn xs δ' => ∀ (a : Addr) (vs : List V) (σ' : L2.St) (G' H' : Hp), Grow (Ad σ δ) (Ad σ' δ') G H G' H' → Sta K mg G' H' σ' δ' → (∀ i ∈ P, σ'[i]? = σ[i]?) → G' a = none → H' a = some (.lst vs) → RpAll K mg G' vs xs → ¬ Ad σ' δ' a → (Ad σ δ a ∨ H a = none) → Z.rt (.ref a) H'
  | .ex x δ' => XP K mg W P G H σ δ x δ'
  | .un => False
def SV (W : Option WX) (P : List Nat) (t : TS) (g : SF) : Prop :=
  ∀ (G H : Hp) (σ : L2.St) (δ : Env), Sta K mg G H σ δ → ∀ Z : Ends, SPst K mg W P G H σ δ (g δ) Z → t Z σ H
end

section
variable {K : PySem.W.Frag} {mg : Str → Option Value} {W : Option WX} {P : List Nat} {G H G1 H1 : Hp} {σ σ1 : L2.St} {δ δ1 : Env}
theorem XP.shift {x : Exc} {δ' : Env} (h : XP K mg W P G H σ δ x δ') (g : Grow (Ad σ δ) (Ad σ1 δ1) G H G1 H1) (k : ∀ i ∈ P, σ1[i]? = σ[i]?) : XP K mg W P G1 H1 σ1 δ1 x δ' := by
  cases W with
  | none => exact h
  | some W => exact fun σ' C dd fvs G' H' a b c d e f => h σ' C dd fvs G' H' a b c (g.trans d) e fun i hi => (f i hi).trans (k i hi)
theorem Pst.shift {α β : Type} {RR : RRel β α} {r : R α} {Q : β → Hp → Prop} (h : Pst K mg RR W P G H σ δ r Q) (g : Grow (Ad σ δ) (Ad σ δ1) G H G1 H1) : Pst K mg RR W P G1 H1 σ δ1 r Q := by
  cases r with
  | ok a δ' => exact fun b G' H' x s r => h b G' H' (g.trans x) s r
  | ex x δ' => exact XP.shift (h : XP K mg W P G H σ δ x δ') g fun _ _ => rfl
  | un => exact h
theorem SPst.shift {r : RS} {Z : Ends} (h : SPst K mg W P G H σ δ r Z) (g : Grow (Ad σ δ) (Ad σ1 δ1) G H G1 H1) (k : ∀ i ∈ P, σ1[i]? = σ[i]?) : SPst K mg W P G1 H1 σ1 δ1 r Z := by
  cases r with
  | nx δ' => exact fun σ' G' H' x s q => h σ' G' H' (g.trans x) s fun i hi => (q i hi).trans (k i hi)
  | bk δ' => exact fun σ' G' H' x s q => h σ' G' H' (g.trans x) s fun i hi => (q i hi).trans (k i hi)
  | ct δ' => exact fun σ' G' H' x s q => h σ' G' H' (g.trans x) s fun i hi => (q i hi).trans (k i hi)
  | rt d δ' => exact fun v σ' G' H' x s q r => h v σ' G' H' (g.trans x) s (fun i hi => (q i hi).trans (k i hi)) r
  | rn xs δ' => exact fun a vs σ' G' H' x s q h1 h2 h3 h4 h5 => h a vs σ' G' H' (g.trans x) s (fun i hi => (q i hi).trans (k i hi)) h1 h2 h3 h4 (by
      rcases h5 with z | z
      · exact g.new a z
      · right
        cases q' : H a with
        | none => rfl
        | some o => exact absurd z (g.there a (by rw [q']; exact fun y => nomatch y)))
  | ex x δ' => exact XP.shift (h : XP K mg W P G H σ δ x δ') g k
  | un => exact h
theorem Pst.go {α β : Type} {RR : RRel β α} {a : α} {b : β} {Q : β → Hp → Prop} (h : Pst K mg RR W P G H σ δ (.ok a δ) Q) (s : Sta K mg G H σ δ) (r : RR σ δ G H b a) : Q b H := h b G H Grow.refl s r
/-- a part read first, the rest with its value -/
theorem Ev.bind {α β γ ε : Type} {RA : RRel β α} {RB : RRel ε γ} {ta : L2.St → Hp → (β → Hp → Prop) → Prop} {k : β → L2.St → Hp → (ε → Hp → Prop) → Prop} {f : M α} {g : α → M γ} (ha : Ev K mg RA W P ta f)
    (hk : ∀ (G H : Hp) (σ : L2.St) (δ : Env) (x : β) (a : α), Sta K mg G H σ δ → RA σ δ G H x a → ∀ Q : ε → Hp → Prop, Pst K mg RB W P G H σ δ (g a δ) Q → k x σ H Q) :
    Ev K mg RB W P (fun σ H Q => ta σ H fun x H1 => k x σ H1 Q) (M.bind f g) := by
  intro G H σ δ S Q h
  refine ha G H σ δ S _ ?_
  cases e : f δ with
  | ok a δ' =>
    rw [M.bind_ok e] at h
    exact fun b G' H' gr st rr => hk G' H' σ δ' b a st rr Q (Pst.shift h gr)
  | ex x δ' => rw [M.bind_ex e] at h; exact h
  | un => rw [M.bind_un e] at h; exact h
theorem Ev.map {α β γ ε : Type} {RA : RRel β α} {RB : RRel ε γ} {ta : L2.St → Hp → (β → Hp → Prop) → Prop} {k : β → L2.St → Hp → (ε → Hp → Prop) → Prop} {f : M α} {g : α → Option γ} (ha : Ev K mg RA W P ta f)
    (hk : ∀ (G H : Hp) (σ : L2.St) (δ : Env) (x : β) (a : α) (z : γ), Sta K mg G H σ δ → RA σ δ G H x a → g a = some z → ∀ Q : ε → Hp → Prop, (∀ (v : ε) (G' H' : Hp), Gro G H G' H' → Same G' H' → RB σ δ G' H' v z → Q v H') → k x σ H Q) :
    Ev K mg RB W P (fun σ H Q => ta σ H fun x H1 => k x σ H1 Q) (M.bind f fun a => lift (g a)) := by
  refine ha.bind fun G H σ δ x a S r Q h => ?_
  cases e : g a with
  | none => rw [lift_none e] at h; exact h.elim
  | some z =>
    rw [lift_some e] at h
    exact hk G H σ δ x a z S r e Q fun v G' H' gr gh rr => h v G' H' (gr.any fun _ q => q) (S.gro gr gh) rr
theorem Ev.const {β α : Type} {RR : RRel β α} {v : β} {a : α} (h : ∀ σ δ G H, RR σ δ G H v a) : Ev K mg RR W P (fun _ H Q => Q v H) (M.ret a) := fun G H σ δ S Q q => q.go S (h σ δ G H)
end

/-! ### with the syntax -/
section
variable (X : Cx) (W : Option WX) (P : List Nat)
abbrev EqB : RRel Bool Bool := fun _ _ _ _ b a => b = a
def E_ (e : Expr) (f : M D) : Prop := ∃ te, PE X e te ∧ Ev X.K X.mg (RD X.K X.mg) W P te f
def T_ (e : Expr) (f : M Bool) : Prop := ∃ tt, PT X e tt ∧ Ev X.K X.mg EqB W P tt f
def S_ (st : Stmt) (g : SF) : Prop := ∃ t, PS X st t ∧ SV X.K X.mg W P t g
def B_ (st : List Stmt) (g : SF) : Prop := ∃ t, PSs X st t ∧ SV X.K X.mg W P t g
end

/-! ### names and constants -/
/-- what a slot alone holds, as data that stay -/
def Cell.data : Cell → Option D
  | .im d => some d
  | .ml xs => some (.lst xs)
  | .mi c fs => some (.ins c fs)
  | .un => none
theorem Sta.slot {K : PySem.W.Frag} {mg : Str → Option Value} {G H : Hp} {σ : L2.St} {δ : Env} {i : Nat} {c : Cell} (S : Sta K mg G H σ δ) (e : δ[i]? = some c) : ∃ v, σ[i]? = some v ∧ CellR K mg G H v c := by
  have hl : i < σ.length := by rw [S.len]; exact (List.getElem?_eq_some_iff.mp e).1
  exact ⟨σ[i], List.getElem?_eq_getElem hl, S.at_ i _ _ (List.getElem?_eq_getElem hl) e⟩
theorem adr_im {v : Option V} {d : D} : adr v (.im d) = none := by
  cases v with
  | none => rfl
  | some x => cases x <;> rfl
theorem adr_un {v : Option V} : adr v .un = none := by
  cases v with
  | none => rfl
  | some x => cases x <;> rfl
theorem set_get {α : Type} {l : List α} {i j : Nat} {x y : α} (h : (l.set i x)[j]? = some y) : (j = i ∧ y = x ∧ i < l.length) ∨ (j ≠ i ∧ l[j]? = some y) := by
  by_cases e : j = i
  · subst e
    have hl : j < l.length := by
      have := (List.getElem?_eq_some_iff.mp h).1
      rwa [List.length_set] at this
    rw [List.getElem?_set_self hl] at h
    exact .inl ⟨rfl, (Option.some.inj h).symm, hl⟩
  · rw [List.getElem?_set_ne (fun z => e z.symm)] at h
    exact .inr ⟨e, h⟩
/-- the slot's object is given to the data that stay -/
theorem Sta.take {K : PySem.W.Frag} {mg : Str → Option Value} {G H : Hp} {σ : L2.St} {δ : Env} {i : Nat} {c : Cell} {d : D} {v : Option V} {a : Addr} {o : HO} (S : Sta K mg G H σ δ) (hv : σ[i]? = some v) (e : δ[i]? = some c) (ha : adr v c = some a) (ho : H a = some o)
    (hr : Rp K mg (upd G a o) (.ref a) d) (hva : v = some (.ref a)) : Grow (Ad σ δ) (Ad σ (δ.set i (.im d))) G H (upd G a o) H ∧ Sta K mg (upd G a o) H σ (δ.set i (.im d)) := by
  have hi : i < δ.length := (List.getElem?_eq_some_iff.mp e).1
  obtain ⟨_, ga⟩ := (S.at_ i v c hv e).there ha
  have gg : Same G (upd G a o) := fun b u q => by
    have : b ≠ a := fun z => by rw [z, ga] at q; cases q
    rw [upd_ne this]; exact q
  refine ⟨⟨gg, fun b hb hn => upd_ne (fun z => hn ⟨i, v, c, hv, e, by rw [z]; exact ha⟩), fun b u q _ => q, fun b q => q, fun b ⟨j, w, c', h1, h2, h3⟩ => .inl ?_⟩, ⟨fun b u q => ?_, by rw [List.length_set]; exact S.len, fun j w c' h1 h2 => ?_, fun j l w x c' e' b h1 h2 h3 h4 h5 h6 => ?_⟩⟩
  · rcases set_get h2 with ⟨_, rfl, _⟩ | ⟨_, h2⟩
    · rw [adr_im] at h3; cases h3
    · exact ⟨j, w, c', h1, h2, h3⟩
  · by_cases z : b = a
    · rw [z, upd_same] at q; rw [z, ← q]; exact ho
    · rw [upd_ne z] at q; exact S.gh b u q
  · rcases set_get h2 with ⟨rfl, rfl, _⟩ | ⟨hj, h2⟩
    · rw [hv] at h1
      cases h1
      rw [hva]
      exact hr
    · refine (S.at_ j w c' h1 h2).grow gg fun b q => ?_
      obtain ⟨q1, q2⟩ := (S.at_ j w c' h1 h2).there q
      refine ⟨?_, fun _ z => z⟩
      have : b ≠ a := fun z => hj (S.dis j i w v c' c a h1 h2 hv e (by rw [← z]; exact q) ha)
      rw [upd_ne this]; exact q2
  · rcases set_get h2 with ⟨_, rfl, _⟩ | ⟨_, h2⟩
    · rw [adr_im] at h5; cases h5
    · rcases set_get h4 with ⟨_, rfl, _⟩ | ⟨_, h4⟩
      · rw [adr_im] at h6; cases h6
      · exact S.dis j l w x c' e' b h1 h2 h3 h4 h5 h6
def eVar (i : Nat) : M D := fun δ => match δ[i]? with
  | some (.im d) => .ok d δ
  | some (.ml xs) => .ok (.lst xs) (δ.set i (.im (.lst xs)))
  | some (.mi c fs) => .ok (.ins c fs) (δ.set i (.im (.ins c fs)))
  | _ => .un
section
variable {X : Cx} {W : Option WX} {P : List Nat} {pos : Pos}
theorem ev_var {K : PySem.W.Frag} {mg : Str → Option Value} (i : Nat) : Ev K mg (RD K mg) W P (tVar i) (eVar i) := by
  intro G H σ δ S Q h
  unfold eVar at h
  cases e : δ[i]? with
  | none => rw [e] at h; exact h.elim
  | some c =>
    rw [e] at h
    obtain ⟨w, hw, r⟩ := S.slot e
    cases c with
    | un => exact h.elim
    | im d =>
      obtain ⟨v, rfl, r⟩ := r.im'
      exact ⟨v, hw, Pst.go h S r⟩
    | ml xs =>
      obtain ⟨a, vs, rfl, g, h1, h2⟩ := r.ml'
      have gg : Same G (upd G a (.lst vs)) := fun b u q => by
        have : b ≠ a := fun z => by rw [z, g] at q; cases q
        rw [upd_ne this]; exact q
      have hr : Rp K mg (upd G a (.lst vs)) (.ref a) (.lst xs) := .lst upd_same (h2.mono gg)
      obtain ⟨x1, x2⟩ := S.take hw e rfl h1 hr rfl
      exact ⟨_, hw, h _ _ _ x1 x2 hr⟩
    | mi c fs =>
      obtain ⟨a, C, dx, fvs, rfl, g, h0, h1, h2⟩ := r.mi'
      have gg : Same G (upd G a (.ins C dx fvs)) := fun b u q => by
        have : b ≠ a := fun z => by rw [z, g] at q; cases q
        rw [upd_ne this]; exact q
      have hr : Rp K mg (upd G a (.ins C dx fvs)) (.ref a) (.ins c fs) := .ins h0 upd_same (h2.mono gg)
      obtain ⟨x1, x2⟩ := S.take hw e rfl h1 hr rfl
      exact ⟨_, hw, h _ _ _ x1 x2 hr⟩
theorem e_var (i : Nat) {x : Str} (hN : X.N[i]? = some x := by rfl) (hv : Vis X.env.scope x := by first | exact Or.inl rfl | exact Or.inr (Or.inl rfl) | exact Or.inr (Or.inr rfl)) (hd : (x == ("__debug__" : Str)) = false := by decide)
    (hcd : (x == ("__classdict__" : Str)) = false := by decide) : E_ X W P (.Name x pos) (eVar i) := ⟨_, pe_var hN hv hd hcd, ev_var i⟩
def eC (d : D) : M D := M.ret d
theorem e_int {i : Int} {j} : E_ X W P (.Constant (.int i) j pos) (eC (.int i)) := ⟨_, pe_int, Ev.const fun _ _ _ _ => .int i⟩
theorem e_bl {b : Bool} {j} : E_ X W P (.Constant (.bool b) j pos) (eC (.bl b)) := ⟨_, pe_bl, Ev.const fun _ _ _ _ => .bl b⟩
theorem e_non {j} : E_ X W P (.Constant .none j pos) (eC .non) := ⟨_, pe_non, Ev.const fun _ _ _ _ => .non⟩
theorem e_str {x : Str} {j} : E_ X W P (.Constant (.str x) j pos) (eC (.str x)) := ⟨_, pe_str, Ev.const fun _ _ _ _ => .str x⟩

/-! ### operators -/
def OpD (K : PySem.W.Frag) (mg : Str → Option Value) (r : R2) (op : D → D → Option D) : Prop :=
  ∀ (G H : Hp) (x y : V) (d e z : D), Same G H → Rp K mg G x d → Rp K mg G y e → op d e = some z → ∀ Q : VK, (∀ (v : V) (G' H' : Hp), Gro G H G' H' → Same G' H' → Rp K mg G' v z → Q v H') → r x y H Q
def e2 (op : D → D → Option D) (a b : M D) : M D := M.bind a fun d => M.bind b fun e => lift (op d e)
theorem ev_op {K : PySem.W.Frag} {mg : Str → Option Value} {r : R2} {op : D → D → Option D} {ta tb : TE} {f g : M D} (ho : OpD K mg r op) (ha : Ev K mg (RD K mg) W P ta f) (hb : Ev K mg (RD K mg) W P tb g) :
    Ev K mg (RD K mg) W P (tOp r ta tb) (e2 op f g) := by
  refine ha.bind fun G H σ δ x d S r1 Q h => ?_
  refine hb G H σ δ S _ ?_
  cases e : g δ with
  | ok a δ' =>
    rw [M.bind_ok e] at h
    intro y G' H' gr st rr
    cases q : op d a with
    | none => rw [lift_none q] at h; exact h.elim
    | some z =>
      rw [lift_some q] at h
      refine ho G' H' x y d a z st.gh (r1.mono gr.gg) rr q Q fun v G2 H2 g2 s2 r2 => ?_
      exact h v G2 H2 (gr.trans (g2.any fun _ q => q)) (st.gro g2 s2) r2
  | ex x δ' => rw [M.bind_ex e] at h; exact h
  | un => rw [M.bind_un e] at h; exact h
theorem e_op {op : Operator} {r : R2} {f : D → D → Option D} {a b : Expr} {fa fb : M D} (ho : OpR X (binaryOp op) r) (hd : OpD X.K X.mg r f) (ha : E_ X W P a fa) (hb : E_ X W P b fb) : E_ X W P (.BinOp a op b pos) (e2 f fa fb) := by
  obtain ⟨ta, pa, ea⟩ := ha
  obtain ⟨tb, pb, eb⟩ := hb
  exact ⟨_, pe_op ho pa pb, ev_op hd ea eb⟩
theorem e_cmp {op : CmpOp} {r : R2} {f : D → D → Option D} {a b : Expr} {fa fb : M D} (ho : OpR X (compareOp op) r) (hd : OpD X.K X.mg r f) (hm : behindInMarks op b = false) (ha : E_ X W P a fa) (hb : E_ X W P b fb) : E_ X W P (.Compare a [op] [b] pos) (e2 f fa fb) := by
  obtain ⟨ta, pa, ea⟩ := ha
  obtain ⟨tb, pb, eb⟩ := hb
  exact ⟨_, pe_cmpR ho pa pb hm, ev_op hd ea eb⟩
def UnD (K : PySem.W.Frag) (mg : Str → Option Value) (r : V → Hp → VK → Prop) (op : D → Option D) : Prop :=
  ∀ (G H : Hp) (x : V) (d z : D), Same G H → Rp K mg G x d → op d = some z → ∀ Q : VK, (∀ (v : V) (G' H' : Hp), Gro G H G' H' → Same G' H' → Rp K mg G' v z → Q v H') → r x H Q
def e1 (op : D → Option D) (a : M D) : M D := M.bind a fun d => lift (op d)
theorem ev_un {K : PySem.W.Frag} {mg : Str → Option Value} {r : V → Hp → VK → Prop} {op : D → Option D} {ta : TE} {f : M D} (ho : UnD K mg r op) (ha : Ev K mg (RD K mg) W P ta f) :
    Ev K mg (RD K mg) W P (tUn r ta) (e1 op f) := ha.map fun G H σ δ x d z S r e Q h => ho G H x d z S.gh r e Q h
theorem e_un {op : UnaryOp} {r : V → Hp → VK → Prop} {f : D → Option D} {a : Expr} {fa : M D} (ho : UnR X (unaryOp op) r) (hd : UnD X.K X.mg r f) (ha : E_ X W P a fa) : E_ X W P (.UnaryOp op a pos) (e1 f fa) := by
  obtain ⟨ta, pa, ea⟩ := ha
  exact ⟨_, pe_un ho pa, ev_un hd ea⟩

/-! ### tests -/
def asB (d : D) : Option Bool := match d with
  | .bl b => some b
  | _ => none
def tVal (a : M D) : M Bool := M.bind a fun d => lift (asB d)
theorem ev_B {K : PySem.W.Frag} {mg : Str → Option Value} {ta : TE} {f : M D} (ha : Ev K mg (RD K mg) W P ta f) : Ev K mg EqB W P (tB ta) (tVal f) := by
  refine ha.map fun G H σ δ x d z S r e Q h => ?_
  cases d with
  | bl c => exact ⟨c, Rp.bl' r, h c G H Grow.refl S.gh (Option.some.inj e)⟩
  | _ => cases e
theorem t_val {e : Expr} {f : M D} (h : E_ X W P e f) (he : ∀ whole, isTrue e X.env whole = (do let v ← whole; standAt e.pos; holding [v] (truthy v)) := by intro _; rfl) : T_ X W P e (tVal f) := by
  obtain ⟨ta, pa, ea⟩ := h
  exact ⟨_, pt_val pa he, ev_B ea⟩
theorem t_cmp {op : CmpOp} {r : R2} {f : D → D → Option D} {a b : Expr} {fa fb : M D} (ho : OpR X (compareOp op) r) (hd : OpD X.K X.mg r f) (hm : behindInMarks op b = false) (ha : E_ X W P a fa) (hb : E_ X W P b fb) : T_ X W P (.Compare a [op] [b] pos) (tVal (e2 f fa fb)) := by
  obtain ⟨ta, pa, ea⟩ := ha
  obtain ⟨tb, pb, eb⟩ := hb
  exact ⟨_, pt_cmpR ho pa pb hm, ev_B (ev_op hd ea eb)⟩
def W_ (X : Cx) (W : Option WX) (P : List Nat) (e : Expr) (f : M Bool) : Prop := ∃ tt, PW X e tt ∧ Ev X.K X.mg EqB W P tt f
theorem W_.t {e : Expr} {f : M Bool} (h : W_ X W P e f) : T_ X W P e f := by
  obtain ⟨t, p, q⟩ := h
  exact ⟨t, p.pt, q⟩
def mAnd (a b : M Bool) : M Bool := M.bind a fun c => if c = true then b else M.ret false
def mOr (a b : M Bool) : M Bool := M.bind a fun c => if c = true then M.ret true else b
def mNot (a : M Bool) : M Bool := M.bind a fun c => M.ret (!c)
def mIf {α : Type} (t : M Bool) (a b : M α) : M α := M.bind t fun c => if c = true then a else b
theorem ev_if {K : PySem.W.Frag} {mg : Str → Option Value} {α β : Type} {RR : RRel β α} {tt : TT} {ta tb : L2.St → Hp → (β → Hp → Prop) → Prop} {t : M Bool} {f g : M α} (ht : Ev K mg EqB W P tt t) (ha : Ev K mg RR W P ta f) (hb : Ev K mg RR W P tb g) :
    Ev K mg RR W P (fun σ H Q => tt σ H fun c H1 => if c = true then ta σ H1 Q else tb σ H1 Q) (mIf t f g) := by
  refine ht.bind fun G H σ δ x a S r Q h => ?_
  cases r
  cases x with
  | true => exact ha G H σ δ S Q h
  | false => exact hb G H σ δ S Q h
theorem w_and1 {a : Expr} {f : M Bool} (ha : T_ X W P a f) : W_ X W P (.BoolOp .And [a] pos) f := by
  obtain ⟨t, p, q⟩ := ha
  exact ⟨t, pw_and1 p, q⟩
theorem w_or1 {a : Expr} {f : M Bool} (ha : T_ X W P a f) : W_ X W P (.BoolOp .Or [a] pos) f := by
  obtain ⟨t, p, q⟩ := ha
  exact ⟨t, pw_or1 p, q⟩
theorem w_and {a b : Expr} {rest : List Expr} {f g : M Bool} (ha : T_ X W P a f) (hb : W_ X W P (.BoolOp .And (b :: rest) pos) g) : W_ X W P (.BoolOp .And (a :: b :: rest) pos) (mAnd f g) := by
  obtain ⟨t, p, q⟩ := ha
  obtain ⟨t', p', q'⟩ := hb
  exact ⟨_, pw_and p p', ev_if q q' (Ev.const fun _ _ _ _ => rfl)⟩
theorem w_or {a b : Expr} {rest : List Expr} {f g : M Bool} (ha : T_ X W P a f) (hb : W_ X W P (.BoolOp .Or (b :: rest) pos) g) : W_ X W P (.BoolOp .Or (a :: b :: rest) pos) (mOr f g) := by
  obtain ⟨t, p, q⟩ := ha
  obtain ⟨t', p', q'⟩ := hb
  exact ⟨_, pw_or p p', ev_if q (Ev.const fun _ _ _ _ => rfl) q'⟩
theorem t_not {a : Expr} {f : M Bool} (ha : T_ X W P a f) : T_ X W P (.UnaryOp .Not a pos) (mNot f) := by
  obtain ⟨t, p, q⟩ := ha
  refine ⟨_, pt_not p, q.bind fun G H σ δ x a S r Q h => ?_⟩
  cases r
  exact h.go S rfl
theorem e_ifx {c a b : Expr} {t : M Bool} {f g : M D} (hc : T_ X W P c t) (ha : E_ X W P a f) (hb : E_ X W P b g) : E_ X W P (.IfExp c a b pos) (mIf t f g) := by
  obtain ⟨t, p, q⟩ := hc
  obtain ⟨t1, p1, q1⟩ := ha
  obtain ⟨t2, p2, q2⟩ := hb
  exact ⟨_, pe_ifExp p p1 p2, ev_if q q1 q2⟩
/-- and, or, not as values of bools -/
def eAnd (a b : M D) : M D := mIf (tVal a) b (eC (.bl false))
def eOr (a b : M D) : M D := mIf (tVal a) (eC (.bl true)) b
def eNot (a : M D) : M D := M.bind (tVal a) fun c => M.ret (.bl (!c))
theorem e_one {op : PySem.BoolOp} {a : Expr} {f : M D} (h : E_ X W P a f) : E_ X W P (.BoolOp op [a] pos) f := by
  obtain ⟨t, p, q⟩ := h
  exact ⟨t, pe_one p, q⟩
theorem ev_ifV {K : PySem.W.Frag} {mg : Str → Option Value} {ta t1 t2 : TE} {f g1 g2 : M D} (ha : Ev K mg (RD K mg) W P ta f) (h1 : Ev K mg (RD K mg) W P t1 g1) (h2 : Ev K mg (RD K mg) W P t2 g2) :
    Ev K mg (RD K mg) W P (fun σ H Q => ta σ H fun x H1 => ∃ c, x = .bl c ∧ if c = true then t1 σ H1 Q else t2 σ H1 Q) (mIf (tVal f) g1 g2) := by
  intro G H σ δ S Q h
  refine ha G H σ δ S _ ?_
  unfold mIf tVal at h
  cases e : f δ with
  | ok d δ' =>
    have e2 : M.bind f (fun d => lift (asB d)) δ = lift (asB d) δ' := M.bind_ok e
    intro x G' H' gr st rr
    cases d with
    | bl b =>
      refine ⟨b, Rp.bl' rr, ?_⟩
      rw [M.bind_ok (e2.trans (lift_some rfl))] at h
      cases b with
      | true => exact h1 G' H' σ δ' st Q (Pst.shift h gr)
      | false => exact h2 G' H' σ δ' st Q (Pst.shift h gr)
    | _ => rw [M.bind_un (e2.trans (lift_none rfl))] at h; exact h.elim
  | ex x δ' => rw [M.bind_ex (M.bind_ex e)] at h; exact h
  | un => rw [M.bind_un (M.bind_un e)] at h; exact h
theorem e_and {a b : Expr} {rest : List Expr} {f g : M D} (ha : E_ X W P a f) (hb : E_ X W P (.BoolOp .And (b :: rest) pos) g) : E_ X W P (.BoolOp .And (a :: b :: rest) pos) (eAnd f g) := by
  obtain ⟨t, p, q⟩ := ha
  obtain ⟨t', p', q'⟩ := hb
  exact ⟨_, pe_and p p', ev_ifV q q' (Ev.const fun _ _ _ _ => .bl false)⟩
theorem e_or {a b : Expr} {rest : List Expr} {f g : M D} (ha : E_ X W P a f) (hb : E_ X W P (.BoolOp .Or (b :: rest) pos) g) : E_ X W P (.BoolOp .Or (a :: b :: rest) pos) (eOr f g) := by
  obtain ⟨t, p, q⟩ := ha
  obtain ⟨t', p', q'⟩ := hb
  exact ⟨_, pe_or p p', ev_ifV q (Ev.const fun _ _ _ _ => .bl true) q'⟩
theorem e_not {a : Expr} {f : M D} (ha : E_ X W P a f) : E_ X W P (.UnaryOp .Not a pos) (eNot f) := by
  obtain ⟨t, p, q⟩ := ha
  refine ⟨_, pe_not p, ?_⟩
  intro G H σ δ S Q h
  refine q G H σ δ S _ ?_
  unfold eNot tVal at h
  cases e : f δ with
  | ok d δ' =>
    have e2 : M.bind f (fun d => lift (asB d)) δ = lift (asB d) δ' := M.bind_ok e
    intro x G' H' gr st rr
    cases d with
    | bl b =>
      rw [M.bind_ok (e2.trans (lift_some rfl))] at h
      exact ⟨b, Rp.bl' rr, h _ G' H' gr st (.bl _)⟩
    | _ => rw [M.bind_un (e2.trans (lift_none rfl))] at h; exact h.elim
  | ex x δ' => rw [M.bind_ex (M.bind_ex e)] at h; exact h
  | un => rw [M.bind_un (M.bind_un e)] at h; exact h
end
end VL
/-! The value layer: operators on data. -/
namespace VL
open PySem PySem.Spec PyProof.Rows L2

section
variable {K : PySem.W.Frag} {mg : Str → Option Value} {G H : Hp}
theorem new_lst {vs : List V} {ds : List D} {Q : VK} (gh : Same G H) (r : RpAll K mg G vs ds) (h : ∀ (v : V) (G' H' : Hp), Gro G H G' H' → Same G' H' → Rp K mg G' v (.lst ds) → Q v H') : ∀ p, H p = none → Q (.ref p) (upd H p (.lst vs)) := fun p hp => by
  have g := Gro.new (o := .lst vs) gh hp
  exact h _ _ _ g (same_upd gh) (.lst upd_same (r.mono g.gg))
theorem new_tup {vs : List V} {ds : List D} {Q : VK} (gh : Same G H) (r : RpAll K mg G vs ds) (h : ∀ (v : V) (G' H' : Hp), Gro G H G' H' → Same G' H' → Rp K mg G' v (.tup ds) → Q v H') : ∀ p, H p = none → Q (.ref p) (upd H p (.tup vs)) := fun p hp => by
  have g := Gro.new (o := .tup vs) gh hp
  exact h _ _ _ g (same_upd gh) (.tup (SqT.of upd_same) (r.mono g.gg))
theorem now {v : V} {d : D} {Q : VK} (gh : Same G H) (r : Rp K mg G v d) (h : ∀ (v : V) (G' H' : Hp), Gro G H G' H' → Same G' H' → Rp K mg G' v d → Q v H') : Q v H := h _ _ _ Grow.refl gh r
theorem OpD.or {r r' : R2} {f g o : D → D → Option D} (h : OpD K mg r f) (h' : OpD K mg r' g) (e : ∀ d e z, o d e = some z → f d e = some z ∨ g d e = some z) : OpD K mg (fun x y H Q => r x y H Q ∨ r' x y H Q) o :=
  fun G H x y d e' z gh r1 r2 q Q k => (e d e' z q).elim (fun q => .inl (h G H x y d e' z gh r1 r2 q Q k)) fun q => .inr (h' G H x y d e' z gh r1 r2 q Q k)
end

/-! ### arithmetic -/
def addI (d e : D) : Option D := match d, e with
  | .int a, .int b => some (.int (a + b))
  | _, _ => none
def addS (d e : D) : Option D := match d, e with
  | .str a, .str b => if a.length + b.length ≤ sizeLine then some (.str (a ++ b)) else none
  | _, _ => none
def addL (d e : D) : Option D := match d, e with
  | .lst a, .lst b => if a.length + b.length ≤ sizeLine then some (.lst (a ++ b)) else none
  | _, _ => none
def addT (d e : D) : Option D := match d, e with
  | .tup a, .tup b => if a.length + b.length ≤ sizeLine then some (.tup (a ++ b)) else none
  | _, _ => none
def dAdd (d e : D) : Option D := match d with
  | .int _ => addI d e
  | .str _ => addS d e
  | .lst _ => addL d e
  | .tup _ => addT d e
  | _ => none
def rAdd4 (K : PySem.W.Frag) : R2 := fun x y H Q => ((rI0 fun i j => .int (i + j)) x y H Q ∨ (fun x y H Q => ∃ i j, x = .str i ∧ y = .str j ∧ i.length + j.length ≤ sizeLine ∧ Q (.str (i ++ j)) H : R2) x y H Q) ∨ rCat x y H Q ∨ rCatA K x y H Q
theorem op_add4 {X : Cx} : OpR X (binaryOp .Add) (rAdd4 X.K) := (op_add.or op_add_str).or (op_cat.or op_catA)
section
variable {K : PySem.W.Frag} {mg : Str → Option Value}
theorem opd_addI : OpD K mg (rI0 fun i j => .int (i + j)) addI := fun G H x y d e z gh r1 r2 q Q k => by
  unfold addI at q
  split at q
  · cases q
    exact ⟨_, _, r1.int', r2.int', now gh (.int _) k⟩
  · cases q
theorem opd_addS : OpD K mg (fun x y H Q => ∃ i j, x = .str i ∧ y = .str j ∧ i.length + j.length ≤ sizeLine ∧ Q (.str (i ++ j)) H) addS := fun G H x y d e z gh r1 r2 q Q k => by
  unfold addS at q
  split at q
  · split at q
    · cases q
      exact ⟨_, _, r1.str', r2.str', by assumption, now gh (.str _) k⟩
    · cases q
  · cases q
theorem opd_addL : OpD K mg rCat addL := fun G H x y d e z gh r1 r2 q Q k => by
  unfold addL at q
  split at q
  · split at q
    · cases q
      obtain ⟨a, vs, rfl, h1, a1⟩ := r1.lst'
      obtain ⟨b, ws, rfl, h2, a2⟩ := r2.lst'
      exact ⟨a, b, vs, ws, rfl, rfl, gh _ _ h1, gh _ _ h2, by rw [a1.len, a2.len]; assumption, new_lst gh (a1.app a2) k⟩
    · cases q
  · cases q
theorem opd_addT : OpD K mg (rCatA K) addT := fun G H x y d e z gh r1 r2 q Q k => by
  unfold addT at q
  split at q
  · split at q
    · rename_i hc
      cases q
      obtain ⟨a, vs, rfl, h1, a1⟩ := r1.tup'
      obtain ⟨b, ws, rfl, h2, a2⟩ := r2.tup'
      refine ⟨a, b, vs, ws, rfl, rfl, same_t gh h1, same_t gh h2, by rw [a1.len, a2.len]; exact hc, ?_, ?_, ?_⟩
      · intro z
        subst z
        cases a1
        exact now gh (.tup h2 a2) k
      · intro _ z
        subst z
        cases a2
        rw [List.append_nil] at k
        exact now gh (.tup h1 a1) k
      · intro _ z
        exact new_tup gh (a1.app a2) k
    · cases q
  · cases q
theorem opd_add : OpD K mg (rAdd4 K) dAdd := by
  refine OpD.or (f := fun d e => match d with | .int _ => addI d e | .str _ => addS d e | _ => none) (g := fun d e => match d with | .lst _ => addL d e | .tup _ => addT d e | _ => none) (OpD.or opd_addI opd_addS ?_) (OpD.or opd_addL opd_addT ?_) ?_
  · intro d e z q
    cases d with
    | int i => exact .inl q
    | str i => exact .inr q
    | _ => cases q
  · intro d e z q
    cases d with
    | lst i => exact .inl q
    | tup i => exact .inr q
    | _ => cases q
  · intro d e z q
    cases d with
    | int i => exact .inl q
    | str i => exact .inl q
    | lst i => exact .inr q
    | tup i => exact .inr q
    | _ => cases q
end
/-- - of ints and of bools -/
def dSub (d e : D) : Option D := match d, e with
  | .int a, .int b => some (.int (a - b))
  | .bl a, .bl b => some (.int (b2i a - b2i b))
  | _, _ => none
theorem gives_sub_bool (a b : Bool) : Gives (Builtin.«int.__sub__» ⟨[.bool a, .bool b], []⟩) (.int (b2i a - b2i b)) := by
  cases a <;> cases b <;> exact AutoIntG9.int___sub___int_int_0 _ 0 _ 0
def rSub2 : R2 := fun x y H Q => (rI0 fun i j => .int (i - j)) x y H Q ∨ (∃ a b, x = .bl a ∧ y = .bl b ∧ Q (.int (b2i a - b2i b)) H)
theorem sub_bl {prog : Program} {w : World} {A : Around} {E : Value → Shared → Prop} {s : Shared} {a b : Bool} {Q : Value → Shared → Prop} (h : Q (.int (b2i a - b2i b) s.toks) { s with toks := s.toks + 1 }) : wpAny (model prog w) A (binaryOp .Sub (.bool a) (.bool b)) Q E s :=
  binaryOp_gives (op := .Sub) (T := "bool") rfl rfl F.fills_bool_sub F.slot_bool_sub F.entry_int_sub (F.args_int_sub_2 _ _) (gives_sub_bool a b) trivial h
theorem op_sub2 {X : Cx} : OpR X (binaryOp .Sub) rSub2 := by
  refine OpR.or op_sub ?_
  intro pins s σ H x y v u Q I rx ry h
  obtain ⟨a, b, rfl, rfl, q⟩ := h
  cases rx
  cases ry
  exact sub_bl ⟨.int (b2i a - b2i b), H, I.tok _, ⟨_, rfl⟩, q⟩
section
variable {K : PySem.W.Frag} {mg : Str → Option Value}
theorem opd_sub : OpD K mg rSub2 dSub := fun G H x y d e z gh r1 r2 q Q k => by
  unfold dSub at q
  split at q
  · cases q
    exact .inl ⟨_, _, r1.int', r2.int', now gh (.int _) k⟩
  · cases q
    exact .inr ⟨_, _, r1.bl', r2.bl', now gh (.int _) k⟩
  · cases q
end
/-- * of ints (not too great), of a list and an int -/
def bits (i : Int) : Nat := i.natAbs.log2
def dMul (d e : D) : Option D := match d, e with
  | .int a, .int b => if bits a + bits b < 1000000 then some (.int (a * b)) else none
  | .lst a, .int b => if -(2 ^ 62) ≤ b ∧ b < 2 ^ 62 ∧ a.length * b.toNat ≤ sizeLine then some (.lst (List.replicate b.toNat a).flatten) else none
  | _, _ => none
def rMul2 : R2 := fun x y H Q => (rI CMulW fun i j => .int (i * j)) x y H Q ∨ rRep x y H Q
theorem op_mul2 {X : Cx} : OpR X (binaryOp .Mult) rMul2 := OpR.or op_mulW op_rep
section
variable {K : PySem.W.Frag} {mg : Str → Option Value}
theorem opd_mul : OpD K mg rMul2 dMul := fun G H x y d e z gh r1 r2 q Q k => by
  unfold dMul at q
  split at q
  · split at q
    · cases q
      exact .inl ⟨_, _, r1.int', r2.int', by assumption, now gh (.int _) k⟩
    · cases q
  · split at q
    · rename_i hc
      cases q
      obtain ⟨a, vs, rfl, h1, a1⟩ := r1.lst'
      exact .inr ⟨a, _, vs, rfl, r2.int', gh _ _ h1, by omega, by omega, by rw [a1.len]; exact hc.2.2, new_lst gh (a1.rep _) k⟩
    · cases q
  · cases q
end
def CDivD (_ j : Int) : Prop := j ≠ 0 ∧ bits j < 9000
theorem op_fdivD {X : Cx} : OpR X (binaryOp .FloorDiv) (rI CDivD fun i j => .int (i.fdiv j)) := opI fun _ _ _ _ _ _ _ hc q => floordiv_int hc.1 q (.inl (PyProof.noPylong_of_log2 hc.2))
def dDiv (d e : D) : Option D := match d, e with
  | .int a, .int b => if b ≠ 0 ∧ bits b < 9000 then some (.int (a.fdiv b)) else none
  | _, _ => none
def dMod (d e : D) : Option D := match d, e with
  | .int a, .int b => if b ≠ 0 then some (.int (a.fmod b)) else none
  | _, _ => none
def dPow (d e : D) : Option D := match d, e with
  | .int a, .int b => if 0 ≤ b ∧ b ≤ 1000000 ∧ a.natAbs < 2 ^ 64 then some (.int (a ^ b.toNat)) else none
  | _, _ => none
section
variable {K : PySem.W.Frag} {mg : Str → Option Value}
theorem opd_I {C : Int → Int → Prop} {g : Int → Int → Int} {op : D → D → Option D} (h : ∀ d e z, op d e = some z → ∃ a b, d = .int a ∧ e = .int b ∧ C a b ∧ z = .int (g a b)) : OpD K mg (rI C fun i j => .int (g i j)) op := fun G H x y d e z gh r1 r2 q Q k => by
  obtain ⟨a, b, rfl, rfl, c, rfl⟩ := h d e z q
  exact ⟨a, b, r1.int', r2.int', c, now gh (.int _) k⟩
theorem opd_div : OpD K mg (rI CDivD fun i j => .int (i.fdiv j)) dDiv := opd_I fun d e z q => by
  unfold dDiv at q
  split at q
  · split at q
    · cases q
      exact ⟨_, _, rfl, rfl, by assumption, rfl⟩
    · cases q
  · cases q
theorem opd_mod : OpD K mg (rI (fun _ j => j ≠ 0) fun i j => .int (i.fmod j)) dMod := opd_I fun d e z q => by
  unfold dMod at q
  split at q
  · split at q
    · cases q
      exact ⟨_, _, rfl, rfl, by assumption, rfl⟩
    · cases q
  · cases q
theorem opd_pow : OpD K mg (rI CPow fun i j => .int (i ^ j.toNat)) dPow := opd_I fun d e z q => by
  unfold dPow at q
  split at q
  · split at q
    · cases q
      exact ⟨_, _, rfl, rfl, by assumption, rfl⟩
    · cases q
  · cases q
end
def dNeg (d : D) : Option D := match d with
  | .int a => some (.int (-a))
  | _ => none
theorem und_neg {K : PySem.W.Frag} {mg : Str → Option Value} : UnD K mg (rU fun i => .int (-i)) dNeg := fun G H x d z gh r q Q k => by
  unfold dNeg at q
  split at q
  · cases q
    exact ⟨_, r.int', now gh (.int _) k⟩
  · cases q

/-! ### comparisons -/
def dRel (p : Int → Int → Bool) (d e : D) : Option D := match d, e with
  | .int a, .int b => some (.bl (p a b))
  | _, _ => none
theorem opd_rel {K : PySem.W.Frag} {mg : Str → Option Value} {p : Int → Int → Bool} : OpD K mg (rI0 fun i j => .bl (p i j)) (dRel p) := fun G H x y d e z gh r1 r2 q Q k => by
  unfold dRel at q
  split at q
  · cases q
    exact ⟨_, _, r1.int', r2.int', now gh (.bl _) k⟩
  · cases q
abbrev dLt := dRel fun i j => decide (i < j)
abbrev dLe := dRel fun i j => decide (i ≤ j)
abbrev dGt := dRel fun i j => decide (j < i)
abbrev dGe := dRel fun i j => decide (j ≤ i)
mutual
def D.py : D → PyData
  | .non => .none
  | .bl b => .bool b
  | .int i => .int i
  | .str s => .str s
  | .tup xs => .tuple (pyL xs)
  | .lst xs => .list (pyL xs)
  | .scr xs => .list (pyL xs)
  | .ins _ _ => .none
def pyL : List D → List PyData
  | [] => []
  | x :: xs => D.py x :: pyL xs
end
/-- data that == may be asked of, no deeper than n -/
def D.ok : Nat → D → Bool
  | _, .non => true
  | _, .bl _ => true
  | _, .int _ => true
  | _, .str s => PyData.strOk s
  | n + 1, .tup xs => xs.all (D.ok n)
  | n + 1, .lst xs => xs.all (D.ok n)
  | n + 1, .scr xs => xs.all (D.ok n)
  | _, _ => false
theorem pyL_lay {n : Nat} (ih : ∀ d : D, D.ok n d = true → d.py.canLay0 = true ∧ d.py.depth ≤ n) : ∀ xs : List D, xs.all (D.ok n) = true → PyData.canLayAll0 (pyL xs) = true ∧ PyData.depthAll (pyL xs) ≤ n
  | [], _ => ⟨rfl, Nat.zero_le _⟩
  | x :: xs, h => by
    rw [List.all_cons, Bool.and_eq_true] at h
    obtain ⟨a1, a2⟩ := ih x h.1
    obtain ⟨b1, b2⟩ := pyL_lay ih xs h.2
    refine ⟨?_, ?_⟩
    · show (PyData.canLay0 x.py && PyData.canLayAll0 (pyL xs)) = true
      rw [a1, b1]; rfl
    · show max x.py.depth (PyData.depthAll (pyL xs)) ≤ n
      omega
theorem D.ok_lay : ∀ (n : Nat) (d : D), D.ok n d = true → d.py.canLay0 = true ∧ d.py.depth ≤ n
  | n, .non, _ => ⟨rfl, Nat.zero_le _⟩
  | n, .bl _, _ => ⟨rfl, Nat.zero_le _⟩
  | n, .int _, _ => ⟨rfl, Nat.zero_le _⟩
  | n, .str s, h => ⟨by cases n <;> exact h, Nat.zero_le _⟩
  | 0, .tup _, h => nomatch h
  | 0, .lst _, h => nomatch h
  | 0, .scr _, h => nomatch h
  | 0, .ins _ _, h => nomatch h
  | n + 1, .ins _ _, h => nomatch h
  | n + 1, .tup xs, h => by
    obtain ⟨a, b⟩ := pyL_lay (D.ok_lay n) xs h
    exact ⟨a, by show PyData.depthAll (pyL xs) + 1 ≤ n + 1; omega⟩
  | n + 1, .lst xs, h => by
    obtain ⟨a, b⟩ := pyL_lay (D.ok_lay n) xs h
    exact ⟨a, by show PyData.depthAll (pyL xs) + 1 ≤ n + 1; omega⟩
  | n + 1, .scr xs, h => by
    obtain ⟨a, b⟩ := pyL_lay (D.ok_lay n) xs h
    exact ⟨a, by show PyData.depthAll (pyL xs) + 1 ≤ n + 1; omega⟩
theorem D.ok_shaped {d : D} (h : D.ok 60 d = true) : SeqAt.shaped d.py = true := by
  obtain ⟨a, b⟩ := D.ok_lay 60 d h
  unfold SeqAt.shaped
  rw [a, Bool.true_and]
  exact decide_eq_true (by omega)
theorem pyL_dp {K : PySem.W.Frag} {mg : Str → Option Value} {G H : Hp} {n : Nat} (ih : ∀ (d : D) (v : V), D.ok n d = true → Rp K mg G v d → Dp K H v d.py) : ∀ (xs : List D) (vs : List V), xs.all (D.ok n) = true → RpAll K mg G vs xs → DpAll K H vs (pyL xs)
  | [], _, _, .nil => .nil
  | x :: xs, _, h, .cons a b => by
    rw [List.all_cons, Bool.and_eq_true] at h
    exact .cons (ih x _ h.1 a) (pyL_dp ih xs _ h.2 b)
theorem D.dp {K : PySem.W.Frag} {mg : Str → Option Value} {G H : Hp} (gh : Same G H) : ∀ (n : Nat) (d : D) (v : V), D.ok n d = true → Rp K mg G v d → Dp K H v d.py
  | n, .non, v, _, r => by rw [r.non']; exact .non
  | n, .bl b, v, _, r => by rw [r.bl']; exact .bl b
  | n, .int i, v, _, r => by rw [r.int']; exact .int i
  | n, .str s, v, h, r => by rw [r.str']; exact .str s
  | 0, .tup _, _, h, _ => nomatch h
  | 0, .lst _, _, h, _ => nomatch h
  | 0, .scr _, _, h, _ => nomatch h
  | 0, .ins _ _, _, h, _ => nomatch h
  | n + 1, .ins _ _, _, h, _ => nomatch h
  | n + 1, .tup xs, v, h, r => by
    obtain ⟨a, vs, rfl, h1, h2⟩ := r.tup'
    exact .tup (same_t gh h1) (pyL_dp (D.dp gh n) xs vs h h2)
  | n + 1, .lst xs, v, h, r => by
    obtain ⟨a, vs, rfl, h1, h2⟩ := r.lst'
    exact .lst (SqL.of (gh _ _ h1)) (pyL_dp (D.dp gh n) xs vs h h2)
  | n + 1, .scr xs, v, h, r => by
    obtain ⟨a, vs, rfl, h1, h2⟩ := r.scr'
    exact .lst (gh.seq h1) (pyL_dp (D.dp gh n) xs vs h h2)
def D.eqv (d e : D) : Bool := PyData.eqv d.py e.py
def dEq (d e : D) : Option D := if D.ok 60 d = true ∧ D.ok 60 e = true then some (.bl (D.eqv d e)) else none
def dNe (d e : D) : Option D := if D.ok 60 d = true ∧ D.ok 60 e = true then some (.bl (!D.eqv d e)) else none
section
variable {K : PySem.W.Frag} {mg : Str → Option Value}
theorem opd_eq : OpD K mg (rEqD K) dEq := fun G H x y d e z gh r1 r2 q Q k => by
  unfold dEq at q
  split at q
  · rename_i hc
    cases q
    exact ⟨d.py, e.py, D.dp gh 60 d x hc.1 r1, D.dp gh 60 e y hc.2 r2, D.ok_shaped hc.1, D.ok_shaped hc.2, now gh (.bl _) k⟩
  · cases q
theorem opd_ne : OpD K mg (rNeD K) dNe := fun G H x y d e z gh r1 r2 q Q k => by
  unfold dNe at q
  split at q
  · rename_i hc
    cases q
    exact ⟨d.py, e.py, D.dp gh 60 d x hc.1 r1, D.dp gh 60 e y hc.2 r2, D.ok_shaped hc.1, D.ok_shaped hc.2, now gh (.bl _) k⟩
  · cases q
end
/-- is None -/
def isN (d : D) : Bool := match d with
  | .non => true
  | _ => false
def dIsN (d e : D) : Option D := match e with
  | .non => some (.bl (isN d))
  | _ => none
def dNotN (d e : D) : Option D := match e with
  | .non => some (.bl (!isN d))
  | _ => none
section
variable {K : PySem.W.Frag} {mg : Str → Option Value} {G : Hp}
theorem isN_of {x : V} {d : D} (r : Rp K mg G x d) : decide (x = .non) = isN d := by
  cases r <;> rfl
theorem opd_isN : OpD K mg (fun x y H Q => y = .non ∧ Q (.bl (decide (x = .non))) H) dIsN := fun G H x y d e z gh r1 r2 q Q k => by
  unfold dIsN at q
  split at q
  · cases q
    refine ⟨r2.non', ?_⟩
    rw [isN_of r1]
    exact now gh (.bl _) k
  · cases q
theorem opd_notN : OpD K mg (fun x y H Q => y = .non ∧ Q (.bl (!decide (x = .non))) H) dNotN := fun G H x y d e z gh r1 r2 q Q k => by
  unfold dNotN at q
  split at q
  · cases q
    refine ⟨r2.non', ?_⟩
    rw [isN_of r1]
    exact now gh (.bl _) k
  · cases q
end
end VL
/-! The value layer: statements. -/
namespace VL
open PySem PySem.Spec PyProof.Rows L2

/-! ### stores to slots -/
section
variable {K : PySem.W.Frag} {mg : Str → Option Value} {G H : Hp} {σ : L2.St} {δ : Env} {i : Nat}
theorem Sta.setIm {v : V} {d : D} (S : Sta K mg G H σ δ) (r : Rp K mg G v d) : Grow (Ad σ δ) (Ad (σ.set i (some v)) (δ.set i (.im d))) G H G H ∧ Sta K mg G H (σ.set i (some v)) (δ.set i (.im d)) := by
  refine ⟨⟨Same.refl _, fun _ _ _ => rfl, fun _ _ q _ => q, fun _ q => q, fun b ⟨j, w, c', h1, h2, h3⟩ => .inl ?_⟩, ⟨S.gh, by rw [List.length_set, List.length_set]; exact S.len, fun j w c' h1 h2 => ?_, fun j l w x c' e' b h1 h2 h3 h4 h5 h6 => ?_⟩⟩
  · rcases set_get h2 with ⟨_, rfl, _⟩ | ⟨hj, h2⟩
    · rw [adr_im] at h3; cases h3
    · rcases set_get h1 with ⟨hj', _⟩ | ⟨_, h1⟩
      · exact absurd hj' hj
      · exact ⟨j, w, c', h1, h2, h3⟩
  · rcases set_get h2 with ⟨hj, rfl, _⟩ | ⟨hj, h2⟩
    · rcases set_get h1 with ⟨_, rfl, _⟩ | ⟨hj', _⟩
      · exact r
      · exact absurd hj hj'
    · rcases set_get h1 with ⟨hj', _⟩ | ⟨_, h1⟩
      · exact absurd hj' hj
      · exact S.at_ j w c' h1 h2
  · rcases set_get h2 with ⟨_, rfl, _⟩ | ⟨hj, h2⟩
    · rw [adr_im] at h5; cases h5
    · rcases set_get h4 with ⟨_, rfl, _⟩ | ⟨hl, h4⟩
      · rw [adr_im] at h6; cases h6
      · rcases set_get h1 with ⟨hj', _⟩ | ⟨_, h1⟩
        · exact absurd hj' hj
        · rcases set_get h3 with ⟨hl', _⟩ | ⟨_, h3⟩
          · exact absurd hl' hl
          · exact S.dis j l w x c' e' b h1 h2 h3 h4 h5 h6
/-- a new object that the slot alone holds -/
theorem Sta.setOwn {a : Addr} {c : Cell} (S : Sta K mg G H σ δ) (r : CellR K mg G H (some (.ref a)) c) (ha : adr (some (.ref a)) c = some a) (hn : ¬ Ad σ δ a) (A0 : Addr → Prop) (G0 H0 : Hp) (g0 : Grow A0 (Ad σ δ) G0 H0 G H) (hf : H0 a = none) :
    Grow A0 (Ad (σ.set i (some (.ref a))) (δ.set i c)) G0 H0 G H ∧ Sta K mg G H (σ.set i (some (.ref a))) (δ.set i c) := by
  refine ⟨⟨g0.gg, g0.fresh, g0.keep, g0.there, fun b ⟨j, w, c', h1, h2, h3⟩ => ?_⟩, ⟨S.gh, by rw [List.length_set, List.length_set]; exact S.len, fun j w c' h1 h2 => ?_, fun j l w x c' e' b h1 h2 h3 h4 h5 h6 => ?_⟩⟩
  · rcases set_get h2 with ⟨hj, rfl, _⟩ | ⟨hj, h2⟩
    · rcases set_get h1 with ⟨_, rfl, _⟩ | ⟨hj', _⟩
      · rw [ha] at h3; cases h3; exact .inr hf
      · exact absurd hj hj'
    · rcases set_get h1 with ⟨hj', _⟩ | ⟨_, h1⟩
      · exact absurd hj' hj
      · exact g0.new b ⟨j, w, c', h1, h2, h3⟩
  · rcases set_get h2 with ⟨hj, rfl, _⟩ | ⟨hj, h2⟩
    · rcases set_get h1 with ⟨_, rfl, _⟩ | ⟨hj', _⟩
      · exact r
      · exact absurd hj hj'
    · rcases set_get h1 with ⟨hj', _⟩ | ⟨_, h1⟩
      · exact absurd hj' hj
      · exact S.at_ j w c' h1 h2
  · rcases set_get h2 with ⟨hj, rfl, _⟩ | ⟨hj, h2⟩
    · rcases set_get h1 with ⟨_, rfl, _⟩ | ⟨hj', _⟩
      · rw [ha] at h5
        cases h5
        rcases set_get h4 with ⟨hl, rfl, _⟩ | ⟨hl, h4⟩
        · rw [hj, hl]
        · rcases set_get h3 with ⟨hl', _⟩ | ⟨_, h3⟩
          · exact absurd hl' hl
          · exact absurd ⟨l, x, e', h3, h4, h6⟩ hn
      · exact absurd hj hj'
    · rcases set_get h1 with ⟨hj', _⟩ | ⟨_, h1⟩
      · exact absurd hj' hj
      · rcases set_get h4 with ⟨hl, he, _⟩ | ⟨hl, h4⟩
        · rcases set_get h3 with ⟨_, hx, _⟩ | ⟨hl', _⟩
          · rw [he, hx, ha] at h6
            cases h6
            exact absurd ⟨j, w, c', h1, h2, h5⟩ hn
          · exact absurd hl hl'
        · rcases set_get h3 with ⟨hl', _⟩ | ⟨_, h3⟩
          · exact absurd hl' hl
          · exact S.dis j l w x c' e' b h1 h2 h3 h4 h5 h6
/-- the slot's own object is turned -/
theorem Sta.turn {a : Addr} {v : Option V} {c c' : Cell} {o : HO} (S : Sta K mg G H σ δ) (hv : σ[i]? = some v) (e : δ[i]? = some c) (ha : adr v c = some a) (ha' : adr v c' = some a) (r : CellR K mg G (upd H a o) v c') :
    Grow (Ad σ δ) (Ad σ (δ.set i c')) G H G (upd H a o) ∧ Sta K mg G (upd H a o) σ (δ.set i c') := by
  obtain ⟨q1, ga⟩ := (S.at_ i v c hv e).there ha
  have hA : Ad σ δ a := ⟨i, v, c, hv, e, ha⟩
  refine ⟨⟨Same.refl _, fun _ _ _ => rfl, fun b u q n => by rw [upd_ne (fun z => n (by rw [z]; exact hA))]; exact q, fun b q => ?_, fun b ⟨j, w, c1, h1, h2, h3⟩ => .inl ?_⟩, ⟨fun b u q => ?_, by rw [List.length_set]; exact S.len, fun j w c1 h1 h2 => ?_, fun j l w x c1 e1 b h1 h2 h3 h4 h5 h6 => ?_⟩⟩
  · by_cases z : b = a
    · rw [z, upd_same]; exact fun z => nomatch z
    · rw [upd_ne z]; exact q
  · rcases set_get h2 with ⟨hj, rfl, _⟩ | ⟨hj, h2⟩
    · rw [hj, hv] at h1; cases h1; rw [ha'] at h3; cases h3; exact hA
    · exact ⟨j, w, c1, h1, h2, h3⟩
  · have : b ≠ a := fun z => by rw [z, ga] at q; cases q
    rw [upd_ne this]; exact S.gh b u q
  · rcases set_get h2 with ⟨hj, rfl, _⟩ | ⟨hj, h2⟩
    · rw [hj, hv] at h1; cases h1; exact r
    · refine (S.at_ j w c1 h1 h2).grow (Same.refl _) fun b q => ⟨((S.at_ j w c1 h1 h2).there q).2, fun u z => ?_⟩
      have : b ≠ a := fun z => hj (S.dis j i w v c1 c a h1 h2 hv e (by rw [← z]; exact q) ha)
      rw [upd_ne this]; exact z
  · rcases set_get h2 with ⟨hj, rfl, _⟩ | ⟨hj, h2⟩
    · rw [hj, hv] at h1
      cases h1
      rw [ha'] at h5
      cases h5
      rcases set_get h4 with ⟨hl, rfl, _⟩ | ⟨hl, h4⟩
      · rw [hj, hl]
      · exact absurd (S.dis l i x v e1 c a h3 h4 hv e h6 ha) hl
    · rcases set_get h4 with ⟨hl, he, _⟩ | ⟨hl, h4⟩
      · rw [hl, hv] at h3
        cases h3
        rw [he, ha'] at h6
        cases h6
        exact absurd (S.dis j i w v c1 c a h1 h2 hv e h5 ha) hj
      · exact S.dis j l w x c1 e1 b h1 h2 h3 h4 h5 h6
end
theorem set_other {α : Type} {l : List α} {i j : Nat} {x : α} (h : j ≠ i) : (l.set i x)[j]? = l[j]? := List.getElem?_set_ne fun z => h z.symm

/-! ### statements as mirrors -/
def gSeq (g h : SF) : SF := fun δ => match g δ with
  | .nx δ' => h δ'
  | .rt d δ' => .rt d δ'
  | .rn d δ' => .rn d δ'
  | .bk δ' => .bk δ'
  | .ct δ' => .ct δ'
  | .ex x δ' => .ex x δ'
  | .un => .un
def gNext : SF := fun δ => .nx δ
def gOf {α : Type} (m : M α) (k : α → SF) : SF := fun δ => match m δ with
  | .ok a δ' => k a δ'
  | .ex x δ' => .ex x δ'
  | .un => .un
theorem gOf_ok {α : Type} {m : M α} {k : α → SF} {δ δ' : Env} {a : α} (e : m δ = .ok a δ') : gOf m k δ = k a δ' := by unfold gOf; rw [e]
theorem gOf_ex {α : Type} {m : M α} {k : α → SF} {δ δ' : Env} {x : Exc} (e : m δ = .ex x δ') : gOf m k δ = .ex x δ' := by unfold gOf; rw [e]
theorem gOf_un {α : Type} {m : M α} {k : α → SF} {δ : Env} (e : m δ = .un) : gOf m k δ = .un := by unfold gOf; rw [e]
section
variable {K : PySem.W.Frag} {mg : Str → Option Value} {W : Option WX} {P : List Nat}
theorem SV.of {α β : Type} {RA : RRel β α} {ta : L2.St → Hp → (β → Hp → Prop) → Prop} {t : β → TS} {m : M α} {k : α → SF} (ha : Ev K mg RA W P ta m)
    (hk : ∀ (G H : Hp) (σ : L2.St) (δ : Env) (x : β) (a : α), Sta K mg G H σ δ → RA σ δ G H x a → ∀ Z : Ends, SPst K mg W P G H σ δ (k a δ) Z → t x Z σ H) : SV K mg W P (fun Z σ H => ta σ H fun x H1 => t x Z σ H1) (gOf m k) := by
  intro G H σ δ S Z h
  refine ha G H σ δ S _ ?_
  cases e : m δ with
  | ok a δ' =>
    rw [gOf_ok e] at h
    exact fun b G' H' gr st rr => hk G' H' σ δ' b a st rr Z (SPst.shift h gr fun _ _ => rfl)
  | ex x δ' => rw [gOf_ex e] at h; exact h
  | un => rw [gOf_un e] at h; exact h
theorem SV.seq {t u : TS} {g h : SF} (h1 : SV K mg W P t g) (h2 : SV K mg W P u h) : SV K mg W P (tSeq t u) (gSeq g h) := by
  intro G H σ δ S Z q
  refine h1 G H σ δ S _ ?_
  unfold gSeq at q
  cases e : g δ with
  | nx δ' => rw [e] at q; exact fun σ' G' H' gr st kp => h2 G' H' σ' δ' st Z (SPst.shift q gr kp)
  | rt d δ' => rw [e] at q; exact q
  | rn d δ' => rw [e] at q; exact q
  | bk δ' => rw [e] at q; exact q
  | ct δ' => rw [e] at q; exact q
  | ex x δ' => rw [e] at q; exact q
  | un => rw [e] at q; exact q
theorem SV.next : SV K mg W P tNext gNext := fun G H σ δ S Z q => q σ G H Grow.refl S fun _ _ => rfl
end

section
variable {X : Cx} {W : Option WX} {P : List Nat} {pos : Pos}
theorem b_nil : B_ X W P [] gNext := ⟨_, pss_nil, SV.next⟩
theorem b_cons {st : Stmt} {rest : List Stmt} {g h : SF} (h1 : S_ X W P st g) (h2 : B_ X W P rest h) : B_ X W P (st :: rest) (gSeq g h) := by
  obtain ⟨t, p, q⟩ := h1
  obtain ⟨u, p', q'⟩ := h2
  exact ⟨_, pss_cons p p', q.seq q'⟩
theorem b_one {st : Stmt} {g : SF} (h1 : S_ X W P st g) : B_ X W P [st] g := by
  obtain ⟨t, p, q⟩ := h1
  exact ⟨_, pss_one p, q⟩
theorem s_pass : S_ X W P (.Pass pos) gNext := ⟨_, ps_pass, SV.next⟩
def gBreak : SF := fun δ => .bk δ
def gCont : SF := fun δ => .ct δ
theorem s_break : S_ X W P (.Break pos) gBreak := ⟨_, ps_break, fun G H σ δ S Z q => q σ G H Grow.refl S fun _ _ => rfl⟩
theorem s_continue : S_ X W P (.Continue pos) gCont := ⟨_, ps_continue, fun G H σ δ S Z q => q σ G H Grow.refl S fun _ _ => rfl⟩
theorem s_doc {x j pos'} : S_ X W P (.Expr (.Constant (.str x) j pos) pos') gNext := ⟨_, ps_doc, SV.next⟩
/-- x = e -/
def gSet (i : Nat) (m : M D) : SF := gOf m fun d δ => .nx (δ.set i (.im d))
theorem sv_set {K : PySem.W.Frag} {mg : Str → Option Value} {te : TE} {m : M D} {i : Nat} (he : Ev K mg (RD K mg) W P te m) (hP : i ∉ P) : SV K mg W P (tAsg te (gName i)) (gSet i m) :=
  SV.of he fun G H σ δ x d S r Z h => by
    obtain ⟨g1, s1⟩ := S.setIm (i := i) r
    exact h _ _ _ g1 s1 fun j hj => set_other fun z => hP (by rw [← z]; exact hj)
theorem s_set (i : Nat) {x : Str} {e : Expr} {m : M D} {pos' : Pos} (he : E_ X W P e m) (hN : X.N.Nodup) (hP : i ∉ P := by decide) (hi : X.N[i]? = some x := by rfl) (hx : Loc X.env.scope x := by first | exact Or.inl rfl | exact Or.inr rfl) (hs : swapsWith e (some (.Name x pos')) pos.line X.env = pure false := by rfl)
    (hf : X.fn x = true ∨ X.env.scope.names.lookup x = some .local := by first | exact .inl rfl | exact .inr rfl) : S_ X W P (.Assign [.Name x pos'] e pos) (gSet i m) := by
  obtain ⟨te, p, q⟩ := he
  exact ⟨_, ps_set hN hi hx p hs hf, sv_set q hP⟩
/-- a new list: nothing else holds it -/
def RN (K : PySem.W.Frag) (mg : Str → Option Value) : RRel V (List D) := fun σ δ G H v xs => ∃ a vs, v = .ref a ∧ G a = none ∧ H a = some (.lst vs) ∧ RpAll K mg G vs xs ∧ ¬ Ad σ δ a
/-- .. made since H0 -/
def EvN (K : PySem.W.Frag) (mg : Str → Option Value) (W : Option WX) (P : List Nat) (t : TE) (f : M (List D)) : Prop :=
  ∀ (G H : Hp) (σ : L2.St) (δ : Env), Sta K mg G H σ δ → ∀ Q : VK, (match f δ with
    | .ok xs δ' => ∀ (a : Addr) (vs : List V) (G' H' : Hp), Grow (Ad σ δ) (Ad σ δ') G H G' H' → Sta K mg G' H' σ δ' → H a = none → G' a = none → ¬ Ad σ δ' a → H' a = some (.lst vs) → RpAll K mg G' vs xs → Q (.ref a) H'
    | .ex x δ' => XP K mg W P G H σ δ x δ'
    | .un => False) → t σ H Q
def N_ (X : Cx) (W : Option WX) (P : List Nat) (e : Expr) (f : M (List D)) : Prop := ∃ te, PE X e te ∧ EvN X.K X.mg W P te f
def asL (m : M (List D)) : M D := M.bind m fun xs => M.ret (.lst xs)
theorem EvN.ev {K : PySem.W.Frag} {mg : Str → Option Value} {t : TE} {f : M (List D)} (h : EvN K mg W P t f) : Ev K mg (RD K mg) W P t (asL f) := by
  intro G H σ δ S Q q
  refine h G H σ δ S Q ?_
  cases e : f δ with
  | ok xs δ' =>
    have q : Pst K mg (RD K mg) W P G H σ δ (.ok (.lst xs) δ') Q := by rw [← show asL f δ = .ok (.lst xs) δ' from M.bind_ok e]; exact q
    intro a vs G' H' gr st hf ga hn h1 h2
    have gg : Same G' (upd G' a (.lst vs)) := fun b u z => by
      have : b ≠ a := fun y => by rw [y, ga] at z; cases z
      rw [upd_ne this]; exact z
    have st' : Sta K mg (upd G' a (.lst vs)) H' σ δ' := ⟨fun b u z => by
        by_cases y : b = a
        · rw [y, upd_same] at z; rw [y, ← z]; exact h1
        · rw [upd_ne y] at z; exact st.gh b u z, st.len, fun j w c x1 x2 => (st.at_ j w c x1 x2).grow gg fun b y => by
          obtain ⟨_, q2⟩ := (st.at_ j w c x1 x2).there y
          have : b ≠ a := fun z => hn ⟨j, w, c, x1, x2, by rw [← z]; exact y⟩
          exact ⟨by rw [upd_ne this]; exact q2, fun _ z => z⟩, st.dis⟩
    refine q (.ref a) (upd G' a (.lst vs)) H' ⟨gr.gg.trans gg, fun b hb n => ?_, gr.keep, gr.there, gr.new⟩ st' (.lst upd_same (h2.mono gg))
    rw [upd_ne (fun z => hb (by rw [z]; exact hf))]
    exact gr.fresh b hb n
  | ex x δ' => rw [show asL f δ = .ex x δ' from M.bind_ex e] at q; exact q
  | un => rw [show asL f δ = .un from M.bind_un e] at q; exact q
theorem N_.e {e : Expr} {f : M (List D)} (h : N_ X W P e f) : E_ X W P e (asL f) := by
  obtain ⟨t, p, q⟩ := h
  exact ⟨t, p, q.ev⟩
def gSetM (i : Nat) (m : M (List D)) : SF := gOf m fun xs δ => .nx (δ.set i (.ml xs))
theorem sv_setM {K : PySem.W.Frag} {mg : Str → Option Value} {te : TE} {m : M (List D)} {i : Nat} (he : EvN K mg W P te m) (hP : i ∉ P) : SV K mg W P (tAsg te (gName i)) (gSetM i m) := by
  intro G H σ δ S Z h
  refine he G H σ δ S _ ?_
  unfold gSetM at h
  cases e : m δ with
  | ok xs δ' =>
    rw [gOf_ok e] at h
    intro a vs G' H' gr st hf ga hn h1 h2
    obtain ⟨g1, s1⟩ := st.setOwn (i := i) (c := .ml xs) (a := a) ⟨ga, vs, h1, h2⟩ rfl hn _ _ _ gr hf
    exact h _ _ _ g1 s1 fun j hj => set_other fun z => hP (by rw [← z]; exact hj)
  | ex x δ' => rw [gOf_ex e] at h; exact h
  | un => rw [gOf_un e] at h; exact h
theorem s_setM (i : Nat) {x : Str} {e : Expr} {m : M (List D)} {pos' : Pos} (he : N_ X W P e m) (hN : X.N.Nodup) (hP : i ∉ P := by decide) (hi : X.N[i]? = some x := by rfl) (hx : Loc X.env.scope x := by first | exact Or.inl rfl | exact Or.inr rfl) (hs : swapsWith e (some (.Name x pos')) pos.line X.env = pure false := by rfl)
    (hf : X.fn x = true ∨ X.env.scope.names.lookup x = some .local := by first | exact .inl rfl | exact .inr rfl) : S_ X W P (.Assign [.Name x pos'] e pos) (gSetM i m) := by
  obtain ⟨te, p, q⟩ := he
  exact ⟨_, ps_set hN hi hx p hs hf, sv_setM q hP⟩
/-- return e -/
def gRet (m : M D) : SF := gOf m fun d δ => .rt d δ
theorem s_ret {e : Expr} {m : M D} (he : E_ X W P e m) : S_ X W P (.Return (some e) pos) (gRet m) := by
  obtain ⟨te, p, q⟩ := he
  exact ⟨_, ps_ret p, SV.of (t := fun x Z σ H => Z.rt x H) q fun G H σ δ x d S r Z h => h x σ G H Grow.refl S (fun _ _ => rfl) r⟩
theorem s_retN : S_ X W P (.Return none pos) (gRet (eC .non)) := ⟨_, ps_retN, fun G H σ δ S Z h => h .non σ G H Grow.refl S (fun _ _ => rfl) .non⟩
/-- e as a statement -/
def gExpr (m : M D) : SF := gOf m fun _ δ => .nx δ
theorem s_expr {e : Expr} {m : M D} (he : E_ X W P e m) (hs : swapsWith e none pos.line X.env = pure false := by rfl) : S_ X W P (.Expr e pos) (gExpr m) := by
  obtain ⟨te, p, q⟩ := he
  exact ⟨_, ps_expr p hs, SV.of (t := fun x Z σ H => Z.nx σ H) q fun G H σ δ x d S r Z h => h σ G H Grow.refl S fun _ _ => rfl⟩
/-- if -/
def gIf (t : M Bool) (g h : SF) : SF := gOf t fun b => if b = true then g else h
theorem s_if {c : Expr} {a b : List Stmt} {t : M Bool} {g h : SF} (hc : T_ X W P c t) (ha : B_ X W P a g) (hb : B_ X W P b h) : S_ X W P (.If c a b pos) (gIf t g h) := by
  obtain ⟨tt, p, q⟩ := hc
  obtain ⟨t1, p1, q1⟩ := ha
  obtain ⟨t2, p2, q2⟩ := hb
  refine ⟨_, ps_if p p1 p2, SV.of (t := fun b Z σ H => if b = true then t1 Z σ H else t2 Z σ H) q fun G H σ δ x d S r Z h => ?_⟩
  cases r
  cases x with
  | true => exact q1 G H σ δ S Z h
  | false => exact q2 G H σ δ S Z h
end

theorem origin {A A' : Addr → Prop} {G H G' H' : Hp} {a : Addr} (g : Grow A A' G H G' H') (h : A' a ∨ H' a = none) : A a ∨ H a = none := by
  rcases h with z | z
  · exact g.new a z
  · right
    cases q : H a with
    | none => rfl
    | some o => exact absurd z (g.there a (by rw [q]; exact fun y => nomatch y))
/-- return of what a slot alone holds, or of a new list: it stays one that nothing else holds -/
def gRetM (i : Nat) : SF := fun δ => match δ[i]? with
  | some (.ml xs) => .rn xs (δ.set i .un)
  | _ => .un
def gRetNew (m : M (List D)) : SF := fun δ => match m δ with
  | .ok xs δ' => .rn xs δ'
  | .ex x δ' => .ex x δ'
  | .un => .un
section
variable {X : Cx} {W : Option WX} {P : List Nat} {pos : Pos}
theorem s_retNew {e : Expr} {m : M (List D)} (he : N_ X W P e m) : S_ X W P (.Return (some e) pos) (gRetNew m) := by
  obtain ⟨te, p, q⟩ := he
  refine ⟨_, ps_ret p, fun G H σ δ S Z h => q G H σ δ S _ ?_⟩
  unfold gRetNew at h
  cases e1 : m δ with
  | un => rw [e1] at h; exact h
  | ex x δ' => rw [e1] at h; exact h
  | ok xs δ' =>
    rw [e1] at h
    exact fun a vs G' H' gr st hf ga hn h1 h2 => h a vs σ G' H' gr st (fun _ _ => rfl) ga h1 h2 hn (.inr hf)
theorem Sta.drop {K : PySem.W.Frag} {mg : Str → Option Value} {G H : Hp} {σ : L2.St} {δ : Env} {i : Nat} (S : Sta K mg G H σ δ) : Sta K mg G H σ (δ.set i .un) where
  gh := S.gh
  len := by rw [List.length_set]; exact S.len
  at_ := fun j v c h1 h2 => by
    rcases set_get h2 with ⟨_, rfl, _⟩ | ⟨_, h2⟩
    · cases v <;> trivial
    · exact S.at_ j v c h1 h2
  dis := fun j l v w c e a h1 h2 h3 h4 h5 h6 => by
    rcases set_get h2 with ⟨_, rfl, _⟩ | ⟨_, h2⟩
    · rw [adr_un] at h5; cases h5
    · rcases set_get h4 with ⟨_, rfl, _⟩ | ⟨_, h4⟩
      · rw [adr_un] at h6; cases h6
      · exact S.dis j l v w c e a h1 h2 h3 h4 h5 h6
theorem s_retM (i : Nat) {x : Str} {px : Pos} (hN : X.N[i]? = some x := by rfl) (hv : Vis X.env.scope x := by first | exact Or.inl rfl | exact Or.inr (Or.inl rfl) | exact Or.inr (Or.inr rfl)) (hd : (x == ("__debug__" : Str)) = false := by decide)
    (hcd : (x == ("__classdict__" : Str)) = false := by decide) : S_ X W P (.Return (some (.Name x px)) pos) (gRetM i) := by
  refine ⟨_, ps_ret (pe_var hN hv hd hcd), fun G H σ δ S Z h => ?_⟩
  unfold gRetM at h
  cases e : δ[i]? with
  | none => simp only [e] at h; exact h.elim
  | some c =>
    cases c with
    | ml xs =>
      simp only [e] at h
      obtain ⟨w, hw, r⟩ := S.slot e
      obtain ⟨a, vs, rfl, g, h1, h2⟩ := r.ml'
      have ad : ∀ b, Ad σ (δ.set i .un) b → Ad σ δ b ∧ b ≠ a := fun b ⟨j, v, c, k1, k2, k3⟩ => by
        rcases set_get k2 with ⟨_, rfl, _⟩ | ⟨hj, k2⟩
        · rw [adr_un] at k3; cases k3
        · exact ⟨⟨j, v, c, k1, k2, k3⟩, fun z => hj (S.dis j i v _ c _ b k1 k2 hw e k3 (by rw [z]; rfl))⟩
      exact ⟨_, hw, h a vs σ G H ⟨Same.refl _, fun _ _ _ => rfl, fun _ _ q _ => q, fun _ q => q, fun b hb => .inl (ad b hb).1⟩ S.drop (fun _ _ => rfl) g h1 h2 (fun z => (ad a z).2 rfl) (.inl ⟨i, _, _, hw, e, rfl⟩)⟩
    | _ => simp only [e] at h; exact h.elim
end
/-! ### while -/
def gWhileF (t : M Bool) (b : SF) : Nat → SF
  | 0 => fun _ => .un
  | n + 1 => gIf t (fun δ => match b δ with
      | .nx δ' => gWhileF t b n δ'
      | .ct δ' => gWhileF t b n δ'
      | .bk δ' => .nx δ'
      | .rt d δ' => .rt d δ'
      | .rn d δ' => .rn d δ'
      | .ex x δ' => .ex x δ'
      | .un => .un) gNext
/-- fuel: how many turns at most, told by the slots ahead of the loop -/
def gWhile (fuel : Env → Nat) (t : M Bool) (b : SF) : SF := fun δ => gWhileF t b (fuel δ) δ
section
variable {X : Cx} {W : Option WX} {P : List Nat} {pos : Pos}
theorem sv_while {K : PySem.W.Frag} {mg : Str → Option Value} {tt : TT} {tb : TS} {t : M Bool} {b : SF} {fuel : Env → Nat} (hc : Ev K mg EqB W P tt t) (hb : SV K mg W P tb b) : SV K mg W P (tWhile tt tb) (gWhile fuel t b) := by
  intro G H σ δ S Z h
  refine ⟨fun m σ' H' => ∃ G' δ', Grow (Ad σ δ) (Ad σ' δ') G H G' H' ∧ Sta K mg G' H' σ' δ' ∧ (∀ i ∈ P, σ'[i]? = σ[i]?) ∧ SPst K mg W P G H σ δ (gWhileF t b m δ') Z, ⟨fuel δ, G, δ, Grow.refl, S, fun _ _ => rfl, h⟩, ?_⟩
  rintro m σ1 H1 ⟨G1, δ1, g1, s1, k1, q1⟩
  cases m with
  | zero => exact q1.elim
  | succ m =>
    refine hc G1 H1 σ1 δ1 s1 _ ?_
    unfold gWhileF gIf at q1
    cases e : t δ1 with
    | un => rw [gOf_un e] at q1; exact q1
    | ex x δ2 => rw [gOf_ex e] at q1; exact XP.shift (show XP K mg W P G H σ δ x δ2 from q1) g1 k1
    | ok c δ2 =>
      rw [gOf_ok e] at q1
      rintro c' G2 H2 g2 s2 rfl
      cases c' with
      | false => exact q1 σ1 G2 H2 (g1.trans g2) s2 k1
      | true =>
        have q1 : SPst K mg W P G H σ δ (match b δ2 with
          | .nx δ' => gWhileF t b m δ'
          | .ct δ' => gWhileF t b m δ'
          | .bk δ' => .nx δ'
          | .rt d δ' => .rt d δ'
          | .rn d δ' => .rn d δ'
          | .ex x δ' => .ex x δ'
          | .un => .un) Z := q1
        refine ⟨fun σ' H' => ∃ G' δ', Grow (Ad σ δ) (Ad σ' δ') G H G' H' ∧ Sta K mg G' H' σ' δ' ∧ (∀ i ∈ P, σ'[i]? = σ[i]?) ∧ SPst K mg W P G H σ δ (gWhileF t b m δ') Z, fun σ' H' w => ⟨m, Nat.lt_succ_self m, w⟩, ?_⟩
        refine hb G2 H2 σ1 δ2 s2 _ ?_
        cases e2 : b δ2 with
        | nx δ3 => rw [e2] at q1; exact fun σ' G' H' gr st kp => ⟨G', δ3, (g1.trans g2).trans gr, st, fun i hi => (kp i hi).trans (k1 i hi), q1⟩
        | ct δ3 => rw [e2] at q1; exact fun σ' G' H' gr st kp => ⟨G', δ3, (g1.trans g2).trans gr, st, fun i hi => (kp i hi).trans (k1 i hi), q1⟩
        | bk δ3 => rw [e2] at q1; exact fun σ' G' H' gr st kp => q1 σ' G' H' ((g1.trans g2).trans gr) st fun i hi => (kp i hi).trans (k1 i hi)
        | rt d δ3 => rw [e2] at q1; exact fun v σ' G' H' gr st kp r => q1 v σ' G' H' ((g1.trans g2).trans gr) st (fun i hi => (kp i hi).trans (k1 i hi)) r
        | rn d δ3 => rw [e2] at q1; exact fun a vs σ' G' H' gr st kp b1 b2 b3 b4 b5 => q1 a vs σ' G' H' ((g1.trans g2).trans gr) st (fun i hi => (kp i hi).trans (k1 i hi)) b1 b2 b3 b4 (origin (g1.trans g2) b5)
        | ex x δ3 => rw [e2] at q1; exact XP.shift (show XP K mg W P G H σ δ x δ3 from q1) (g1.trans g2) k1
        | un => rw [e2] at q1; exact q1
theorem s_while (fuel : Env → Nat) {c : Expr} {body : List Stmt} {t : M Bool} {g : SF} (hp : PassesOwn (model X.prog X.w) X.A X.env X.xe) (hc : T_ X W P c t) (hb : B_ X W P body g) : S_ X W P (.While c body [] pos) (gWhile fuel t g) := by
  obtain ⟨tt, p, q⟩ := hc
  obtain ⟨tb, p', q'⟩ := hb
  exact ⟨_, ps_while hp p p', sv_while q q'⟩
end
end VL
/-! The value layer: targets, what is walked, for loops. -/
namespace VL
open PySem PySem.Spec PyProof.Rows L2

/-! ### targets -/
abbrev GD := D → Env → Option Env
def GV (K : PySem.W.Frag) (mg : Str → Option Value) (L : List Nat) (g : TG) (γ : GD) : Prop :=
  ∀ (G H : Hp) (σ : L2.St) (δ δ' : Env) (v : V) (d : D), Sta K mg G H σ δ → Rp K mg G v d → γ d δ = some δ' → ∀ Q : L2.St → Hp → Prop,
    (∀ (σ' : L2.St) (G' H' : Hp), Grow (Ad σ δ) (Ad σ' δ') G H G' H' → Sta K mg G' H' σ' δ' → σ'.length = σ.length → (∀ i, i ∉ L → σ'[i]? = σ[i]?) → Q σ' H') → g v σ H Q
def GVs (K : PySem.W.Frag) (mg : Str → Option Value) (L : List Nat) (g : TGs) (γ : List D → Env → Option Env) : Prop :=
  ∀ (G H : Hp) (σ : L2.St) (δ δ' : Env) (vs : List V) (ds : List D), Sta K mg G H σ δ → RpAll K mg G vs ds → γ ds δ = some δ' → ∀ Q : L2.St → Hp → Prop,
    (∀ (σ' : L2.St) (G' H' : Hp), Grow (Ad σ δ) (Ad σ' δ') G H G' H' → Sta K mg G' H' σ' δ' → σ'.length = σ.length → (∀ i, i ∉ L → σ'[i]? = σ[i]?) → Q σ' H') → g vs σ H Q
def G_ (X : Cx) (L : List Nat) (e : Expr) (γ : GD) : Prop := ∃ g, PG X e g ∧ GV X.K X.mg L g γ
def Gs_ (X : Cx) (L : List Nat) (es : List Expr) (γ : List D → Env → Option Env) : Prop := ∃ g, PGs X es g ∧ GVs X.K X.mg L g γ
def tgName (i : Nat) : GD := fun d δ => some (δ.set i (.im d))
def tgNil : List D → Env → Option Env := fun ds δ => match ds with
  | [] => some δ
  | _ => none
def tgCons (γ : GD) (γs : List D → Env → Option Env) : List D → Env → Option Env := fun ds δ => match ds with
  | [] => none
  | d :: ds => (γ d δ).bind (γs ds)
def tgTup (γs : List D → Env → Option Env) (n : Nat) : GD := fun d δ => match d with
  | .tup ds => if ds.length = n then γs ds δ else none
  | .lst ds => if ds.length = n then γs ds δ else none
  | _ => none
section
variable {K : PySem.W.Frag} {mg : Str → Option Value}
theorem gv_name (i : Nat) : GV K mg [i] (gName i) (tgName i) := by
  intro G H σ δ δ' v d S r e Q h
  cases e
  obtain ⟨g1, s1⟩ := S.setIm (i := i) r
  exact h _ _ _ g1 s1 List.length_set fun j hj => set_other fun z => hj (by rw [z]; exact List.mem_singleton.mpr rfl)
theorem gv_nil : GVs K mg [] gNil tgNil := by
  intro G H σ δ δ' vs ds S r e Q h
  cases r with
  | nil => cases e; exact ⟨rfl, h σ G H Grow.refl S rfl fun _ _ => rfl⟩
  | cons a b => cases e
theorem gv_cons {L L' : List Nat} {g : TG} {gs : TGs} {γ : GD} {γs : List D → Env → Option Env} (h1 : GV K mg L g γ) (h2 : GVs K mg L' gs γs) : GVs K mg (L ++ L') (gCons g gs) (tgCons γ γs) := by
  intro G H σ δ δ' vs ds S r e Q h
  cases r with
  | nil => cases e
  | cons a b =>
    rename_i v vs d ds
    have e : (γ d δ).bind (γs ds) = some δ' := e
    cases e1 : γ d δ with
    | none => rw [e1] at e; cases e
    | some δ1 =>
      rw [e1] at e
      refine ⟨v, vs, rfl, h1 G H σ δ δ1 v d S a e1 _ fun σ1 G1 H1 g1 s1 l1 k1 => ?_⟩
      refine h2 G1 H1 σ1 δ1 δ' vs ds s1 (b.mono g1.gg) e _ fun σ2 G2 H2 g2 s2 l2 k2 => ?_
      exact h σ2 G2 H2 (g1.trans g2) s2 (l2.trans l1) fun i hi => (k2 i fun z => hi (List.mem_append_right _ z)).trans (k1 i fun z => hi (List.mem_append_left _ z))
theorem gv_tup {L : List Nat} {gs : TGs} {γs : List D → Env → Option Env} {n : Nat} (h1 : GVs K mg L gs γs) : GV K mg L (fun v σ H Q => gTup K n gs v σ H Q ∨ gUnl K n gs v σ H Q) (tgTup γs n) := by
  intro G H σ δ δ' v d S r e Q h
  unfold tgTup at e
  cases d with
  | tup ds =>
    obtain ⟨a, vs, rfl, q1, q2⟩ := r.tup'
    by_cases hn : ds.length = n
    · rw [show (match D.tup ds with | .tup ds => if ds.length = n then γs ds δ else none | .lst ds => if ds.length = n then γs ds δ else none | _ => none) = (if ds.length = n then γs ds δ else none) from rfl, if_pos hn] at e
      exact .inl ⟨a, vs, rfl, same_t S.gh q1, by rw [q2.len]; exact hn, h1 G H σ δ δ' vs ds S q2 e Q h⟩
    · rw [show (match D.tup ds with | .tup ds => if ds.length = n then γs ds δ else none | .lst ds => if ds.length = n then γs ds δ else none | _ => none) = (if ds.length = n then γs ds δ else none) from rfl, if_neg hn] at e
      cases e
  | lst ds =>
    obtain ⟨a, vs, rfl, q1, q2⟩ := r.lst'
    by_cases hn : ds.length = n
    · rw [show (match D.lst ds with | .tup ds => if ds.length = n then γs ds δ else none | .lst ds => if ds.length = n then γs ds δ else none | _ => none) = (if ds.length = n then γs ds δ else none) from rfl, if_pos hn] at e
      exact .inr ⟨a, vs, rfl, SqL.of (S.gh _ _ q1), by rw [q2.len]; exact hn, h1 G H σ δ δ' vs ds S q2 e Q h⟩
    · rw [show (match D.lst ds with | .tup ds => if ds.length = n then γs ds δ else none | .lst ds => if ds.length = n then γs ds δ else none | _ => none) = (if ds.length = n then γs ds δ else none) from rfl, if_neg hn] at e
      cases e
  | _ => cases e
end
section
variable {X : Cx} {W : Option WX} {P : List Nat} {pos : Pos}
theorem g_name (i : Nat) {x : Str} (hN : X.N.Nodup) (hi : X.N[i]? = some x := by rfl) (hx : Loc X.env.scope x := by first | exact Or.inl rfl | exact Or.inr rfl) (hf : X.fn x = true ∨ X.env.scope.names.lookup x = some .local := by first | exact .inl rfl | exact .inr rfl) : G_ X [i] (.Name x pos) (tgName i) :=
  ⟨_, pg_name hN hi hx hf, gv_name i⟩
theorem gs_nil : Gs_ X [] [] tgNil := ⟨_, pgs_nil, gv_nil⟩
theorem gs_cons {e : Expr} {es : List Expr} {L L' : List Nat} {γ : GD} {γs : List D → Env → Option Env} (h1 : G_ X L e γ) (h2 : Gs_ X L' es γs)
    (hs : (assignEach (e :: es) X.env).map (·.2) = assign e X.env :: (assignEach es X.env).map (·.2) := by rfl) : Gs_ X (L ++ L') (e :: es) (tgCons γ γs) := by
  obtain ⟨g, p, q⟩ := h1
  obtain ⟨gs, ps, qs⟩ := h2
  exact ⟨_, pgs_cons p ps hs, gv_cons q qs⟩
theorem g_tup {es : List Expr} {k : Nat} {L : List Nat} {γs : List D → Env → Option Env} (n : Nat) (hc : X.calm = true) (h : Gs_ X L es γs)
    (hn : (assignEach es X.env).length = n := by rfl) (hst : (assignEach es X.env).findIdx? (·.1) = none := by rfl) : G_ X L (.Tuple es k pos) (tgTup γs n) := by
  obtain ⟨g, p, q⟩ := h
  refine ⟨_, ⟨fun pins s σ H v u Q I r t => ?_⟩, gv_tup q⟩
  rcases t with t | t
  · exact (pg_tup hc p hn hst).run pins s σ H v u Q I r t
  · exact (pg_unl hc p hn hst).run pins s σ H v u Q I r t
/-- targets = e -/
def gAsg (γ : GD) (m : M D) : SF := gOf m fun d δ => match γ d δ with
  | some δ' => .nx δ'
  | none => .un
theorem s_asg {L : List Nat} {tg e : Expr} {γ : GD} {m : M D} (he : E_ X W P e m) (hg : G_ X L tg γ) (hL : ∀ i ∈ P, i ∉ L := by decide) (hs : swapsWithSole [tg] e pos.line X.env = pure false := by rfl) (hw : swappedStores [tg] e X.env = pure none := by rfl) (h1 : (assignEach [tg] X.env).map (·.2) = [assign tg X.env] := by rfl) :
    S_ X W P (.Assign [tg] e pos) (gAsg γ m) := by
  obtain ⟨te, p, q⟩ := he
  obtain ⟨g, pg, qg⟩ := hg
  refine ⟨_, ps_asg p pg hs hw h1, SV.of (t := fun x Z σ H => g x σ H Z.nx) q fun G H σ δ x d S r Z h => ?_⟩
  cases e : γ d δ with
  | none => rw [e] at h; exact h.elim
  | some δ' =>
    rw [e] at h
    exact qg G H σ δ δ' x d S r e _ fun σ' G' H' gr st l k => h σ' G' H' gr st fun i hi => k i (hL i hi)
end

/-! ### what is walked -/
structure ItOk (K : PySem.W.Frag) (mg : Str → Option Value) (G0 : Hp) (J : It) (ds : List D) : Prop where
  stop : ∀ (i : Nat) (G H : Hp), Same G0 G → Same G H → ds.length ≤ i → J.stop i H
  go : ∀ (i : Nat) (d : D) (G H : Hp), Same G0 G → Same G H → ds[i]? = some d → J.go i H ∧ ∀ x H', J.yld i H x H' → ∃ G', Gro G H G' H' ∧ Same G' H' ∧ Rp K mg G' x d
theorem ItOk.mono {K : PySem.W.Frag} {mg : Str → Option Value} {G G' : Hp} {J : It} {ds : List D} (h : ItOk K mg G J ds) (e : Same G G') : ItOk K mg G' J ds :=
  ⟨fun i G H a b c => h.stop i G H (e.trans a) b c, fun i d G H a b c => h.go i d G H (e.trans a) b c⟩
def RI (K : PySem.W.Frag) (mg : Str → Option Value) : RRel It (List D) := fun _ _ G _ J ds => ItOk K mg G J ds
def I_ (X : Cx) (W : Option WX) (P : List Nat) (tg e : Expr) (f : M (List D)) : Prop := ∃ wi, PI X tg e wi ∧ Ev X.K X.mg (RI X.K X.mg) W P wi f
theorem PI.or {X : Cx} {tg e : Expr} {w w' : TI} (h : PI X tg e w) (h' : PI X tg e w') : PI X tg e (fun σ H R => w σ H R ∨ w' σ H R) := ⟨fun pins s σ H R I t => t.elim (h.run pins s σ H R I) (h'.run pins s σ H R I)⟩
section
variable {K : PySem.W.Frag} {mg : Str → Option Value} {G : Hp}
theorem itok_list {a : Addr} {vs : List V} {ds : List D} (h : SqL K G a vs) (r : RpAll K mg G vs ds) : ItOk K mg G (Itl K a) ds where
  stop := fun i G' H e1 e2 hl => ⟨vs, e2.seq (e1.seq h), by rw [r.len]; exact hl⟩
  go := fun i d G' H e1 e2 hd => by
    obtain ⟨v, hv, rv⟩ := r.at hd
    refine ⟨⟨vs, v, e2.seq (e1.seq h), hv⟩, fun x H' y => ?_⟩
    obtain ⟨rfl, y⟩ := y
    have q := y vs (e2.seq (e1.seq h))
    rw [hv] at q
    cases q
    exact ⟨G', Grow.refl, e2, rv.mono e1⟩
theorem itok_tup {a : Addr} {vs : List V} {ds : List D} (h : SqT K G a vs) (r : RpAll K mg G vs ds) : ItOk K mg G (Itt K a) ds where
  stop := fun i G' H e1 e2 hl => ⟨vs, same_t e2 (same_t e1 h), by rw [r.len]; exact hl⟩
  go := fun i d G' H e1 e2 hd => by
    obtain ⟨v, hv, rv⟩ := r.at hd
    refine ⟨⟨vs, v, same_t e2 (same_t e1 h), hv⟩, fun x H' y => ?_⟩
    obtain ⟨rfl, y⟩ := y
    have q := y vs (same_t e2 (same_t e1 h))
    rw [hv] at q
    cases q
    exact ⟨G', Grow.refl, e2, rv.mono e1⟩
def rangeD (lo : Int) (n : Nat) : List D := (List.range n).map fun i => D.int (lo + (i : Nat))
theorem rangeD_len (lo : Int) (n : Nat) : (rangeD lo n).length = n := by unfold rangeD; rw [List.length_map, List.length_range]
theorem itok_range {lo : Int} {n : Nat} : ItOk K mg G (Itr lo n) (rangeD lo n) where
  stop := fun i G' H e1 e2 hl => by rw [rangeD_len] at hl; exact hl
  go := fun i d G' H e1 e2 hd => by
    have hi : i < n := by have := (List.getElem?_eq_some_iff.mp hd).1; rwa [rangeD_len] at this
    refine ⟨hi, fun x H' y => ?_⟩
    obtain ⟨rfl, rfl⟩ := y
    unfold rangeD at hd
    rw [List.getElem?_map, List.getElem?_range hi] at hd
    cases hd
    exact ⟨G', Grow.refl, e2, .int _⟩
def charsD (s : Str) : List D := s.cps.toList.map fun c => D.str ⟨#[c]⟩
theorem itok_str {s : Str} : ItOk K mg G (Its s) (charsD s) where
  stop := fun i G' H e1 e2 hl => by unfold charsD at hl; rw [List.length_map] at hl; exact hl
  go := fun i d G' H e1 e2 hd => by
    unfold charsD at hd
    rw [List.getElem?_map, Array.getElem?_toList] at hd
    cases e : s.cps[i]? with
    | none => rw [e] at hd; cases hd
    | some c =>
      rw [e] at hd
      cases hd
      refine ⟨(Array.getElem?_eq_some_iff.mp e).1, fun x H' y => ?_⟩
      obtain ⟨rfl, c', h1, rfl⟩ := y
      rw [e] at h1
      cases h1
      exact ⟨G', Grow.refl, e2, .str _⟩
end
/-- what may be walked -/
def asSeq (d : D) : Option (List D) := match d with
  | .lst xs => some xs
  | .tup xs => some xs
  | .scr xs => some xs
  | .str s => some (charsD s)
  | _ => none
def iSeq (m : M D) : M (List D) := M.bind m fun d => lift (asSeq d)
section
variable {X : Cx} {W : Option WX} {P : List Nat} {pos : Pos} {tg : Expr}
theorem ev_or {K : PySem.W.Frag} {mg : Str → Option Value} {β α : Type} {RR : RRel β α} {t t' : L2.St → Hp → (β → Hp → Prop) → Prop} {f g : M α} (p : Env → Bool) (h : ∀ G H σ δ, p δ = true → Sta K mg G H σ δ → ∀ Q : β → Hp → Prop, Pst K mg RR W P G H σ δ (f δ) Q → t σ H Q)
    (h' : ∀ G H σ δ, p δ = false → Sta K mg G H σ δ → ∀ Q : β → Hp → Prop, Pst K mg RR W P G H σ δ (f δ) Q → t' σ H Q) : Ev K mg RR W P (fun σ H Q => t σ H Q ∨ t' σ H Q) f := by
  intro G H σ δ S Q q
  cases e : p δ with
  | true => exact .inl (h G H σ δ e S Q q)
  | false => exact .inr (h' G H σ δ e S Q q)
theorem i_seq {e : Expr} {m : M D} (he : E_ X W P e m) : I_ X W P tg e (iSeq m) := by
  obtain ⟨te, p, q⟩ := he
  refine ⟨_, PI.or (pi_list p) (PI.or (pi_tup p) (pi_str p)), ?_⟩
  intro G H σ δ S Q h
  unfold iSeq at h
  cases e : m δ with
  | un => rw [M.bind_un e] at h; exact h.elim
  | ex x δ' =>
    rw [M.bind_ex e] at h
    exact .inl (q G H σ δ S _ (by rw [e]; exact h))
  | ok d δ' =>
    rw [M.bind_ok e] at h
    cases d with
    | lst xs =>
      refine .inl (q G H σ δ S _ ?_)
      rw [e]
      intro v G' H' gr st r
      obtain ⟨a, vs, rfl, h1, h2⟩ := Rp.lst' r
      exact ⟨a, rfl, ⟨vs, SqL.of (st.gh _ _ h1)⟩, h _ G' H' gr st (itok_list (SqL.of h1) h2)⟩
    | scr xs =>
      refine .inl (q G H σ δ S _ ?_)
      rw [e]
      intro v G' H' gr st r
      obtain ⟨a, vs, rfl, h1, h2⟩ := Rp.scr' r
      exact ⟨a, rfl, ⟨vs, st.gh.seq h1⟩, h _ G' H' gr st (itok_list h1 h2)⟩
    | tup xs =>
      refine .inr (.inl (q G H σ δ S _ ?_))
      rw [e]
      intro v G' H' gr st r
      obtain ⟨a, vs, rfl, h1, h2⟩ := Rp.tup' r
      exact ⟨a, rfl, ⟨vs, same_t st.gh h1⟩, h _ G' H' gr st (itok_tup h1 h2)⟩
    | str s =>
      refine .inr (.inr (q G H σ δ S _ ?_))
      rw [e]
      intro v G' H' gr st r
      exact ⟨s, Rp.str' r, h _ G' H' gr st itok_str⟩
    | _ => exact h.elim
def small62 (i : Int) : Prop := -(2 ^ 62) ≤ i ∧ i < 2 ^ 62
instance (i : Int) : Decidable (small62 i) := by unfold small62; exact inferInstance
def rng1 (d : D) : Option (List D) := match d with
  | .int n => if small62 n then some (rangeD 0 n.toNat) else none
  | _ => none
def iRange1 (m : M D) : M (List D) := M.bind m fun d => lift (rng1 d)
theorem i_range1 {a : Expr} {m : M D} {p pos : Pos} (hg : Gl X "range") (hm : X.mg "range" = none) (ha : E_ X W P a m) (he : starEach (a :: []) X.env = (false, eval a X.env) :: starEach [] X.env := by rfl) (hs : starEach [a] X.env = [(false, eval a X.env)] := by rfl) :
    I_ X W P tg (.Call (.Name "range" p) [a] [] pos) (iRange1 m) := by
  obtain ⟨ta, pa, q⟩ := ha
  refine ⟨_, pi_range1 hg hm (pa_cons pa pa_nil he) hs, q.bind fun G H σ δ x d S r Q h => ?_⟩
  unfold rng1 at h
  cases d with
  | int n =>
    dsimp only at h
    by_cases hn : small62 n
    · rw [if_pos hn] at h
      have e : x = .int n := Rp.int' r
      subst e
      exact ⟨n, rfl, hn.1, hn.2, h _ G H Grow.refl S itok_range⟩
    · rw [if_neg hn] at h
      exact h.elim
  | _ => exact h.elim
def rng2 (d e : D) : Option (List D) := match d, e with
  | .int a, .int b => if small62 a ∧ small62 b then some (rangeD a (b - a).toNat) else none
  | _, _ => none
def iRange2 (m n : M D) : M (List D) := M.bind m fun d => M.bind n fun e => lift (rng2 d e)
theorem i_range2 {a b : Expr} {m n : M D} {p pos : Pos} (hg : Gl X "range") (hm : X.mg "range" = none) (ha : E_ X W P a m) (hb : E_ X W P b n)
    (he : starEach (a :: [b]) X.env = (false, eval a X.env) :: starEach [b] X.env := by rfl) (he' : starEach (b :: []) X.env = (false, eval b X.env) :: starEach [] X.env := by rfl)
    (hs : starEach [a, b] X.env = [(false, eval a X.env), (false, eval b X.env)] := by rfl) (hs2 : starEach [b] X.env = [(false, eval b X.env)] := by rfl) :
    I_ X W P tg (.Call (.Name "range" p) [a, b] [] pos) (iRange2 m n) := by
  obtain ⟨ta, pa, qa⟩ := ha
  obtain ⟨tb, pb, qb⟩ := hb
  refine ⟨_, pi_range2 hg hm (pa_cons pa (pa_cons pb pa_nil he') he) hs hs2, qa.bind fun G H σ δ x d S r Q h => ?_⟩
  refine (qb.bind (RB := RI X.K X.mg) (k := fun y σ H Q => ∃ i j : Int, [x, y] = [.int i, .int j] ∧ (-(2 ^ 62) ≤ i ∧ i < 2 ^ 62 ∧ -(2 ^ 62) ≤ j ∧ j < 2 ^ 62) ∧ Q (Itr i (j - i).toNat) H) (g := fun e => lift (rng2 d e)) fun G2 H2 σ2 δ2 y e S2 r2 Q h => ?_) G H σ δ S Q h
  unfold rng2 at h
  cases d with
  | int i =>
    cases e with
    | int j =>
      dsimp only at h
      by_cases hn : small62 i ∧ small62 j
      · rw [if_pos hn] at h
        rw [Rp.int' r, Rp.int' r2]
        exact ⟨i, j, rfl, ⟨hn.1.1, hn.1.2, hn.2.1, hn.2.2⟩, h _ G2 H2 Grow.refl S2 itok_range⟩
      · rw [if_neg hn] at h
        exact h.elim
    | _ => exact h.elim
  | _ => exact h.elim
end
/-! ### for -/
def gForGo (γ : GD) (b : SF) : List D → SF
  | [] => gNext
  | d :: ds => fun δ => match γ d δ with
    | none => .un
    | some δ1 => match b δ1 with
      | .nx δ' => gForGo γ b ds δ'
      | .ct δ' => gForGo γ b ds δ'
      | .bk δ' => .nx δ'
      | .rt d δ' => .rt d δ'
      | .rn d δ' => .rn d δ'
      | .ex x δ' => .ex x δ'
      | .un => .un
def gFor (γ : GD) (m : M (List D)) (b : SF) : SF := gOf m fun ds => gForGo γ b ds
section
variable {X : Cx} {W : Option WX} {P : List Nat} {pos : Pos} {tg : Expr}
theorem sv_for {K : PySem.W.Frag} {mg : Str → Option Value} {L : List Nat} {wi : TI} {g : TG} {tb : TS} {γ : GD} {m : M (List D)} {b : SF} (hi : Ev K mg (RI K mg) W P wi m) (hg : GV K mg L g γ) (hb : SV K mg W P tb b) (hL : ∀ i ∈ P, i ∉ L) :
    SV K mg W P (tFor wi g tb) (gFor γ m b) := by
  have key : ∀ (G H : Hp) (σ : L2.St) (δ : Env) (J : It) (ds : List D), Sta K mg G H σ δ → RI K mg σ δ G H J ds → ∀ Z : Ends, SPst K mg W P G H σ δ (gForGo γ b ds δ) Z → ∃ W : Nat → Nat → L2.St → Hp → Prop, (∃ m, W 0 m σ H) ∧ ∀ i m σ H, W i m σ H →
    (J.stop i H ∧ Z.nx σ H) ∨ (J.go i H ∧ ∃ N : L2.St → Hp → Prop, (∀ σ' H', N σ' H' → ∃ m', m' < m ∧ W (i + 1) m' σ' H') ∧ ∀ x H', J.yld i H x H' → g x σ H' fun σ2 H2 => tb { Z with nx := N, ct := N, bk := Z.nx } σ2 H2) := by
    intro G H σ δ J ds S ok Z h
    have ok : ItOk K mg G J ds := ok
    refine ⟨fun i m σ' H' => m = ds.length - i ∧ ∃ G' δ', Grow (Ad σ δ) (Ad σ' δ') G H G' H' ∧ Sta K mg G' H' σ' δ' ∧ (∀ i ∈ P, σ'[i]? = σ[i]?) ∧ SPst K mg W P G H σ δ (gForGo γ b (ds.drop i) δ') Z, ⟨ds.length, rfl, G, δ, Grow.refl, S, fun _ _ => rfl, by rw [List.drop_zero]; exact h⟩, ?_⟩
    rintro i m σ1 H1 ⟨hm, G1, δ1, g1, s1, k1, q1⟩
    by_cases hl : ds.length ≤ i
    · refine .inl ⟨ok.stop i G1 H1 g1.gg s1.gh hl, ?_⟩
      rw [List.drop_eq_nil_of_le hl] at q1
      exact q1 σ1 G1 H1 g1 s1 k1
    · have hi : i < ds.length := by omega
      obtain ⟨o1, o2⟩ := ok.go i ds[i] G1 H1 g1.gg s1.gh (List.getElem?_eq_getElem hi)
      rw [List.drop_eq_getElem_cons hi] at q1
      refine .inr ⟨o1, fun σ' H' => ∃ G' δ', Grow (Ad σ δ) (Ad σ' δ') G H G' H' ∧ Sta K mg G' H' σ' δ' ∧ (∀ i ∈ P, σ'[i]? = σ[i]?) ∧ SPst K mg W P G H σ δ (gForGo γ b (ds.drop (i + 1)) δ') Z, fun σ' H' w => ⟨ds.length - (i + 1), by omega, rfl, w⟩, fun x H2 y => ?_⟩
      obtain ⟨G2, g2, gh2, r2⟩ := o2 x H2 y
      have s2 : Sta K mg G2 H2 σ1 δ1 := s1.gro g2 gh2
      have g12 : Grow (Ad σ δ) (Ad σ1 δ1) G H G2 H2 := g1.trans (g2.any fun _ q => q)
      unfold gForGo at q1
      cases e : γ ds[i] δ1 with
      | none => simp only [e] at q1; exact q1.elim
      | some δ2 =>
        simp only [e] at q1
        refine hg G2 H2 σ1 δ1 δ2 x ds[i] s2 r2 e _ fun σ3 G3 H3 g3 s3 l3 k3 => ?_
        have k13 : ∀ i ∈ P, σ3[i]? = σ[i]? := fun j hj => (k3 j (hL j hj)).trans (k1 j hj)
        refine hb G3 H3 σ3 δ2 s3 _ ?_
        have g13 := g12.trans g3
        cases e2 : b δ2 with
        | nx δ3 => simp only [e2] at q1; exact fun σ' G' H' gr st kp => ⟨G', δ3, g13.trans gr, st, fun i hi => (kp i hi).trans (k13 i hi), q1⟩
        | ct δ3 => simp only [e2] at q1; exact fun σ' G' H' gr st kp => ⟨G', δ3, g13.trans gr, st, fun i hi => (kp i hi).trans (k13 i hi), q1⟩
        | bk δ3 => simp only [e2] at q1; exact fun σ' G' H' gr st kp => q1 σ' G' H' (g13.trans gr) st fun i hi => (kp i hi).trans (k13 i hi)
        | rt d δ3 => simp only [e2] at q1; exact fun v σ' G' H' gr st kp r => q1 v σ' G' H' (g13.trans gr) st (fun i hi => (kp i hi).trans (k13 i hi)) r
        | rn d δ3 => simp only [e2] at q1; exact fun a vs σ' G' H' gr st kp b1 b2 b3 b4 b5 => q1 a vs σ' G' H' (g13.trans gr) st (fun i hi => (kp i hi).trans (k13 i hi)) b1 b2 b3 b4 (origin g13 b5)
        | ex x δ3 => simp only [e2] at q1; exact XP.shift (show XP K mg W P G H σ δ x δ3 from q1) g13 k13
        | un => simp only [e2] at q1; exact q1.elim
  exact SV.of hi key
theorem s_for {L : List Nat} {iter : Expr} {body : List Stmt} {m : M (List D)} {γ : GD} {g : SF} (hp : PassesOwn (model X.prog X.w) X.A X.env X.xe) (hc : X.calm = true) (hi : I_ X W P tg iter m) (hg : G_ X L tg γ) (hb : B_ X W P body g) (hL : ∀ i ∈ P, i ∉ L := by decide)
    (hs : ∀ x, foldedSetIterable iter X.env x = pure x := by intro _; rfl) : S_ X W P (.For tg iter body [] pos) (gFor γ m g) := by
  obtain ⟨wi, pi, qi⟩ := hi
  obtain ⟨tg, pg, qg⟩ := hg
  obtain ⟨tb, pb, qb⟩ := hb
  exact ⟨_, ps_for hp hc pi pg pb hs, sv_for qi qg qb hL⟩
end
end VL
/-! The value layer: displays, arguments, defs and their calls. -/
namespace VL
open PySem PySem.Spec PyProof.Rows L2

section
variable {K : PySem.W.Frag} {mg : Str → Option Value} {G H : Hp}
/-- a new object beside, not given to the data that stay -/
theorem Gro.newM {p : Addr} {o : HO} (h : H p = none) : Gro G H G (upd H p o) where
  gg := Same.refl _
  fresh := fun b hb _ => rfl
  keep := fun b u e _ => by rw [upd_ne (ne_of_none e h)]; exact e
  there := fun b hb => by
    by_cases q : b = p
    · rw [q, upd_same]; exact fun z => nomatch z
    · rw [upd_ne q]; exact hb
  new := fun _ h => h.elim
theorem same_newM {p : Addr} {o : HO} (gh : Same G H) (h : H p = none) : Same G (upd H p o) := fun b u e => by
  have : b ≠ p := fun q => by
    have := gh b u e
    rw [q, h] at this; cases this
  rw [upd_ne this]; exact gh b u e
theorem EvN.mk {W : Option WX} {P : List Nat} {α β : Type} {t : L2.St → Hp → (β → Hp → Prop) → Prop} {RA : RRel β α} {f : M α} {g : α → Option (List D)} {k : β → L2.St → Hp → VK → Prop} (ha : Ev K mg RA W P t f)
    (hk : ∀ (G H : Hp) (σ : L2.St) (δ : Env) (x : β) (a : α) (xs : List D), Sta K mg G H σ δ → RA σ δ G H x a → g a = some xs → ∀ Q : VK, (∀ (p : Addr) (vs : List V), H p = none → RpAll K mg G vs xs → Q (.ref p) (upd H p (.lst vs))) → k x σ H Q) :
    EvN K mg W P (fun σ H Q => t σ H fun x H1 => k x σ H1 Q) (M.bind f fun a => lift (g a)) := by
  intro G H σ δ S Q h
  refine ha G H σ δ S _ ?_
  cases e : f δ with
  | un => rw [M.bind_un e] at h; exact h
  | ex x δ' => rw [M.bind_ex e] at h; exact h
  | ok a δ' =>
    rw [M.bind_ok e] at h
    intro x G1 H1 g1 s1 r1
    cases e2 : g a with
    | none => rw [lift_none e2] at h; exact h.elim
    | some xs =>
      rw [lift_some e2] at h
      refine hk G1 H1 σ δ' x a xs s1 r1 e2 Q fun p vs hp rv => ?_
      have hH : H p = none := by
        cases q : H p with
        | none => rfl
        | some o => exact absurd hp (g1.there p (by rw [q]; exact fun z => nomatch z))
      have gp : G1 p = none := same_none s1.gh hp
      have gn : Gro G1 H1 G1 (upd H1 p (.lst vs)) := Gro.newM hp
      have sn := s1.gro gn (same_newM s1.gh hp)
      exact h p vs G1 _ (g1.trans (gn.any fun _ q => q)) sn hH gp (fun ⟨i, v, c, a1, a2, a3⟩ => ((s1.at_ i v c a1 a2).there a3).1 hp) upd_same rv
end

/-! ### displays -/
def RDs (K : PySem.W.Frag) (mg : Str → Option Value) : RRel (List V) (List D) := fun _ _ G _ vs ds => RpAll K mg G vs ds
def As_ (X : Cx) (W : Option WX) (P : List Nat) (es : List Expr) (f : M (List D)) : Prop := ∃ t, PA X es t ∧ Ev X.K X.mg (RDs X.K X.mg) W P t f
def asNil : M (List D) := M.ret []
def asCons (a : M D) (b : M (List D)) : M (List D) := M.bind a fun d => M.bind b fun ds => M.ret (d :: ds)
section
variable {X : Cx} {W : Option WX} {P : List Nat} {pos : Pos}
theorem as_nil : As_ X W P [] asNil := ⟨_, pa_nil, Ev.const fun _ _ _ _ => .nil⟩
theorem as_cons {e : Expr} {es : List Expr} {f : M D} {g : M (List D)} (h1 : E_ X W P e f) (h2 : As_ X W P es g) (hs : starEach (e :: es) X.env = (false, eval e X.env) :: starEach es X.env := by rfl) : As_ X W P (e :: es) (asCons f g) := by
  obtain ⟨t, p, q⟩ := h1
  obtain ⟨u, p', q'⟩ := h2
  refine ⟨_, pa_cons p p' hs, q.bind fun G H σ δ x d S r Q h => ?_⟩
  refine q' G H σ δ S _ ?_
  cases e : g δ with
  | un => rw [M.bind_un e] at h; exact h
  | ex x δ' => rw [M.bind_ex e] at h; exact h
  | ok ds δ' =>
    rw [M.bind_ok e] at h
    exact fun vs G' H' gr st rr => h (x :: vs) G' H' gr st (.cons (Rp.mono gr.gg r) rr)
def mkTup (ds : List D) : Option D := if ds.length ≤ sizeLine then some (.tup ds) else none
def mkLst (ds : List D) : Option (List D) := if ds.length ≤ sizeLine then some ds else none
def eTup (m : M (List D)) : M D := M.bind m fun ds => lift (mkTup ds)
def nLst (m : M (List D)) : M (List D) := M.bind m fun ds => lift (mkLst ds)
theorem e_tup {es : List Expr} {x1} {m : M (List D)} (h : As_ X W P es m) : E_ X W P (.Tuple es x1 pos) (eTup m) := by
  obtain ⟨t, p, q⟩ := h
  refine ⟨_, pe_tup p, q.map fun G H σ δ vs ds z S r e Q h => ?_⟩
  unfold mkTup at e
  split at e
  · cases e
    have r : RpAll X.K X.mg G vs ds := r
    exact ⟨by rw [r.len]; assumption, new_tup S.gh r h⟩
  · cases e
theorem n_lst {es : List Expr} {m : M (List D)} (h : As_ X W P es m) : N_ X W P (.List es pos) (nLst m) := by
  obtain ⟨t, p, q⟩ := h
  refine ⟨_, pe_lst p, EvN.mk (g := mkLst) (k := fun (vs : List V) (_ : L2.St) (H1 : Hp) (Q : VK) => vs.length ≤ sizeLine ∧ ∀ p, H1 p = none → Q (.ref p) (upd H1 p (.lst vs))) q fun G H σ δ vs ds z S r e Q h => ?_⟩
  unfold mkLst at e
  split at e
  · cases e
    have r : RpAll X.K X.mg G vs ds := r
    exact ⟨by rw [r.len]; assumption, fun p hp => h p vs hp r⟩
  · cases e
end

/-! ### arguments of a def: data, or a slot's own object -/
abbrev Arg := Sum D Nat
inductive ArgR (K : PySem.W.Frag) (mg : Str → Option Value) (σ : L2.St) (G : Hp) : V → Arg → Prop
  | d {v : V} {d : D} : Rp K mg G v d → ArgR K mg σ G v (.inl d)
  | m {v : V} {i : Nat} : σ[i]? = some (some v) → ArgR K mg σ G v (.inr i)
def RArgs (K : PySem.W.Frag) (mg : Str → Option Value) : RRel (List V) (List Arg) := fun σ _ G _ vs as => Paired (ArgR K mg σ G) vs as
theorem ArgR.mono {K : PySem.W.Frag} {mg : Str → Option Value} {σ : L2.St} {G G' : Hp} (e : Same G G') {v : V} {a : Arg} (h : ArgR K mg σ G v a) : ArgR K mg σ G' v a := by
  cases h with
  | d r => exact .d (r.mono e)
  | m r => exact .m r
def A_ (X : Cx) (W : Option WX) (P : List Nat) (es : List Expr) (f : M (List Arg)) : Prop := ∃ t, PA X es t ∧ Ev X.K X.mg (RArgs X.K X.mg) W P t f
def aNil : M (List Arg) := M.ret []
def aCons (a : M D) (b : M (List Arg)) : M (List Arg) := M.bind a fun d => M.bind b fun ds => M.ret (.inl d :: ds)
def aMut (i : Nat) (b : M (List Arg)) : M (List Arg) := M.bind b fun ds => M.ret (.inr i :: ds)
section
variable {X : Cx} {W : Option WX} {P : List Nat} {pos : Pos}
theorem a_nil : A_ X W P [] aNil := ⟨_, pa_nil, Ev.const fun _ _ _ _ => .nil⟩
theorem a_cons {e : Expr} {es : List Expr} {f : M D} {g : M (List Arg)} (h1 : E_ X W P e f) (h2 : A_ X W P es g) (hs : starEach (e :: es) X.env = (false, eval e X.env) :: starEach es X.env := by rfl) : A_ X W P (e :: es) (aCons f g) := by
  obtain ⟨t, p, q⟩ := h1
  obtain ⟨u, p', q'⟩ := h2
  refine ⟨_, pa_cons p p' hs, q.bind fun G H σ δ x d S r Q h => ?_⟩
  refine q' G H σ δ S _ ?_
  cases e : g δ with
  | un => rw [M.bind_un e] at h; exact h
  | ex x δ' => rw [M.bind_ex e] at h; exact h
  | ok ds δ' =>
    rw [M.bind_ok e] at h
    exact fun vs G' H' gr st rr => h (x :: vs) G' H' gr st (.cons (.d (Rp.mono gr.gg r)) rr)
theorem a_mut (i : Nat) {x : Str} {es : List Expr} {g : M (List Arg)} (h2 : A_ X W P es g) (hN : X.N[i]? = some x := by rfl) (hv : Vis X.env.scope x := by first | exact Or.inl rfl | exact Or.inr (Or.inl rfl) | exact Or.inr (Or.inr rfl)) (hd : (x == ("__debug__" : Str)) = false := by decide)
    (hcd : (x == ("__classdict__" : Str)) = false := by decide) (hs : starEach (Expr.Name x pos :: es) X.env = (false, eval (Expr.Name x pos) X.env) :: starEach es X.env := by rfl) : A_ X W P (.Name x pos :: es) (fun δ => match δ[i]? with | some (.ml _) => aMut i g δ | some (.mi _ _) => aMut i g δ | _ => .un) := by
  obtain ⟨u, p', q'⟩ := h2
  refine ⟨_, pa_cons (pe_var hN hv hd hcd) p' hs, ?_⟩
  have key : ∀ (G H : Hp) (σ : L2.St) (δ : Env), Sta X.K X.mg G H σ δ → ∀ (v : V), σ[i]? = some (some v) → ∀ Q : List V → Hp → Prop, Pst X.K X.mg (RArgs X.K X.mg) W P G H σ δ (aMut i g δ) Q → tCons (tVar i) u σ H Q := by
    intro G H σ δ S v hv Q h
    refine ⟨v, hv, q' G H σ δ S _ ?_⟩
    unfold aMut at h
    cases e : g δ with
    | un => rw [M.bind_un e] at h; exact h
    | ex x δ' => rw [M.bind_ex e] at h; exact h
    | ok ds δ' =>
      rw [M.bind_ok e] at h
      exact fun vs G' H' gr st rr => h (v :: vs) G' H' gr st (.cons (.m hv) rr)
  intro G H σ δ S Q h
  cases e : δ[i]? with
  | none => simp only [e] at h; exact h.elim
  | some c =>
    obtain ⟨w, hw, r⟩ := S.slot e
    cases c with
    | ml xs =>
      simp only [e] at h
      obtain ⟨a, vs, rfl, _⟩ := r.ml'
      exact key G H σ δ S _ hw Q h
    | mi cc fs =>
      simp only [e] at h
      obtain ⟨a, C, dx, fvs, rfl, _⟩ := r.mi'
      exact key G H σ δ S _ hw Q h
    | _ => simp only [e] at h; exact h.elim
end

/-! ### defs -/
abbrev FF := Env → R D
def spF (K : PySem.W.Frag) (mg : Str → Option Value) (n : Nat) (f : FF) : Sp := fun vs H Q E => vs.length = n ∧ ∃ (G : Hp) (cs : Env), Sta K mg G H (vs.map some) cs ∧ (match f cs with
  | .ok d cs' => ∀ (v : V) (G' H' : Hp), Grow (Ad (vs.map some) cs) (Ad (vs.map some) cs') G H G' H' → Sta K mg G' H' (vs.map some) cs' → Rp K mg G' v d → Q v H'
  | .ex x cs' => ∀ (C dd : Addr) (fvs : List (Str × V)) (G' H' : Hp), mg x.cls = some (.ref C) → H' dd = some (.xd fvs) → RpF K mg G' fvs x.fs → Grow (Ad (vs.map some) cs) (Ad (vs.map some) cs') G H G' H' → Sta K mg G' H' (vs.map some) cs' → E (.ref C) (some dd) H'
  | .un => False)
def outs (P : List Nat) (n : Nat) (δ : Env) : Env := (List.range n).map fun i => if i ∈ P then δ.getD i .un else .un
/-- a def's mirror by that of its body: n parameters, those of P hand their own objects on and back, m further slots -/
def fnM (n : Nat) (P : List Nat) (m : Nat) (g : SF) : FF := fun cs => if cs.length = n then match g (cs ++ List.replicate m .un) with
  | .rt d δ' => .ok d (outs P n δ')
  | .nx δ' => .ok .non (outs P n δ')
  | .ex x δ' => .ex x (outs P n δ')
  | _ => .un
  else .un
/-- what is raised is not spoken of -/
def nox (f : FF) : FF := fun cs => match f cs with
  | .ok d cs' => .ok d cs'
  | _ => .un
theorem outs_get {P : List Nat} {n i : Nat} {δ : Env} {c : Cell} (h : (outs P n δ)[i]? = some c) : i < n ∧ c = if i ∈ P then δ.getD i .un else .un := by
  unfold outs at h
  have hi : i < n := by have := (List.getElem?_eq_some_iff.mp h).1; rwa [List.length_map, List.length_range] at this
  rw [List.getElem?_map, List.getElem?_range hi] at h
  exact ⟨hi, (Option.some.inj h).symm⟩
theorem outs_len {P : List Nat} {n : Nat} {δ : Env} : (outs P n δ).length = n := by unfold outs; rw [List.length_map, List.length_range]
section
variable {K : PySem.W.Frag} {mg : Str → Option Value} {G H : Hp}
theorem Sta.start {vs : List V} {cs : Env} {m : Nat} (S : Sta K mg G H (vs.map some) cs) : Sta K mg G H (vs.map some ++ List.replicate m none) (cs ++ List.replicate m .un) ∧ Grow (Ad (vs.map some) cs) (Ad (vs.map some ++ List.replicate m none) (cs ++ List.replicate m .un)) G H G H ∧
    (∀ b, Ad (vs.map some) cs b → Ad (vs.map some ++ List.replicate m none) (cs ++ List.replicate m .un) b) := by
  have hl : (vs.map some).length = cs.length := S.len
  have sp : ∀ (i : Nat) (v : Option V) (c : Cell), (vs.map some ++ List.replicate m none)[i]? = some v → (cs ++ List.replicate m Cell.un)[i]? = some c → ((vs.map some)[i]? = some v ∧ cs[i]? = some c) ∨ c = .un := by
    intro i v c h1 h2
    by_cases hi : i < cs.length
    · rw [List.getElem?_append_left (by omega)] at h1
      rw [List.getElem?_append_left hi] at h2
      exact .inl ⟨h1, h2⟩
    · rw [List.getElem?_append_right (by omega), List.getElem?_replicate] at h2
      split at h2
      · exact .inr (Option.some.inj h2).symm
      · cases h2
  have ad : ∀ b, Ad (vs.map some ++ List.replicate m none) (cs ++ List.replicate m .un) b → Ad (vs.map some) cs b := fun b ⟨i, v, c, h1, h2, h3⟩ => by
    rcases sp i v c h1 h2 with ⟨a1, a2⟩ | rfl
    · exact ⟨i, v, c, a1, a2, h3⟩
    · rw [adr_un] at h3; cases h3
  refine ⟨⟨S.gh, by rw [List.length_append, List.length_append, List.length_replicate, List.length_replicate, hl], fun i v c h1 h2 => ?_, fun i j v w c e a h1 h2 h3 h4 h5 h6 => ?_⟩, ⟨Same.refl _, fun _ _ _ => rfl, fun _ _ q _ => q, fun _ q => q, fun b hb => .inl (ad b hb)⟩, fun b ⟨i, v, c, h1, h2, h3⟩ => ⟨i, v, c, ?_, ?_, h3⟩⟩
  · rcases sp i v c h1 h2 with ⟨a1, a2⟩ | rfl
    · exact S.at_ i v c a1 a2
    · cases v <;> trivial
  · rcases sp i v c h1 h2 with ⟨a1, a2⟩ | rfl
    · rcases sp j w e h3 h4 with ⟨b1, b2⟩ | rfl
      · exact S.dis i j v w c e a a1 a2 b1 b2 h5 h6
      · rw [adr_un] at h6; cases h6
    · rw [adr_un] at h5; cases h5
  · rw [List.getElem?_append_left (List.getElem?_eq_some_iff.mp h1).1]; exact h1
  · rw [List.getElem?_append_left (List.getElem?_eq_some_iff.mp h2).1]; exact h2
theorem Sta.outs {vs : List V} {σ : L2.St} {δ : Env} {P : List Nat} {n : Nat} (S : Sta K mg G H σ δ) (hn : vs.length = n) (hk : ∀ i ∈ P, i < n → σ[i]? = (vs.map some)[i]?) : Sta K mg G H (vs.map some) (outs P n δ) ∧ ∀ b, Ad (vs.map some) (outs P n δ) b → Ad σ δ b := by
  have sp : ∀ (i : Nat) (v : Option V) (c : Cell), (vs.map some)[i]? = some v → (VL.outs P n δ)[i]? = some c → (σ[i]? = some v ∧ δ[i]? = some c) ∨ c = .un := by
    intro i v c h1 h2
    obtain ⟨hi, hc⟩ := outs_get h2
    by_cases hp : i ∈ P
    · rw [if_pos hp] at hc
      have hs := hk i hp hi
      rw [h1] at hs
      have hl : i < δ.length := by rw [← S.len]; exact (List.getElem?_eq_some_iff.mp hs).1
      refine .inl ⟨hs, ?_⟩
      rw [hc, List.getD_eq_getElem?_getD, List.getElem?_eq_getElem hl]; rfl
    · rw [if_neg hp] at hc
      exact .inr hc
  refine ⟨⟨S.gh, by rw [List.length_map, outs_len, hn], fun i v c h1 h2 => ?_, fun i j v w c e a h1 h2 h3 h4 h5 h6 => ?_⟩, fun b ⟨i, v, c, h1, h2, h3⟩ => ?_⟩
  · rcases sp i v c h1 h2 with ⟨a1, a2⟩ | rfl
    · exact S.at_ i v c a1 a2
    · cases v <;> trivial
  · rcases sp i v c h1 h2 with ⟨a1, a2⟩ | rfl
    · rcases sp j w e h3 h4 with ⟨b1, b2⟩ | rfl
      · exact S.dis i j v w c e a a1 a2 b1 b2 h5 h6
      · rw [adr_un] at h6; cases h6
    · rw [adr_un] at h5; cases h5
  · rcases sp i v c h1 h2 with ⟨a1, a2⟩ | rfl
    · exact ⟨i, v, c, a1, a2, h3⟩
    · rw [adr_un] at h3; cases h3
end
section
variable {Pg : Program} {w : World} {K : PySem.W.Frag} {mg : Str → Option Value} {base : Heap}
/-- THE RULE of a def that lets nothing out -/
theorem fn_ok {x qual : Str} {st : Stmt} {f : Addr} {fd : FuncData} {N ps : List Str} {k n m : Nat} {P : List Nat} {g : SF} (F : Fun K x qual st f fd) (S : FnScope N ps (defScope st)) (hn : ps.length = n) (hm : N.length = n + m)
    (hb : ∀ (cdv : Value) (A : Around) (outer : List PySem.Env) (s : Shared) (H : Hp) (E : XK), Room k (A.deeper (envOfC qual (defScope st) s.heap.objs.size f cdv)) → B_ (cxOf CX0 Pg w K mg base N qual (defScope st) f cdv A outer s H E).nox none P (defBody st) g) :
    FnOk Pg w K mg base CX0 (k + 1) f fd ps (spF K mg n (nox (fnM n P m g))) := by
  refine F.ok S (fun vs H Q E h => by rw [h.1, hn]) fun cdv A outer s H vs Q E hr h => ?_
  obtain ⟨t, pt, qt⟩ := hb cdv A outer s H E hr
  refine ⟨t, pt, ?_⟩
  obtain ⟨hv, G, cs, S0, h⟩ := h
  obtain ⟨S1, g1, _⟩ := S0.start (m := m)
  have e0 : L2.start N vs = vs.map some ++ List.replicate m none := by unfold L2.start; rw [hm, hv, Nat.add_sub_cancel_left]
  have hc : cs.length = n := by rw [← S0.len, List.length_map, hv]
  rw [e0]
  refine qt G H _ _ S1 _ ?_
  unfold nox fnM at h
  rw [if_pos hc] at h
  have fin : ∀ (δ' : Env) (σ' : L2.St) (G' H' : Hp), Grow (Ad (vs.map some ++ List.replicate m none) (cs ++ List.replicate m .un)) (Ad σ' δ') G H G' H' → Sta K mg G' H' σ' δ' → (∀ i ∈ P, σ'[i]? = (vs.map some ++ List.replicate m none)[i]?) →
      Grow (Ad (vs.map some) cs) (Ad (vs.map some) (outs P n δ')) G H G' H' ∧ Sta K mg G' H' (vs.map some) (outs P n δ') := by
    intro δ' σ' G' H' gr st kp
    obtain ⟨s2, a2⟩ := st.outs (P := P) hv fun i hi hin => by rw [kp i hi, List.getElem?_append_left (by rw [List.length_map]; omega)]
    have g12 := g1.trans gr
    exact ⟨⟨g12.gg, g12.fresh, g12.keep, g12.there, fun b hb => g12.new b (a2 b hb)⟩, s2⟩
  cases e : g (cs ++ List.replicate m .un) with
  | nx δ' =>
    simp only [e] at h
    intro σ' G' H' gr st kp
    obtain ⟨a, b⟩ := fin δ' σ' G' H' gr st kp
    exact h .non G' H' a b .non
  | rn d δ' => simp only [e] at h
  | rt d δ' =>
    simp only [e] at h
    intro v σ' G' H' gr st kp r
    obtain ⟨a, b⟩ := fin δ' σ' G' H' gr st kp
    exact h v G' H' a b r
  | bk δ' => simp only [e] at h
  | ct δ' => simp only [e] at h
  | ex x δ' => simp only [e] at h
  | un => simp only [e] at h
end

/-! ### calls -/
def argCell (δ : Env) (a : Arg) : Option Cell := match a with
  | .inl d => some (.im d)
  | .inr i => match δ[i]? with
    | some (.ml xs) => some (.ml xs)
    | some (.mi c fs) => some (.mi c fs)
    | _ => none
def argCells (δ : Env) : List Arg → Option Env
  | [] => some []
  | a :: as => match argCell δ a, argCells δ as with
    | some c, some cs => some (c :: cs)
    | _, _ => none
def argSlots : List Arg → List Nat
  | [] => []
  | .inl _ :: as => argSlots as
  | .inr i :: as => i :: argSlots as
def back : List Arg → Env → Env → Env
  | .inl _ :: as, _ :: cs, δ => back as cs δ
  | .inr i :: as, c :: cs, δ => back as cs (δ.set i c)
  | _, _, δ => δ
def callM (f : FF) (as : List Arg) : M D := fun δ => if (argSlots as).Nodup then match argCells δ as with
  | none => .un
  | some cs => match f cs with
    | .ok d cs' => .ok d (back as cs' δ)
    | .ex x cs' => .ex x (back as cs' δ)
    | .un => .un
  else .un
def eCall (f : FF) (m : M (List Arg)) : M D := M.bind m (callM f)
theorem mem_slots {i : Nat} : ∀ {as : List Arg} {j : Nat}, as[j]? = some (.inr i) → i ∈ argSlots as
  | [], _, h => by cases h
  | .inl d :: as, 0, h => by cases h
  | .inr k :: as, 0, h => by cases h; exact List.mem_cons_self
  | .inl d :: as, j + 1, h => mem_slots (as := as) (j := j) (by simpa using h)
  | .inr k :: as, j + 1, h => List.mem_cons_of_mem _ (mem_slots (as := as) (j := j) (by simpa using h))
theorem of_mem_slots {i : Nat} : ∀ {as : List Arg}, i ∈ argSlots as → ∃ j : Nat, as[j]? = some (.inr i)
  | [], h => by cases h
  | .inl d :: as, h => by
    obtain ⟨j, e⟩ := of_mem_slots (as := as) h
    exact ⟨j + 1, by simpa using e⟩
  | .inr k :: as, h => by
    rcases List.mem_cons.mp h with rfl | h
    · exact ⟨0, rfl⟩
    · obtain ⟨j, e⟩ := of_mem_slots (as := as) h
      exact ⟨j + 1, by simpa using e⟩
theorem slots_inj {i : Nat} : ∀ {as : List Arg} {j l : Nat}, (argSlots as).Nodup → as[j]? = some (.inr i) → as[l]? = some (.inr i) → j = l
  | [], _, _, _, h, _ => by cases h
  | .inl d :: as, 0, _, _, h, _ => by cases h
  | .inl d :: as, _, 0, _, _, h => by cases h
  | .inl d :: as, j + 1, l + 1, nd, h, h' => by rw [slots_inj (as := as) (j := j) (l := l) nd (by simpa using h) (by simpa using h')]
  | .inr k :: as, 0, 0, _, _, _ => rfl
  | .inr k :: as, 0, l + 1, nd, h, h' => by
    cases h
    exact absurd (mem_slots (as := as) (j := l) (by simpa using h')) (List.nodup_cons.mp nd).1
  | .inr k :: as, j + 1, 0, nd, h, h' => by
    cases h'
    exact absurd (mem_slots (as := as) (j := j) (by simpa using h)) (List.nodup_cons.mp nd).1
  | .inr k :: as, j + 1, l + 1, nd, h, h' => by rw [slots_inj (as := as) (j := j) (l := l) (List.nodup_cons.mp nd).2 (by simpa using h) (by simpa using h')]
theorem back_len : ∀ {as : List Arg} {cs δ : Env}, (back as cs δ).length = δ.length
  | [], _, _ => by cases ‹Env› <;> rfl
  | .inl d :: as, [], _ => rfl
  | .inr d :: as, [], _ => rfl
  | .inl d :: as, c :: cs, δ => back_len (as := as) (cs := cs) (δ := δ)
  | .inr i :: as, c :: cs, δ => by
    show (back as cs (δ.set i c)).length = _
    rw [back_len, List.length_set]
theorem back_other {i : Nat} : ∀ {as : List Arg} {cs δ : Env}, i ∉ argSlots as → (back as cs δ)[i]? = δ[i]?
  | [], cs, _, _ => by cases cs <;> rfl
  | .inl d :: as, [], _, _ => rfl
  | .inr d :: as, [], _, _ => rfl
  | .inl d :: as, c :: cs, δ, h => back_other (as := as) (cs := cs) (δ := δ) h
  | .inr k :: as, c :: cs, δ, h => by
    show (back as cs (δ.set k c))[i]? = _
    rw [back_other (fun z => h (List.mem_cons_of_mem _ z))]
    exact set_other fun z => h (by rw [z]; exact List.mem_cons_self)
theorem back_at {i : Nat} {c : Cell} : ∀ {as : List Arg} {cs δ : Env} {j : Nat}, (argSlots as).Nodup → as[j]? = some (.inr i) → cs[j]? = some c → i < δ.length → (back as cs δ)[i]? = some c
  | [], _, _, _, _, h, _, _ => by cases h
  | a :: as, [], _, _, _, _, h, _ => by cases h
  | .inl d :: as, _ :: cs, _, 0, _, h, _, _ => by cases h
  | .inl d :: as, _ :: cs, δ, j + 1, nd, h, h', hl => back_at (as := as) (cs := cs) (δ := δ) (j := j) nd (by simpa using h) (by simpa using h') hl
  | .inr k :: as, c' :: cs, δ, 0, nd, h, h', hl => by
    cases h
    cases h'
    show (back as cs (δ.set i c))[i]? = _
    rw [back_other (List.nodup_cons.mp nd).1, List.getElem?_set_self hl]
  | .inr k :: as, c' :: cs, δ, j + 1, nd, h, h', hl => back_at (as := as) (cs := cs) (δ := δ.set k c') (j := j) (List.nodup_cons.mp nd).2 (by simpa using h) (by simpa using h') (by rw [List.length_set]; exact hl)
theorem argCells_at {δ : Env} : ∀ {as : List Arg} {cs : Env} {j : Nat} {c : Cell}, argCells δ as = some cs → cs[j]? = some c → ∃ a, as[j]? = some a ∧ argCell δ a = some c
  | [], cs, j, c, h, h' => by cases h; cases h'
  | a :: as, cs, j, c, h, h' => by
    unfold argCells at h
    cases e1 : argCell δ a with
    | none => rw [e1] at h; cases h
    | some c1 =>
      cases e2 : argCells δ as with
      | none => rw [e1, e2] at h; cases h
      | some cs1 =>
        rw [e1, e2] at h
        cases h
        cases j with
        | zero => cases h'; exact ⟨a, rfl, e1⟩
        | succ j =>
          obtain ⟨b, q1, q2⟩ := argCells_at (as := as) (j := j) e2 (by simpa using h')
          exact ⟨b, by simpa using q1, q2⟩
theorem argCells_len {δ : Env} : ∀ {as : List Arg} {cs : Env}, argCells δ as = some cs → cs.length = as.length
  | [], cs, h => by cases h; rfl
  | a :: as, cs, h => by
    unfold argCells at h
    cases e1 : argCell δ a with
    | none => rw [e1] at h; cases h
    | some c1 =>
      cases e2 : argCells δ as with
      | none => rw [e1, e2] at h; cases h
      | some cs1 =>
        rw [e1, e2] at h
        cases h
        rw [List.length_cons, List.length_cons, argCells_len e2]
theorem Paired_at {α β : Type} {F : α → β → Prop} : ∀ {xs : List α} {ys : List β} {i : Nat} {x : α} {y : β}, Paired F xs ys → xs[i]? = some x → ys[i]? = some y → F x y
  | _, _, i, x, y, .nil, h, _ => by cases h
  | _, _, 0, x, y, .cons r t, h, h' => by cases h; cases h'; exact r
  | _, _, i + 1, x, y, .cons r t, h, h' => Paired_at (i := i) t (by simpa using h) (by simpa using h')
section
variable {K : PySem.W.Frag} {mg : Str → Option Value} {G H : Hp} {σ : L2.St} {δ cs : Env} {vs : List V} {as : List Arg}
theorem arg_at (S : Sta K mg G H σ δ) (r : Paired (ArgR K mg σ G) vs as) (hc : argCells δ as = some cs) {j : Nat} {v : Option V} {c : Cell} (h1 : (vs.map some)[j]? = some v) (h2 : cs[j]? = some c) :
    (∃ d, as[j]? = some (.inl d) ∧ c = .im d ∧ CellR K mg G H v c) ∨ (∃ i, as[j]? = some (.inr i) ∧ σ[i]? = some v ∧ δ[i]? = some c) := by
  obtain ⟨a, ha, hca⟩ := argCells_at hc h2
  rw [List.getElem?_map] at h1
  cases e : vs[j]? with
  | none => rw [e] at h1; cases h1
  | some x =>
    rw [e] at h1
    cases h1
    have q := Paired_at r e ha
    cases q with
    | d r => cases hca; exact .inl ⟨_, ha, rfl, r⟩
    | m r =>
      rename_i i
      refine .inr ⟨i, ha, r, ?_⟩
      unfold argCell at hca
      cases e2 : δ[i]? with
      | none => simp only [e2] at hca; cases hca
      | some c' => cases c' <;> simp only [e2] at hca <;> cases hca <;> rfl
theorem Sta.args (S : Sta K mg G H σ δ) (r : Paired (ArgR K mg σ G) vs as) (hc : argCells δ as = some cs) (nd : (argSlots as).Nodup) : Sta K mg G H (vs.map some) cs ∧ ∀ b, Ad (vs.map some) cs b → Ad σ δ b := by
  refine ⟨⟨S.gh, by rw [List.length_map, argCells_len hc, Paired.length r], fun j v c h1 h2 => ?_, fun j l v x c e a h1 h2 h3 h4 h5 h6 => ?_⟩, fun b ⟨j, v, c, h1, h2, h3⟩ => ?_⟩
  · rcases arg_at S r hc h1 h2 with ⟨d, _, _, q⟩ | ⟨i, _, q1, q2⟩
    · exact q
    · exact S.at_ i v c q1 q2
  · rcases arg_at S r hc h1 h2 with ⟨d, _, rfl, q⟩ | ⟨i, q0, q1, q2⟩
    · rw [adr_im] at h5; cases h5
    · rcases arg_at S r hc h3 h4 with ⟨d, _, rfl, q⟩ | ⟨i', p0, p1, p2⟩
      · rw [adr_im] at h6; cases h6
      · have := S.dis i i' v x c e a q1 q2 p1 p2 h5 h6
        subst this
        exact slots_inj nd q0 p0
  · rcases arg_at S r hc h1 h2 with ⟨d, _, rfl, q⟩ | ⟨i, q0, q1, q2⟩
    · rw [adr_im] at h3; cases h3
    · exact ⟨i, v, c, q1, q2, h3⟩
/-- behind a call the slots' own objects are what the def has left of them -/
theorem Sta.back {cs' : Env} {G' H' : Hp} (S : Sta K mg G H σ δ) (r : Paired (ArgR K mg σ G) vs as) (hc : argCells δ as = some cs) (nd : (argSlots as).Nodup) (gr : Grow (Ad (vs.map some) cs) (Ad (vs.map some) cs') G H G' H')
    (st : Sta K mg G' H' (vs.map some) cs') : Grow (Ad σ δ) (Ad σ (back as cs' δ)) G H G' H' ∧ Sta K mg G' H' σ (back as cs' δ) := by
  obtain ⟨S0, a0⟩ := S.args r hc nd
  have lv : vs.length = as.length := Paired.length r
  have lc' : cs'.length = as.length := by rw [← st.len, List.length_map, lv]
  -- what stands in a slot behind
  have sp : ∀ (i : Nat) (v : Option V) (c : Cell), σ[i]? = some v → (VL.back as cs' δ)[i]? = some c → (i ∉ argSlots as ∧ δ[i]? = some c) ∨ ∃ j : Nat, as[j]? = some (.inr i) ∧ (vs.map some)[j]? = some v ∧ cs'[j]? = some c := by
    intro i v c h1 h2
    by_cases hi : i ∈ argSlots as
    · obtain ⟨j, hj⟩ := of_mem_slots hi
      have hjl : j < as.length := (List.getElem?_eq_some_iff.mp hj).1
      have hl : i < δ.length := by rw [← S.len]; exact (List.getElem?_eq_some_iff.mp h1).1
      rw [back_at nd hj (List.getElem?_eq_getElem (by omega : j < cs'.length)) hl] at h2
      refine .inr ⟨j, hj, ?_, by rw [List.getElem?_eq_getElem (by omega : j < cs'.length)]; exact h2⟩
      have hv : vs[j]? = some vs[j] := List.getElem?_eq_getElem (by omega)
      have q := Paired_at r hv hj
      cases q with
      | m r =>
        rw [List.getElem?_map, hv]
        rw [h1] at r
        exact congrArg some (Option.some.inj r).symm
    · rw [back_other hi] at h2
      exact .inl ⟨hi, h2⟩
  -- a slot that is not handed in holds nothing of the call's
  have ap : ∀ (i : Nat) (v : Option V) (c : Cell) (a : Addr), i ∉ argSlots as → σ[i]? = some v → δ[i]? = some c → adr v c = some a → ¬ Ad (vs.map some) cs a := by
    rintro i v c a hi h1 h2 h3 ⟨j, x, e, k1, k2, k3⟩
    rcases arg_at S r hc k1 k2 with ⟨d, _, rfl, q⟩ | ⟨i', q0, q1, q2⟩
    · rw [adr_im] at k3; cases k3
    · have := S.dis i i' v x c e a h1 h2 q1 q2 h3 k3
      subst this
      exact hi (mem_slots q0)
  have stay : ∀ (i : Nat) (v : Option V) (c : Cell), i ∉ argSlots as → σ[i]? = some v → δ[i]? = some c → CellR K mg G' H' v c := fun i v c hi h1 h2 => (S.at_ i v c h1 h2).grow gr.gg fun a q => by
    obtain ⟨q1, q2⟩ := (S.at_ i v c h1 h2).there q
    have n := ap i v c a hi h1 h2 q
    exact ⟨by rw [gr.fresh a q1 n]; exact q2, fun o z => gr.keep a o z n⟩
  refine ⟨⟨gr.gg, fun b hb n => gr.fresh b hb fun z => n (a0 b z), fun b o e n => gr.keep b o e fun z => n (a0 b z), gr.there, fun b ⟨i, v, c, h1, h2, h3⟩ => ?_⟩, ⟨st.gh, by rw [back_len]; exact S.len, fun i v c h1 h2 => ?_, fun i l v x c e a h1 h2 h3 h4 h5 h6 => ?_⟩⟩
  · rcases sp i v c h1 h2 with ⟨hi, q⟩ | ⟨j, q0, q1, q2⟩
    · exact .inl ⟨i, v, c, h1, q, h3⟩
    · rcases gr.new b ⟨j, v, c, q1, q2, h3⟩ with z | z
      · exact .inl (a0 b z)
      · exact .inr z
  · rcases sp i v c h1 h2 with ⟨hi, q⟩ | ⟨j, q0, q1, q2⟩
    · exact stay i v c hi h1 q
    · exact st.at_ j v c q1 q2
  · rcases sp i v c h1 h2 with ⟨hi, q⟩ | ⟨j, q0, q1, q2⟩
    · rcases sp l x e h3 h4 with ⟨hl, p⟩ | ⟨j', p0, p1, p2⟩
      · exact S.dis i l v x c e a h1 q h3 p h5 h6
      · exfalso
        rcases gr.new a ⟨j', x, e, p1, p2, h6⟩ with z | z
        · exact ap i v c a hi h1 q h5 z
        · exact ((S.at_ i v c h1 q).there h5).1 z
    · rcases sp l x e h3 h4 with ⟨hl, p⟩ | ⟨j', p0, p1, p2⟩
      · exfalso
        rcases gr.new a ⟨j, v, c, q1, q2, h5⟩ with z | z
        · exact ap l x e a hl h3 p h6 z
        · exact ((S.at_ l x e h3 p).there h6).1 z
      · have := st.dis j j' v x c e a q1 q2 p1 p2 h5 h6
        subst this
        rw [q0] at p0
        cases p0
        rfl
end
section
variable {X : Cx} {W : Option WX} {P : List Nat} {pos p : Pos} {x : Str}
theorem ev_call {K : PySem.W.Frag} {mg : Str → Option Value} {ta : TA} {m : M (List Arg)} {f : FF} {n : Nat} (ha : Ev K mg (RArgs K mg) W P ta m) : Ev K mg (RD K mg) W P (tCall (spF K mg n (nox f)) [] E0 ta) (eCall (fun cs => if cs.length = n then nox f cs else .un) m) := by
  refine ha.bind fun G H σ δ vs as S r Q h => ?_
  unfold callM at h
  by_cases nd : (argSlots as).Nodup
  · rw [if_pos nd] at h
    cases e : argCells δ as with
    | none => simp only [e] at h; exact h.elim
    | some cs =>
      simp only [e] at h
      by_cases hl : cs.length = n
      · rw [if_pos hl] at h
        obtain ⟨S0, a0⟩ := S.args r e nd
        have lv : (vs.map some).length = cs.length := S0.len
        show spF K mg n (nox f) (vs ++ []) H Q E0
        rw [List.append_nil]
        refine ⟨by rw [List.length_map] at lv; omega, G, cs, S0, ?_⟩
        cases e2 : nox f cs with
        | ok d cs' =>
          simp only [e2] at h
          intro v G' H' gr st rr
          obtain ⟨g1, s1⟩ := S.back r e nd gr st
          exact h v G' H' g1 s1 rr
        | ex y cs' => unfold nox at e2; split at e2 <;> cases e2
        | un => simp only [e2] at h; exact h.elim
      · rw [if_neg hl] at h; exact h.elim
  · rw [if_neg nd] at h; exact h.elim
/-- THE RULE of a call of a def that lets nothing out -/
theorem e_call {k n : Nat} {f : Addr} {fd : FuncData} {ps : List Str} {ff : FF} {e : Expr} {es : List Expr} {m : M (List Arg)} (F : FnOk X.prog X.w X.K X.mg X.base CX0 k f fd ps (spF X.K X.mg n (nox ff))) (hr : Room k X.A) (hg : Gl X x) (hm : X.mg x = some (.ref f)) (hk : PySem.W.keepIn X.K (.ref f) = true)
    (hb : Binds X.K fd ps []) (ha : A_ X W P (e :: es) m) (hdb : (x == ("__debug__" : Str)) = false := by decide) (he : starEach (e :: es) X.env = (false, eval e X.env) :: starEach es X.env := by rfl) (hpl : (backTo pos (starEach es X.env)).any (·.1) = false := by rfl) :
    E_ X W P (.Call (.Name x p) (e :: es) [] pos) (eCall (fun cs => if cs.length = n then nox ff cs else .un) m) := by
  obtain ⟨ta, pa, qa⟩ := ha
  exact ⟨_, pe_call F hr hg hm hk hb .nil pass0 pa hdb he hpl, ev_call qa⟩
end
end VL
/-! The value layer: built-ins, subscripts, lists that a slot alone holds. -/
namespace VL
open PySem PySem.Spec PyProof.Rows L2

section
variable {X : Cx} {W : Option WX} {P : List Nat} {pos p : Pos} {x : Str}

/-! ### built-ins -/
def B1 (K : PySem.W.Frag) (mg : Str → Option Value) (r : List V → Hp → VK → Prop) (op : D → Option D) : Prop :=
  ∀ (G H : Hp) (x : V) (d z : D), Same G H → Rp K mg G x d → op d = some z → ∀ Q : VK, (∀ (v : V) (G' H' : Hp), Gro G H G' H' → Same G' H' → Rp K mg G' v z → Q v H') → r [x] H Q
def B2 (K : PySem.W.Frag) (mg : Str → Option Value) (r : List V → Hp → VK → Prop) (op : D → D → Option D) : Prop :=
  ∀ (G H : Hp) (x y : V) (d e z : D), Same G H → Rp K mg G x d → Rp K mg G y e → op d e = some z → ∀ Q : VK, (∀ (v : V) (G' H' : Hp), Gro G H G' H' → Same G' H' → Rp K mg G' v z → Q v H') → r [x, y] H Q
theorem ev_b1 {K : PySem.W.Frag} {mg : Str → Option Value} {r : List V → Hp → VK → Prop} {op : D → Option D} {ta : TE} {f : M D} (hd : B1 K mg r op) (ha : Ev K mg (RD K mg) W P ta f) : Ev K mg (RD K mg) W P (tCB r (tCons ta tNil)) (e1 op f) :=
  ha.map fun G H σ δ x d z S r e Q h => hd G H x d z S.gh r e Q h
theorem ev_b2 {K : PySem.W.Frag} {mg : Str → Option Value} {r : List V → Hp → VK → Prop} {op : D → D → Option D} {ta tb : TE} {f g : M D} (hd : B2 K mg r op) (ha : Ev K mg (RD K mg) W P ta f) (hb : Ev K mg (RD K mg) W P tb g) : Ev K mg (RD K mg) W P (tCB r (tCons ta (tCons tb tNil))) (e2 op f g) :=
  ev_op (r := fun x y H Q => r [x, y] H Q) (op := op) (fun G H x y d e z gh r1 r2 q Q k => hd G H x y d e z gh r1 r2 q Q k) ha hb
theorem e_b1 {id : String} {r : List V → Hp → VK → Prop} {op : D → Option D} {e : Expr} {f : M D} (hc : CallR X (.builtin id) r) (hd : B1 X.K X.mg r op) (hm : X.mg x = none) (hv : bootBuiltins x = some (.builtin id)) (ha : E_ X W P e f) (hg : Gl X x := by rfl) (hn : x ≠ "__name__" := by decide) (hdb : (x == ("__debug__" : Str)) = false := by decide)
    (he : starEach (e :: []) X.env = (false, eval e X.env) :: starEach [] X.env := by rfl) (hpl : (backTo pos (starEach [] X.env)).any (·.1) = false := by rfl) : E_ X W P (.Call (.Name x p) [e] [] pos) (e1 op f) := by
  obtain ⟨ta, pa, qa⟩ := ha
  exact ⟨_, pe_callB hc hg hm hv (pa_cons pa pa_nil he) hn hdb he hpl, ev_b1 hd qa⟩
theorem e_ty1 {T : String} {r : List V → Hp → VK → Prop} {op : D → Option D} {e : Expr} {f : M D} (hc : CallR X (.type T) r) (hd : B1 X.K X.mg r op) (hm : X.mg x = none) (hv : bootBuiltins x = some (.type T)) (ha : E_ X W P e f) (hg : Gl X x := by rfl) (hn : x ≠ "__name__" := by decide) (hdb : (x == ("__debug__" : Str)) = false := by decide)
    (he : starEach (e :: []) X.env = (false, eval e X.env) :: starEach [] X.env := by rfl) (hpl : (backTo pos (starEach [] X.env)).any (·.1) = false := by rfl) : E_ X W P (.Call (.Name x p) [e] [] pos) (e1 op f) := by
  obtain ⟨ta, pa, qa⟩ := ha
  exact ⟨_, pe_callTy hc hg hm hv (pa_cons pa pa_nil he) hn hdb he hpl, ev_b1 hd qa⟩
theorem e_b2 {id : String} {r : List V → Hp → VK → Prop} {op : D → D → Option D} {a b : Expr} {f g : M D} (hc : CallR X (.builtin id) r) (hd : B2 X.K X.mg r op) (hm : X.mg x = none) (hv : bootBuiltins x = some (.builtin id)) (ha : E_ X W P a f) (hb : E_ X W P b g) (hg : Gl X x := by rfl) (hn : x ≠ "__name__" := by decide) (hdb : (x == ("__debug__" : Str)) = false := by decide)
    (he : starEach (a :: [b]) X.env = (false, eval a X.env) :: starEach [b] X.env := by rfl) (he' : starEach (b :: []) X.env = (false, eval b X.env) :: starEach [] X.env := by rfl) (hpl : (backTo pos (starEach [b] X.env)).any (·.1) = false := by rfl) : E_ X W P (.Call (.Name x p) [a, b] [] pos) (e2 op f g) := by
  obtain ⟨ta, pa, qa⟩ := ha
  obtain ⟨tb, pb, qb⟩ := hb
  exact ⟨_, pe_callB hc hg hm hv (pa_cons pa (pa_cons pb pa_nil he') he) hn hdb he hpl, ev_b2 hd qa qb⟩
def dAbs (d : D) : Option D := match d with
  | .int i => some (.int (if i < 0 then -i else i))
  | _ => none
def dInt (d : D) : Option D := match d with
  | .int i => some (.int i)
  | .bl k => some (.int (if k then 1 else 0))
  | _ => none
def dLen (d : D) : Option D := match d with
  | .lst xs => some (.int xs.length)
  | .tup xs => some (.int xs.length)
  | .scr xs => some (.int xs.length)
  | .str s => if s.length ≤ sizeLine then some (.int s.length) else none
  | _ => none
def dMax (d e : D) : Option D := match d, e with
  | .int i, .int j => some (.int (if j > i then j else i))
  | _, _ => none
def dMin (d e : D) : Option D := match d, e with
  | .int i, .int j => some (.int (if j < i then j else i))
  | _, _ => none
section
variable {K : PySem.W.Frag} {mg : Str → Option Value}
theorem b_abs : B1 K mg (fun xs H Q => ∃ i, xs = [.int i] ∧ Q (.int (if i < 0 then -i else i)) H) dAbs := fun G H x d z gh r q Q k => by
  cases d with
  | int i => cases q; exact ⟨i, by rw [r.int'], now gh (.int _) k⟩
  | _ => cases q
theorem b_int : B1 K mg (fun xs H Q => (∃ i, xs = [.int i] ∧ Q (.int i) H) ∨ ∃ k : Bool, xs = [.bl k] ∧ Q (.int (if k then 1 else 0)) H) dInt := fun G H x d z gh r q Q k => by
  cases d with
  | int i => cases q; exact .inl ⟨_, by rw [r.int'], now gh (.int _) k⟩
  | bl b => cases q; exact .inr ⟨_, by rw [r.bl'], now gh (.int _) k⟩
  | _ => cases q
def rLen (K : PySem.W.Frag) : List V → Hp → VK → Prop := fun xs H Q => (∃ p ys, xs = [.ref p] ∧ (SqL K H p ys ∨ SqT K H p ys) ∧ Q (.int ys.length) H) ∨ (∃ z, xs = [.str z] ∧ z.length ≤ sizeLine ∧ Q (.int z.length) H)
theorem b_len : B1 K mg (rLen K) dLen := fun G H x d z gh r q Q k => by
  cases d with
  | lst xs =>
    cases q
    obtain ⟨a, vs, rfl, h1, h2⟩ := r.lst'
    exact .inl ⟨a, vs, rfl, .inl (SqL.of (gh _ _ h1)), by rw [h2.len]; exact now gh (.int _) k⟩
  | scr xs =>
    cases q
    obtain ⟨a, vs, rfl, h1, h2⟩ := r.scr'
    exact .inl ⟨a, vs, rfl, .inl (gh.seq h1), by rw [h2.len]; exact now gh (.int _) k⟩
  | tup xs =>
    cases q
    obtain ⟨a, vs, rfl, h1, h2⟩ := r.tup'
    exact .inl ⟨a, vs, rfl, .inr (same_t gh h1), by rw [h2.len]; exact now gh (.int _) k⟩
  | str s =>
    unfold dLen at q
    dsimp only at q
    split at q
    · cases q
      exact .inr ⟨s, by rw [r.str'], by assumption, now gh (.int _) k⟩
    · cases q
  | _ => cases q
theorem b_max : B2 K mg (fun xs H Q => ∃ i j, xs = [.int i, .int j] ∧ Q (.int (if j > i then j else i)) H) dMax := fun G H x y d e z gh r1 r2 q Q k => by
  cases d with
  | int i => cases e with
    | int j => cases q; exact ⟨i, j, by rw [r1.int', r2.int'], now gh (.int _) k⟩
    | _ => cases q
  | _ => cases q
theorem b_min : B2 K mg (fun xs H Q => ∃ i j, xs = [.int i, .int j] ∧ Q (.int (if j < i then j else i)) H) dMin := fun G H x y d e z gh r1 r2 q Q k => by
  cases d with
  | int i => cases e with
    | int j => cases q; exact ⟨i, j, by rw [r1.int', r2.int'], now gh (.int _) k⟩
    | _ => cases q
  | _ => cases q
end
theorem call_len : CallR X (.builtin "len") (rLen X.K) := call_len_seq.or call_len_str
theorem e_abs {e : Expr} {f : M D} (hm : X.mg "abs" = none) (ha : E_ X W P e f) (hg : Gl X "abs" := by rfl) (he : starEach (e :: []) X.env = (false, eval e X.env) :: starEach [] X.env := by rfl) (hpl : (backTo pos (starEach [] X.env)).any (·.1) = false := by rfl) : E_ X W P (.Call (.Name "abs" p) [e] [] pos) (e1 dAbs f) :=
  e_b1 call_abs b_abs hm (by decide +kernel) ha hg (by decide) (by decide) he hpl
theorem e_len {e : Expr} {f : M D} (hm : X.mg "len" = none) (ha : E_ X W P e f) (hg : Gl X "len" := by rfl) (he : starEach (e :: []) X.env = (false, eval e X.env) :: starEach [] X.env := by rfl) (hpl : (backTo pos (starEach [] X.env)).any (·.1) = false := by rfl) : E_ X W P (.Call (.Name "len" p) [e] [] pos) (e1 dLen f) :=
  e_b1 call_len b_len hm (by decide +kernel) ha hg (by decide) (by decide) he hpl
theorem e_intOf {e : Expr} {f : M D} (hm : X.mg "int" = none) (ha : E_ X W P e f) (hg : Gl X "int" := by rfl) (he : starEach (e :: []) X.env = (false, eval e X.env) :: starEach [] X.env := by rfl) (hpl : (backTo pos (starEach [] X.env)).any (·.1) = false := by rfl) : E_ X W P (.Call (.Name "int" p) [e] [] pos) (e1 dInt f) :=
  e_ty1 call_int1 b_int hm (by decide +kernel) ha hg (by decide) (by decide) he hpl
theorem e_max {a b : Expr} {f g : M D} (hc : X.calm = true) (hm : X.mg "max" = none) (ha : E_ X W P a f) (hb : E_ X W P b g) (hg : Gl X "max" := by rfl) (he : starEach (a :: [b]) X.env = (false, eval a X.env) :: starEach [b] X.env := by rfl) (he' : starEach (b :: []) X.env = (false, eval b X.env) :: starEach [] X.env := by rfl) (hpl : (backTo pos (starEach [b] X.env)).any (·.1) = false := by rfl) :
    E_ X W P (.Call (.Name "max" p) [a, b] [] pos) (e2 dMax f g) := e_b2 (call_max2 hc) b_max hm (by decide +kernel) ha hb hg (by decide) (by decide) he he' hpl
theorem e_min {a b : Expr} {f g : M D} (hc : X.calm = true) (hm : X.mg "min" = none) (ha : E_ X W P a f) (hb : E_ X W P b g) (hg : Gl X "min" := by rfl) (he : starEach (a :: [b]) X.env = (false, eval a X.env) :: starEach [b] X.env := by rfl) (he' : starEach (b :: []) X.env = (false, eval b X.env) :: starEach [] X.env := by rfl) (hpl : (backTo pos (starEach [b] X.env)).any (·.1) = false := by rfl) :
    E_ X W P (.Call (.Name "min" p) [a, b] [] pos) (e2 dMin f g) := e_b2 (call_min2 hc) b_min hm (by decide +kernel) ha hb hg (by decide) (by decide) he he' hpl

/-! ### is True, is False of a bool or None -/
def dIsB (d e : D) : Option D := match d, e with
  | .bl a, .bl b => some (.bl (decide (a = b)))
  | .non, .bl _ => some (.bl false)
  | _, _ => none
def dNotB (d e : D) : Option D := match d, e with
  | .bl a, .bl b => some (.bl (!decide (a = b)))
  | .non, .bl _ => some (.bl true)
  | _, _ => none
theorem op_isK : OpR X (compareOp .Is) (fun x y H Q => rIsB x y H Q ∨ ∃ b : Bool, x = .non ∧ y = .bl b ∧ Q (.bl false) H) := by
  refine OpR.or op_isBl ?_
  intro pins s σ H x y v u Q I rx ry h
  obtain ⟨b, rfl, rfl, q⟩ := h
  cases (show v = Value.none from rx)
  cases (show u = Value.bool b from ry)
  exact wpAny_is_other rfl (fun z => by cases z) ⟨.bl false, H, I, rfl, q⟩
theorem op_notK : OpR X (compareOp .IsNot) (fun x y H Q => rNotB x y H Q ∨ ∃ b : Bool, x = .non ∧ y = .bl b ∧ Q (.bl true) H) := by
  refine OpR.or op_notBl ?_
  intro pins s σ H x y v u Q I rx ry h
  obtain ⟨b, rfl, rfl, q⟩ := h
  cases (show v = Value.none from rx)
  cases (show u = Value.bool b from ry)
  exact wpAny_isNot_other rfl (fun z => by cases z) ⟨.bl true, H, I, rfl, q⟩
theorem opd_isB {K : PySem.W.Frag} {mg : Str → Option Value} : OpD K mg (fun x y H Q => rIsB x y H Q ∨ ∃ b : Bool, x = .non ∧ y = .bl b ∧ Q (.bl false) H) dIsB := fun G H x y d e z gh r1 r2 q Q k => by
  unfold dIsB at q
  split at q
  · cases q
    exact .inl ⟨_, _, r1.bl', r2.bl', now gh (.bl _) k⟩
  · cases q
    exact .inr ⟨_, r1.non', r2.bl', now gh (.bl _) k⟩
  · cases q
theorem opd_notB {K : PySem.W.Frag} {mg : Str → Option Value} : OpD K mg (fun x y H Q => rNotB x y H Q ∨ ∃ b : Bool, x = .non ∧ y = .bl b ∧ Q (.bl true) H) dNotB := fun G H x y d e z gh r1 r2 q Q k => by
  unfold dNotB at q
  split at q
  · cases q
    exact .inl ⟨_, _, r1.bl', r2.bl', now gh (.bl _) k⟩
  · cases q
    exact .inr ⟨_, r1.non', r2.bl', now gh (.bl _) k⟩
  · cases q

/-! ### subscripts -/
def dIx (d e : D) : Option D := match e with
  | .int i => match d with
    | .lst xs => atI xs i
    | .tup xs => atI xs i
    | .scr xs => atI xs i
    | .str s => if s.length ≤ sizeLine then (atI s.cps.toList i).map fun c => .str ⟨#[c]⟩ else none
    | _ => none
  | _ => none
theorem RpAll.atI {K : PySem.W.Frag} {mg : Str → Option Value} {G : Hp} {vs : List V} {ds : List D} {i : Int} {d : D} (r : RpAll K mg G vs ds) (h : L2.atI ds i = some d) : ∃ v, L2.atI vs i = some v ∧ Rp K mg G v d := by
  unfold L2.atI at h ⊢
  rw [r.len]
  cases e : ixN ds.length i with
  | none => rw [e] at h; cases h
  | some j =>
    rw [e] at h
    exact r.at h
theorem opd_ix {K : PySem.W.Frag} {mg : Str → Option Value} : OpD K mg (rIx K) dIx := fun G H x y d e z gh r1 r2 q Q k => by
  unfold dIx at q
  cases e with
  | int i =>
    dsimp only at q
    have ey := r2.int'
    cases d with
    | lst xs =>
      obtain ⟨a, vs, rfl, h1, h2⟩ := r1.lst'
      obtain ⟨v, q1, q2⟩ := h2.atI q
      exact .inl ⟨a, vs, i, v, rfl, ey, SqL.of (gh _ _ h1), q1, now gh q2 k⟩
    | scr xs =>
      obtain ⟨a, vs, rfl, h1, h2⟩ := r1.scr'
      obtain ⟨v, q1, q2⟩ := h2.atI q
      exact .inl ⟨a, vs, i, v, rfl, ey, gh.seq h1, q1, now gh q2 k⟩
    | tup xs =>
      obtain ⟨a, vs, rfl, h1, h2⟩ := r1.tup'
      obtain ⟨v, q1, q2⟩ := h2.atI q
      exact .inr (.inl ⟨a, vs, i, v, rfl, ey, same_t gh h1, q1, now gh q2 k⟩)
    | str s =>
      dsimp only at q
      split at q
      · cases e : L2.atI s.cps.toList i with
        | none => rw [e] at q; cases q
        | some c =>
          rw [e] at q
          cases q
          exact .inr (.inr ⟨s, i, c, r1.str', ey, by assumption, e, now gh (.str _) k⟩)
      · cases q
    | _ => cases q
  | _ => cases q
theorem e_ix {a b : Expr} {f g : M D} (ha : E_ X W P a f) (hb : E_ X W P b g) (hs : PlainIx b := by exact fun _ _ => rfl) : E_ X W P (.Subscript a b pos) (e2 dIx f g) := by
  obtain ⟨ta, pa, qa⟩ := ha
  obtain ⟨tb, pb, qb⟩ := hb
  exact ⟨_, pe_ix ix_seq pa pb hs, ev_op opd_ix qa qb⟩
/-- slices -/
def cutD (xs : List D) (lo hi : Option Int) : List D := (xs.drop (HT.sIx xs.length 0 lo)).take (HT.sIx xs.length xs.length hi - HT.sIx xs.length 0 lo)
theorem RpAll.cut {K : PySem.W.Frag} {mg : Str → Option Value} {G : Hp} {vs : List V} {ds : List D} (r : RpAll K mg G vs ds) (lo hi : Option Int) : RpAll K mg G (cutV vs lo hi) (cutD ds lo hi) := by
  unfold cutV cutD
  rw [r.len]
  exact (r.drop _).take _
def asI (d : D) : Option (Option Int) := match d with
  | .int i => some (some i)
  | _ => none
def RO : RRel (Option Int) (Option Int) := fun _ _ _ _ b a => b = a
def O_ (X : Cx) (W : Option WX) (P : List Nat) (e : Option Expr) (f : M (Option Int)) : Prop := ∃ t, PO X e t ∧ Ev X.K X.mg RO W P t f
def oSome (m : M D) : M (Option Int) := M.bind m fun d => lift (asI d)
theorem o_none : O_ X W P none (M.ret none) := ⟨_, po_none, Ev.const fun _ _ _ _ => rfl⟩
theorem o_some {e : Expr} {f : M D} (h : E_ X W P e f) : O_ X W P (some e) (oSome f) := by
  obtain ⟨t, p, q⟩ := h
  refine ⟨_, po_some p, q.map fun G H σ δ x d z S r e Q h => ?_⟩
  cases d with
  | int i => cases e; exact ⟨i, Rp.int' r, h _ G H Grow.refl S.gh rfl⟩
  | _ => cases e
def dSl (d : D) (lo hi : Option Int) : Option D := match d with
  | .lst xs => some (.lst (cutD xs lo hi))
  | .scr xs => some (.lst (cutD xs lo hi))
  | .tup xs => if HT.sIx xs.length 0 lo = 0 ∧ HT.sIx xs.length xs.length hi = xs.length then some (.tup xs) else some (.tup (cutD xs lo hi))
  | _ => none
def eSl (a : M D) (lo hi : M (Option Int)) : M D := M.bind a fun d => M.bind lo fun l => M.bind hi fun h => lift (dSl d l h)
def rSl2 (K : PySem.W.Frag) : V → Option Int → Option Int → Hp → VK → Prop := fun x lo hi H Q => rSlL K x lo hi H Q ∨ rSlA K x lo hi H Q
theorem sl_cut {K : PySem.W.Frag} {mg : Str → Option Value} {G H : Hp} {x : V} {d z : D} {lo hi : Option Int} (gh : Same G H) (r : Rp K mg G x d) (q : dSl d lo hi = some z) (Q : VK) (k : ∀ (v : V) (G' H' : Hp), Gro G H G' H' → Same G' H' → Rp K mg G' v z → Q v H') : rSl2 K x lo hi H Q := by
  unfold dSl at q
  cases d with
  | lst xs =>
    cases q
    obtain ⟨a, vs, rfl, h1, h2⟩ := r.lst'
    exact .inl ⟨a, vs, rfl, SqL.of (gh _ _ h1), new_lst gh (h2.cut lo hi) k⟩
  | scr xs =>
    cases q
    obtain ⟨a, vs, rfl, h1, h2⟩ := r.scr'
    exact .inl ⟨a, vs, rfl, gh.seq h1, new_lst gh (h2.cut lo hi) k⟩
  | tup xs =>
    obtain ⟨a, vs, rfl, h1, h2⟩ := r.tup'
    refine .inr ⟨a, vs, rfl, same_t gh h1, fun hw => ?_, fun hw => ?_⟩
    · rw [h2.len] at hw
      dsimp only at q
      rw [if_pos hw] at q
      cases q
      exact now gh (.tup h1 h2) k
    · rw [h2.len] at hw
      dsimp only at q
      rw [if_neg hw] at q
      cases q
      exact new_tup gh (h2.cut lo hi) k
  | _ => cases q
theorem e_sl {a : Expr} {lo hi : Option Expr} {f : M D} {l h : M (Option Int)} {p2 : Pos} (ha : E_ X W P a f) (hl : O_ X W P lo l) (hh : O_ X W P hi h) : E_ X W P (.Subscript a (.Slice lo hi none p2) pos) (eSl f l h) := by
  obtain ⟨ta, pa, qa⟩ := ha
  obtain ⟨tl, pl, ql⟩ := hl
  obtain ⟨th, ph, qh⟩ := hh
  refine ⟨_, pe_slice (SlR.or sl_list sl_tupA) pa pl ph, qa.bind fun G H σ δ x d S r Q k => ?_⟩
  refine ql G H σ δ S _ ?_
  cases e1 : l δ with
  | un => rw [M.bind_un e1] at k; exact k
  | ex y δ' => rw [M.bind_ex e1] at k; exact k
  | ok lo' δ1 =>
    rw [M.bind_ok e1] at k
    rintro lo'' G1 H1 g1 s1 rfl
    refine qh G1 H1 σ δ1 s1 _ ?_
    cases e2 : h δ1 with
    | un => rw [M.bind_un e2] at k; exact k
    | ex y δ' => rw [M.bind_ex e2] at k; exact XP.shift (show XP X.K X.mg W P G H σ δ y δ' from k) g1 fun _ _ => rfl
    | ok hi' δ2 =>
      rw [M.bind_ok e2] at k
      rintro hi'' G2 H2 g2 s2 rfl
      cases e3 : dSl d lo'' hi'' with
      | none => rw [lift_none e3] at k; exact k.elim
      | some z =>
        rw [lift_some e3] at k
        refine sl_cut s2.gh (Rp.mono (g1.gg.trans g2.gg) r) e3 Q fun v G3 H3 g3 gh3 r3 => ?_
        exact k v G3 H3 ((g1.trans g2).trans (g3.any fun _ q => q)) (s2.gro g3 gh3) r3

/-! ### a list that a slot alone holds -/
/-- len(x) -/
def eLenV (i : Nat) : M D := fun δ => match δ[i]? with
  | some (.ml xs) => .ok (.int xs.length) δ
  | _ => e1 dLen (eVar i) δ
theorem e_lenV (i : Nat) {y : Str} {py : Pos} (hm : X.mg "len" = none) (hN : X.N[i]? = some y := by rfl) (hv : Vis X.env.scope y := by first | exact Or.inl rfl | exact Or.inr (Or.inl rfl) | exact Or.inr (Or.inr rfl)) (hd : (y == ("__debug__" : Str)) = false := by decide)
    (hcd : (y == ("__classdict__" : Str)) = false := by decide) (hg : Gl X "len" := by rfl) (he : starEach (Expr.Name y py :: []) X.env = (false, eval (Expr.Name y py) X.env) :: starEach [] X.env := by rfl) (hpl : (backTo pos (starEach [] X.env)).any (·.1) = false := by rfl) : E_ X W P (.Call (.Name "len" p) [.Name y py] [] pos) (eLenV i) := by
  refine ⟨_, pe_callB call_len hg hm (by decide +kernel) (pa_cons (pe_var hN hv hd hcd) pa_nil he) (by decide) (by decide) he hpl, ?_⟩
  intro G H σ δ S Q h
  unfold eLenV at h
  cases e : δ[i]? with
  | none => simp only [e] at h; exact ev_b1 b_len (ev_var i) G H σ δ S Q h
  | some c =>
    cases c with
    | ml xs =>
      simp only [e] at h
      obtain ⟨w, hw, r⟩ := S.slot e
      obtain ⟨a, vs, rfl, g, h1, h2⟩ := r.ml'
      exact ⟨_, hw, .inl ⟨a, vs, rfl, .inl (SqL.of h1), by rw [h2.len]; exact h.go S (.int _)⟩⟩
    | _ => simp only [e] at h; exact ev_b1 b_len (ev_var i) G H σ δ S Q h
/-- x[b] -/
def eIxV (i : Nat) (b : M D) : M D := fun δ => match δ[i]? with
  | some (.ml _) => M.bind b (fun e δ' => match δ'[i]? with
    | some (.ml ys) => lift (dIx (.lst ys) e) δ'
    | _ => .un) δ
  | _ => e2 dIx (eVar i) b δ
theorem e_ixV (i : Nat) {y : Str} {py : Pos} {b : Expr} {f : M D} (hb : E_ X W P b f) (hN : X.N[i]? = some y := by rfl) (hv : Vis X.env.scope y := by first | exact Or.inl rfl | exact Or.inr (Or.inl rfl) | exact Or.inr (Or.inr rfl)) (hd : (y == ("__debug__" : Str)) = false := by decide)
    (hcd : (y == ("__classdict__" : Str)) = false := by decide) (hs : PlainIx b := by exact fun _ _ => rfl) : E_ X W P (.Subscript (.Name y py) b pos) (eIxV i f) := by
  obtain ⟨tb, pb, qb⟩ := hb
  refine ⟨_, pe_ix ix_seq (pe_var hN hv hd hcd) pb hs, ?_⟩
  intro G H σ δ S Q h
  unfold eIxV at h
  cases e : δ[i]? with
  | none => simp only [e] at h; exact ev_op opd_ix (ev_var i) qb G H σ δ S Q h
  | some c =>
    cases c with
    | ml xs =>
      simp only [e] at h
      obtain ⟨w, hw, r⟩ := S.slot e
      obtain ⟨a, vs, rfl, g, h1, h2⟩ := r.ml'
      refine ⟨_, hw, qb G H σ δ S _ ?_⟩
      cases e1 : f δ with
      | un => rw [M.bind_un e1] at h; exact h
      | ex y δ' => rw [M.bind_ex e1] at h; exact h
      | ok d δ' =>
        rw [M.bind_ok e1] at h
        intro y G' H' gr st rr
        cases e2 : δ'[i]? with
        | none => simp only [e2] at h; exact h.elim
        | some c' =>
          cases c' with
          | ml ys =>
            simp only [e2] at h
            have r' := st.at_ i _ _ hw e2
            obtain ⟨a', ws, ea, g', k1, k2⟩ := r'.ml'
            cases ea
            cases e3 : dIx (.lst ys) d with
            | none => rw [lift_none e3] at h; exact h.elim
            | some z =>
              rw [lift_some e3] at h
              unfold dIx at e3
              cases d with
              | int j =>
                obtain ⟨v, q1, q2⟩ := k2.atI e3
                exact .inl ⟨a, ws, j, v, rfl, Rp.int' rr, SqL.of k1, q1, h v G' H' gr st q2⟩
              | _ => cases e3
          | _ => simp only [e2] at h; exact h.elim
    | _ => simp only [e] at h; exact ev_op opd_ix (ev_var i) qb G H σ δ S Q h
/-- x.append(e) -/
def gApp (i : Nat) (m : M D) : SF := fun δ => match δ[i]? with
  | some (.ml _) => gOf m (fun d δ' => match δ'[i]? with
    | some (.ml ys) => if ys.length < sizeLine then .nx (δ'.set i (.ml (ys ++ [d]))) else .un
    | _ => .un) δ
  | _ => .un
theorem s_app (i : Nat) {y : Str} {py apos cpos : Pos} {e : Expr} {m : M D} (he : E_ X W P e m) (hN : X.N[i]? = some y := by rfl) (hv : Vis X.env.scope y := by first | exact Or.inl rfl | exact Or.inr (Or.inl rfl) | exact Or.inr (Or.inr rfl)) (hd : (y == ("__debug__" : Str)) = false := by decide)
    (hcd : (y == ("__classdict__" : Str)) = false := by decide) (hse : starEach (e :: []) X.env = (false, eval e X.env) :: starEach [] X.env := by rfl)
    (hpe : ∀ {t : TE}, PE X e t → PE X (.Call (.Attribute (.Name y py) "append" apos) [e] [] cpos) (tBM X.K "list" rAppend (tVar i) (tCons t tNil)) := by intro t h; exact pe_bm PySem.F.plainAttrs_list PySem.F.slot_list_append PySem.F.type_list_append mt_append (pv _) (pa_cons h pa_nil))
    (hs : swapsWith (.Call (.Attribute (.Name y py) "append" apos) [e] [] cpos) none pos.line X.env = pure false := by rfl) : S_ X W P (.Expr (.Call (.Attribute (.Name y py) "append" apos) [e] [] cpos) pos) (gApp i m) := by
  obtain ⟨te, pe, qe⟩ := he
  refine ⟨_, ps_expr (hpe pe) hs, ?_⟩
  intro G H σ δ S Z h
  unfold gApp at h
  cases e0 : δ[i]? with
  | none => simp only [e0] at h; exact h.elim
  | some c =>
    cases c with
    | ml xs =>
      simp only [e0] at h
      obtain ⟨w, hw, r⟩ := S.slot e0
      obtain ⟨a, vs, rfl, g, h1, h2⟩ := r.ml'
      refine ⟨_, hw, .inl ⟨rfl, _, SqL.of h1⟩, ?_⟩
      refine qe G H σ δ S _ ?_
      cases e1 : m δ with
      | un => rw [gOf_un e1] at h; exact h
      | ex x δ' => rw [gOf_ex e1] at h; exact h
      | ok d δ' =>
        rw [gOf_ok e1] at h
        intro v G' H' gr st rr
        cases e2 : δ'[i]? with
        | none => simp only [e2] at h; exact h.elim
        | some c' =>
          cases c' with
          | ml ys =>
            simp only [e2] at h
            by_cases hz : ys.length < sizeLine
            · rw [if_pos hz] at h
              obtain ⟨a', ws, ea, g', k1, k2⟩ := (st.at_ i _ _ hw e2).ml'
              cases ea
              obtain ⟨x1, x2⟩ := st.turn (o := .lst (ws ++ [v])) (c' := .ml (ys ++ [d])) hw e2 rfl rfl ⟨g', _, upd_same, k2.app (.cons rr .nil)⟩
              exact ⟨a, ws, v, rfl, rfl, k1, by rw [k2.len]; exact hz, h σ G' _ (gr.trans x1) x2 fun _ _ => rfl⟩
            · rw [if_neg hz] at h; exact h.elim
          | _ => simp only [e2] at h; exact h.elim
    | _ => simp only [e0] at h; exact h.elim
/-- x.pop() -/
def ePop (i : Nat) : M D := fun δ => match δ[i]? with
  | some (.ml xs) => match xs[xs.length - 1]? with
    | some d => .ok d (δ.set i (.ml xs.dropLast))
    | none => .un
  | _ => .un
theorem e_pop (i : Nat) {y : Str} {py apos cpos : Pos} (hN : X.N[i]? = some y := by rfl) (hv : Vis X.env.scope y := by first | exact Or.inl rfl | exact Or.inr (Or.inl rfl) | exact Or.inr (Or.inr rfl)) (hd : (y == ("__debug__" : Str)) = false := by decide)
    (hcd : (y == ("__classdict__" : Str)) = false := by decide)
    (hbase : attributeBase (.Name y py) "pop" X.env (eval (.Name y py) X.env) = eval (.Name y py) X.env := by rfl) (hline : (apos.endLine == cpos.line) = true := by rfl) : E_ X W P (.Call (.Attribute (.Name y py) "pop" apos) [] [] cpos) (ePop i) := by
  refine ⟨_, pe_bm0 PySem.F.plainAttrs_list PySem.F.slot_list_pop PySem.F.type_list_pop mt_pop (pe_var hN hv hd hcd) hbase hline, ?_⟩
  intro G H σ δ S Q h
  unfold ePop at h
  cases e0 : δ[i]? with
  | none => simp only [e0] at h; exact h.elim
  | some c =>
    cases c with
    | ml xs =>
      simp only [e0] at h
      obtain ⟨w, hw, r⟩ := S.slot e0
      obtain ⟨a, vs, rfl, g, h1, h2⟩ := r.ml'
      cases e1 : xs[xs.length - 1]? with
      | none => simp only [e1] at h; exact h.elim
      | some d =>
        simp only [e1] at h
        obtain ⟨v, hv', rv⟩ := h2.at e1
        obtain ⟨x1, x2⟩ := S.turn (o := .lst vs.dropLast) (c' := .ml xs.dropLast) hw e0 rfl rfl ⟨g, _, upd_same, h2.dropLast⟩
        exact ⟨_, hw, .inl ⟨rfl, _, SqL.of h1⟩, a, vs, v, rfl, rfl, h1, by rw [h2.len]; exact hv', h v G _ x1 x2 rv⟩
    | _ => simp only [e0] at h; exact h.elim
/-- x.reverse() -/
def gRev (i : Nat) : SF := fun δ => match δ[i]? with
  | some (.ml xs) => .nx (δ.set i (.ml xs.reverse))
  | _ => .un
theorem s_rev (i : Nat) {y : Str} {py apos cpos : Pos} (hN : X.N[i]? = some y := by rfl) (hv : Vis X.env.scope y := by first | exact Or.inl rfl | exact Or.inr (Or.inl rfl) | exact Or.inr (Or.inr rfl)) (hd : (y == ("__debug__" : Str)) = false := by decide)
    (hcd : (y == ("__classdict__" : Str)) = false := by decide)
    (hbase : attributeBase (.Name y py) "reverse" X.env (eval (.Name y py) X.env) = eval (.Name y py) X.env := by rfl) (hline : (apos.endLine == cpos.line) = true := by rfl)
    (hs : swapsWith (.Call (.Attribute (.Name y py) "reverse" apos) [] [] cpos) none pos.line X.env = pure false := by rfl) : S_ X W P (.Expr (.Call (.Attribute (.Name y py) "reverse" apos) [] [] cpos) pos) (gRev i) := by
  refine ⟨_, ps_expr (pe_bm0 PySem.F.plainAttrs_list PySem.F.slot_list_reverse PySem.F.type_list_reverse mt_reverse (pe_var hN hv hd hcd) hbase hline) hs, ?_⟩
  intro G H σ δ S Z h
  unfold gRev at h
  cases e0 : δ[i]? with
  | none => simp only [e0] at h; exact h.elim
  | some c =>
    cases c with
    | ml xs =>
      simp only [e0] at h
      obtain ⟨w, hw, r⟩ := S.slot e0
      obtain ⟨a, vs, rfl, g, h1, h2⟩ := r.ml'
      obtain ⟨x1, x2⟩ := S.turn (o := .lst vs.reverse) (c' := .ml xs.reverse) hw e0 rfl rfl ⟨g, _, upd_same, h2.rev⟩
      exact ⟨_, hw, .inl ⟨rfl, _, SqL.of h1⟩, a, vs, rfl, rfl, h1, h σ G _ x1 x2 fun _ _ => rfl⟩
    | _ => simp only [e0] at h; exact h.elim
/-- x[b] = e: e first -/
def gSetIx (i : Nat) (b m : M D) : SF := gOf m fun d δ => match δ[i]? with
  | some (.ml _) => gOf b (fun e δ' => match δ'[i]?, e with
    | some (.ml ys), .int k => match ixN ys.length k with
      | some j => .nx (δ'.set i (.ml (ys.set j d)))
      | none => .un
    | _, _ => .un) δ
  | _ => .un
theorem s_setIx (i : Nat) {y : Str} {py tpos : Pos} {b e : Expr} {f m : M D} (hb : E_ X W P b f) (he : E_ X W P e m) (hN : X.N[i]? = some y := by rfl) (hv : Vis X.env.scope y := by first | exact Or.inl rfl | exact Or.inr (Or.inl rfl) | exact Or.inr (Or.inr rfl)) (hd : (y == ("__debug__" : Str)) = false := by decide)
    (hcd : (y == ("__classdict__" : Str)) = false := by decide)
    (hpg : ∀ {t : TE}, PE X b t → PG X (.Subscript (.Name y py) b tpos) (gSub (tVar i) t rSetL) := by intro t h; exact pg_sub (pv _) h set_list)
    (hs : swapsWithSole [.Subscript (.Name y py) b tpos] e pos.line X.env = pure false := by rfl) (hw : swappedStores [.Subscript (.Name y py) b tpos] e X.env = pure none := by rfl) (h1 : (assignEach [.Subscript (.Name y py) b tpos] X.env).map (·.2) = [assign (.Subscript (.Name y py) b tpos) X.env] := by rfl) :
    S_ X W P (.Assign [.Subscript (.Name y py) b tpos] e pos) (gSetIx i f m) := by
  obtain ⟨te, pe, qe⟩ := he
  obtain ⟨tb, pb, qb⟩ := hb
  refine ⟨_, ps_asg pe (hpg pb) hs hw h1, SV.of (t := fun x Z σ H => gSub (tVar i) tb rSetL x σ H Z.nx) qe fun G H σ δ v d S r Z h => ?_⟩
  cases e0 : δ[i]? with
  | none => simp only [e0] at h; exact h.elim
  | some c =>
    cases c with
    | ml xs =>
      simp only [e0] at h
      obtain ⟨w, hw, r0⟩ := S.slot e0
      obtain ⟨a, vs, rfl, g, k1, k2⟩ := r0.ml'
      refine ⟨_, hw, qb G H σ δ S _ ?_⟩
      cases e1 : f δ with
      | un => rw [gOf_un e1] at h; exact h
      | ex x δ' => rw [gOf_ex e1] at h; exact h
      | ok k δ' =>
        rw [gOf_ok e1] at h
        intro u G' H' gr st rr
        cases e2 : δ'[i]? with
        | none => simp only [e2] at h; exact h.elim
        | some c' =>
          cases c' with
          | ml ys =>
            cases k with
            | int k =>
              simp only [e2] at h
              cases e3 : ixN ys.length k with
              | none => simp only [e3] at h; exact h.elim
              | some j =>
                simp only [e3] at h
                obtain ⟨a', ws, ea, g', l1, l2⟩ := (st.at_ i _ _ hw e2).ml'
                cases ea
                obtain ⟨x1, x2⟩ := st.turn (o := .lst (ws.set j v)) (c' := .ml (ys.set j d)) hw e2 rfl rfl ⟨g', _, upd_same, l2.set (Rp.mono gr.gg r) j⟩
                exact ⟨a, ws, k, j, rfl, Rp.int' rr, l1, by rw [l2.len]; exact e3, h σ G' _ (gr.trans x1) x2 fun _ _ => rfl⟩
            | _ => simp only [e2] at h; exact h.elim
          | _ => simp only [e2] at h; exact h.elim
    | _ => simp only [e0] at h; exact h.elim
end
end VL
/-! The value layer: comprehensions. -/
namespace VL
open PySem PySem.Spec PyProof.Rows L2

/-! ### one reading for a family of contexts -/
section
variable {ι : Type} {K : PySem.W.Frag} {mg : Str → Option Value} {W : Option WX} {P : List Nat}
theorem unif_e (Y : ι → Cx) {e : Expr} {f : M D} (h : ∀ i, ∃ te, PE (Y i) e te ∧ Ev K mg (RD K mg) W P te f) : ∃ te, (∀ i, PE (Y i) e te) ∧ Ev K mg (RD K mg) W P te f :=
  ⟨fun σ H Q => ∀ i, (h i).choose σ H Q, fun i => ⟨fun pins s σ H Q I t => (h i).choose_spec.1.run pins s σ H Q I (t i)⟩, fun G H σ δ S Q q i => (h i).choose_spec.2 G H σ δ S Q q⟩
theorem unif_i (Y : ι → Cx) {tg e : Expr} {f : M (List D)} (h : ∀ i, ∃ wi, PI (Y i) tg e wi ∧ Ev K mg (RI K mg) W P wi f) : ∃ wi, (∀ i, PI (Y i) tg e wi) ∧ Ev K mg (RI K mg) W P wi f :=
  ⟨fun σ H Q => ∀ i, (h i).choose σ H Q, fun i => ⟨fun pins s σ H Q I t => (h i).choose_spec.1.run pins s σ H Q I (t i)⟩, fun G H σ δ S Q q i => (h i).choose_spec.2 G H σ δ S Q q⟩
theorem unif_ts (Y : ι → Cx) {e : List Expr} {f : M Bool} (h : ∀ i, ∃ te, PTs (Y i) e te ∧ Ev K mg EqB W P te f) : ∃ te, (∀ i, PTs (Y i) e te) ∧ Ev K mg EqB W P te f :=
  ⟨fun σ H Q => ∀ i, (h i).choose σ H Q, fun i => ⟨fun pins s σ H Q I t => (h i).choose_spec.1.run pins s σ H Q I (t i)⟩, fun G H σ δ S Q q i => (h i).choose_spec.2 G H σ δ S Q q⟩
theorem unif_g (Y : ι → Cx) {L : List Nat} {e : Expr} {γ : GD} (h : ∀ i, ∃ g, PG (Y i) e g ∧ GV K mg L g γ) : ∃ g, (∀ i, PG (Y i) e g) ∧ GV K mg L g γ :=
  ⟨fun v σ H Q => ∀ i, (h i).choose v σ H Q, fun i => ⟨fun pins s σ H v u Q I r t => (h i).choose_spec.1.run pins s σ H v u Q I r (t i)⟩, fun G H σ δ δ' v d S r e Q q i => (h i).choose_spec.2 G H σ δ δ' v d S r e Q q⟩
end
def Ts_ (X : Cx) (W : Option WX) (P : List Nat) (es : List Expr) (f : M Bool) : Prop := ∃ t, PTs X es t ∧ Ev X.K X.mg EqB W P t f
theorem ts_nil {X : Cx} {W : Option WX} {P : List Nat} : Ts_ X W P [] (M.ret true) := ⟨_, pts_nil, Ev.const fun _ _ _ _ => rfl⟩
theorem ts_one {X : Cx} {W : Option WX} {P : List Nat} {c : Expr} {f : M Bool} (h : T_ X W P c f) : Ts_ X W P [c] f := by
  obtain ⟨t, p, q⟩ := h
  exact ⟨t, pts_one p, q⟩

/-! ### the block's own names -/
def wipeE (δ : Env) : List Nat → Env
  | [] => δ
  | v :: vs => (wipeE δ vs).set v .un
/-- the block's own names as they stood ahead of it -/
def unwipe (δ0 δ : Env) : List Nat → Env
  | [] => δ
  | v :: vs => match δ0[v]? with
    | some c => (unwipe δ0 δ vs).set v c
    | none => unwipe δ0 δ vs
section
variable {K : PySem.W.Frag} {mg : Str → Option Value} {G H : Hp} {σ : L2.St} {δ : Env}
theorem wipeE_len (vs : List Nat) : (wipeE δ vs).length = δ.length := by
  induction vs with
  | nil => rfl
  | cons v vs ih => unfold wipeE; rw [List.length_set, ih]
theorem wipeE_get {vs : List Nat} {i : Nat} {c : Cell} (h : (wipeE δ vs)[i]? = some c) : (i ∈ vs ∧ c = .un) ∨ (i ∉ vs ∧ δ[i]? = some c) := by
  induction vs with
  | nil => exact .inr ⟨List.not_mem_nil, h⟩
  | cons v vs ih =>
    unfold wipeE at h
    rcases set_get h with ⟨rfl, rfl, _⟩ | ⟨hi, h⟩
    · exact .inl ⟨List.mem_cons_self, rfl⟩
    · rcases ih h with ⟨a, b⟩ | ⟨a, b⟩
      · exact .inl ⟨List.mem_cons_of_mem _ a, b⟩
      · exact .inr ⟨fun z => (List.mem_cons.mp z).elim hi a, b⟩
theorem wipe_get {vs : List Nat} {i : Nat} {v : Option V} (h : (wipe σ vs)[i]? = some v) (hi : i ∉ vs) : σ[i]? = some v := by
  induction vs with
  | nil => exact h
  | cons w vs ih =>
    unfold wipe at h
    rcases set_get h with ⟨rfl, _, _⟩ | ⟨_, h⟩
    · exact absurd List.mem_cons_self hi
    · exact ih h fun z => hi (List.mem_cons_of_mem _ z)
theorem wipe_get' {vs : List Nat} {i : Nat} (hi : i ∉ vs) : (wipe σ vs)[i]? = σ[i]? := by
  induction vs with
  | nil => rfl
  | cons w vs ih =>
    unfold wipe
    rw [set_other (fun z => hi (by rw [z]; exact List.mem_cons_self)), ih fun z => hi (List.mem_cons_of_mem _ z)]
theorem wipeE_get' {vs : List Nat} {i : Nat} (hi : i ∉ vs) : (wipeE δ vs)[i]? = δ[i]? := by
  induction vs with
  | nil => rfl
  | cons w vs ih =>
    unfold wipeE
    rw [set_other (fun z => hi (by rw [z]; exact List.mem_cons_self)), ih fun z => hi (List.mem_cons_of_mem _ z)]
theorem wipe_mem {vs : List Nat} {i : Nat} {v : Option V} (h : (wipe σ vs)[i]? = some v) (hi : i ∈ vs) : v = none := by
  induction vs with
  | nil => cases hi
  | cons w vs ih =>
    unfold wipe at h
    rcases set_get h with ⟨rfl, rfl, _⟩ | ⟨hw, h⟩
    · rfl
    · exact ih h ((List.mem_cons.mp hi).resolve_left hw)
theorem Ad.wipe {vs : List Nat} {b : Addr} (h : Ad (wipe σ vs) (wipeE δ vs) b) : Ad σ δ b := by
  obtain ⟨i, v, c, h1, h2, h3⟩ := h
  rcases wipeE_get h2 with ⟨_, rfl⟩ | ⟨hi, q⟩
  · rw [adr_un] at h3; cases h3
  · exact ⟨i, v, c, wipe_get h1 hi, q, h3⟩
theorem Sta.wipe (S : Sta K mg G H σ δ) (vs : List Nat) : Sta K mg G H (L2.wipe σ vs) (wipeE δ vs) where
  gh := S.gh
  len := by rw [wipe_length, wipeE_len, S.len]
  at_ := fun i v c h1 h2 => by
    rcases wipeE_get h2 with ⟨_, rfl⟩ | ⟨hi, q⟩
    · cases v <;> trivial
    · exact S.at_ i v c (wipe_get h1 hi) q
  dis := fun i j v w c e a h1 h2 h3 h4 h5 h6 => by
    rcases wipeE_get h2 with ⟨_, rfl⟩ | ⟨hi, q⟩
    · rw [adr_un] at h5; cases h5
    · rcases wipeE_get h4 with ⟨_, rfl⟩ | ⟨hj, p⟩
      · rw [adr_un] at h6; cases h6
      · exact S.dis i j v w c e a (wipe_get h1 hi) q (wipe_get h3 hj) p h5 h6
theorem unwipe_len {δ0 : Env} (vs : List Nat) : (unwipe δ0 δ vs).length = δ.length := by
  induction vs with
  | nil => rfl
  | cons v vs ih =>
    unfold unwipe
    cases δ0[v]? with
    | none => exact ih
    | some c => dsimp only; rw [List.length_set, ih]
theorem unwipe_get {δ0 : Env} {vs : List Nat} {i : Nat} {c : Cell} (hl : δ0.length = δ.length) (h : (unwipe δ0 δ vs)[i]? = some c) : (i ∈ vs ∧ δ0[i]? = some c) ∨ (i ∉ vs ∧ δ[i]? = some c) := by
  induction vs with
  | nil => exact .inr ⟨List.not_mem_nil, h⟩
  | cons v vs ih =>
    unfold unwipe at h
    cases e : δ0[v]? with
    | none =>
      rw [e] at h
      rcases ih h with ⟨a, b⟩ | ⟨a, b⟩
      · exact .inl ⟨List.mem_cons_of_mem _ a, b⟩
      · by_cases hi : i = v
        · exfalso
          subst hi
          have h1 : i < δ.length := (List.getElem?_eq_some_iff.mp b).1
          rw [List.getElem?_eq_none_iff] at e
          omega
        · exact .inr ⟨fun z => (List.mem_cons.mp z).elim hi a, b⟩
    | some c' =>
      rw [e] at h
      dsimp only at h
      rcases set_get h with ⟨rfl, rfl, _⟩ | ⟨hi, h⟩
      · exact .inl ⟨List.mem_cons_self, e⟩
      · rcases ih h with ⟨a, b⟩ | ⟨a, b⟩
        · exact .inl ⟨List.mem_cons_of_mem _ a, b⟩
        · exact .inr ⟨fun z => (List.mem_cons.mp z).elim hi a, b⟩
end

/-! ### the mirror -/
/-- one item: the value that it gives, or none -/
def compTurn (γ : GD) (t : M Bool) (e : M D) (own : List Nat) (d : D) : M (List D) := fun δ => match γ d (wipeE δ own) with
  | none => .un
  | some δ1 => M.bind t (fun b => if b = true then M.bind e fun y => M.ret [y] else M.ret []) δ1
def compGo (γ : GD) (t : M Bool) (e : M D) (own : List Nat) : List D → M (List D)
  | [] => M.ret []
  | d :: ds => M.bind (compTurn γ t e own d) fun ys => M.bind (compGo γ t e own ds) fun zs => M.ret (ys ++ zs)
def nComp (own : List Nat) (γ : GD) (m : M (List D)) (t : M Bool) (e : M D) : M (List D) := M.bind m fun ds => fun δ => if ds.length ≤ sizeLine then (match compGo γ t e own ds δ with
  | .ok ys δ' => .ok ys (unwipe δ (wipeE δ' own) own)
  | .ex x δ' => .un
  | .un => .un) else .un
theorem compTurn_len {γ : GD} {t : M Bool} {e : M D} {own : List Nat} {d : D} {δ δ' : Env} {ys : List D} (h : compTurn γ t e own d δ = .ok ys δ') : ys.length ≤ 1 := by
  unfold compTurn at h
  cases e1 : γ d (wipeE δ own) with
  | none => simp only [e1] at h; cases h
  | some δ1 =>
    simp only [e1] at h
    cases e2 : t δ1 with
    | un => rw [M.bind_un e2] at h; cases h
    | ex x δ2 => rw [M.bind_ex e2] at h; cases h
    | ok b δ2 =>
      rw [M.bind_ok e2] at h
      cases b with
      | false => cases h; exact Nat.zero_le _
      | true =>
        rw [if_pos rfl] at h
        cases e3 : e δ2 with
        | un => rw [M.bind_un e3] at h; cases h
        | ex x δ3 => rw [M.bind_ex e3] at h; cases h
        | ok y δ3 => rw [M.bind_ok e3] at h; cases h; exact Nat.le_refl _

section
variable {K : PySem.W.Frag} {mg : Str → Option Value} {W : Option WX} {P : List Nat}
theorem wipe_same {σ σ2 : L2.St} {vs L : List Nat} (hl : σ2.length = (wipe σ vs).length) (hk : ∀ i, i ∉ L → σ2[i]? = (wipe σ vs)[i]?) (hs : ∀ i ∈ L, i ∈ vs) : wipe σ2 vs = wipe σ vs := by
  apply List.ext_getElem?
  intro i
  by_cases hi : i ∈ vs
  · have e1 : ∀ (τ : L2.St), (wipe τ vs)[i]? = if i < τ.length then some none else none := by
      intro τ
      by_cases hil : i < τ.length
      · rw [if_pos hil]
        have hl : i < (wipe τ vs).length := by rw [wipe_length]; exact hil
        rw [List.getElem?_eq_getElem hl]
        exact congrArg some (wipe_mem (List.getElem?_eq_getElem hl) hi)
      · rw [if_neg hil, List.getElem?_eq_none_iff, wipe_length]; omega
    rw [e1, e1, hl, wipe_length]
  · rw [wipe_get' hi, wipe_get' hi, hk i (fun z => hi (hs i z)), wipe_get' hi]
/-- an object that no slot holds and the data do not know may be turned -/
theorem Sta.off {G H : Hp} {σ : L2.St} {δ : Env} {p : Addr} {o : HO} (S : Sta K mg G H σ δ) (n : ¬ Ad σ δ p) (g : G p = none) : Sta K mg G (upd H p o) σ δ where
  gh := fun b u e => by
    have : b ≠ p := fun z => by rw [z, g] at e; cases e
    rw [upd_ne this]; exact S.gh b u e
  len := S.len
  at_ := fun i v c h1 h2 => (S.at_ i v c h1 h2).grow (Same.refl _) fun a q => ⟨((S.at_ i v c h1 h2).there q).2, fun u z => by
    have : a ≠ p := fun y => n ⟨i, v, c, h1, h2, by rw [← y]; exact q⟩
    rw [upd_ne this]; exact z⟩
  dis := S.dis
theorem compGo_cons {γ : GD} {t : M Bool} {e : M D} {own : List Nat} {d : D} {ds ys : List D} {δ δ'' : Env} (h : compGo γ t e own (d :: ds) δ = .ok ys δ'') :
    ∃ (ys1 zs : List D) (δ2 δ3 δ4 : Env) (b : Bool), γ d (wipeE δ own) = some δ2 ∧ t δ2 = .ok b δ3 ∧ ((b = true ∧ ∃ y, e δ3 = .ok y δ4 ∧ ys1 = [y]) ∨ (b = false ∧ δ4 = δ3 ∧ ys1 = [])) ∧ compGo γ t e own ds δ4 = .ok zs δ'' ∧ ys = ys1 ++ zs := by
  unfold compGo at h
  cases e1 : compTurn γ t e own d δ with
  | un => rw [M.bind_un e1] at h; cases h
  | ex x δ' => rw [M.bind_ex e1] at h; cases h
  | ok ys1 δ4 =>
    rw [M.bind_ok e1] at h
    cases e2 : compGo γ t e own ds δ4 with
    | un => rw [M.bind_un e2] at h; cases h
    | ex x δ' => rw [M.bind_ex e2] at h; cases h
    | ok zs δ5 =>
      rw [M.bind_ok e2] at h
      cases h
      unfold compTurn at e1
      cases e3 : γ d (wipeE δ own) with
      | none => simp only [e3] at e1; cases e1
      | some δ2 =>
        simp only [e3] at e1
        cases e4 : t δ2 with
        | un => rw [M.bind_un e4] at e1; cases e1
        | ex x δ' => rw [M.bind_ex e4] at e1; cases e1
        | ok b δ3 =>
          rw [M.bind_ok e4] at e1
          cases b with
          | false => cases e1; exact ⟨[], zs, δ2, _, _, false, rfl, e4, .inr ⟨rfl, rfl, rfl⟩, e2, rfl⟩
          | true =>
            rw [if_pos rfl] at e1
            cases e5 : e δ3 with
            | un => rw [M.bind_un e5] at e1; cases e1
            | ex x δ' => rw [M.bind_ex e5] at e1; cases e1
            | ok y δ6 =>
              rw [M.bind_ok e5] at e1
              cases e1
              exact ⟨[y], zs, δ2, δ3, _, true, rfl, e4, .inl ⟨rfl, y, e5, rfl⟩, e2, rfl⟩
theorem evn_comp {L own : List Nat} {wi : TI} {g : TG} {tt : TT} {te : TE} {γ : GD} {m : M (List D)} {t : M Bool} {e : M D} (hi : Ev K mg (RI K mg) W P wi m) (hg : GV K mg L g γ) (ht : Ev K mg EqB none [] tt t) (he : Ev K mg (RD K mg) none [] te e) (hL : ∀ i ∈ L, i ∈ own) :
    EvN K mg W P (tLc wi g tt te own) (nComp own γ m t e) := by
  intro G0 H0 σ δ0 S0 Q h
  refine hi G0 H0 σ δ0 S0 _ ?_
  unfold nComp at h
  cases em : m δ0 with
  | un => rw [M.bind_un em] at h; exact h
  | ex x δ' => rw [M.bind_ex em] at h; exact h
  | ok ds δ =>
    rw [M.bind_ok em] at h
    intro J G H gr0 S ok Dl hD
    have ok : ItOk K mg G J ds := ok
    by_cases hz : ds.length ≤ sizeLine
    · rw [if_pos hz] at h
      have gD : G Dl = none := same_none S.gh hD
      have hH0 : H0 Dl = none := by
        cases q : H0 Dl with
        | none => rfl
        | some o => exact absurd hD (gr0.there Dl (by rw [q]; exact fun z => nomatch z))
      have Sw := S.wipe own
      have nD0 : ¬ Ad (wipe σ own) (wipeE δ own) Dl := fun z => by
        obtain ⟨j, v, c, k1, k2, k3⟩ := z.wipe
        exact ((S.at_ j v c k1 k2).there k3).1 hD
      refine ⟨fun i mm H' => mm = ds.length - i ∧ ∃ (G' : Hp) (δ' : Env) (acc : List D) (vs : List V), Grow (Ad (wipe σ own) (wipeE δ own)) (Ad (wipe σ own) (wipeE δ' own)) G H G' H' ∧ Sta K mg G' H' (wipe σ own) (wipeE δ' own) ∧ H' Dl = some (.lst vs) ∧ G' Dl = none ∧
        ¬ Ad (wipe σ own) (wipeE δ' own) Dl ∧ RpAll K mg G' vs acc ∧ acc.length ≤ i ∧ ∃ ys δ'', compGo γ t e own (ds.drop i) δ' = .ok ys δ'' ∧ compGo γ t e own ds δ = .ok (acc ++ ys) δ'', ?_, ?_⟩
      · cases ec : compGo γ t e own ds δ with
        | un => simp only [ec] at h
        | ex x δ' => simp only [ec] at h
        | ok ys δ'' =>
          refine ⟨_, rfl, G, δ, [], [], (Gro.newM hD).any (fun _ q => q), Sw.gro (Gro.newM hD) (same_newM S.gh hD), upd_same, gD, nD0, .nil, Nat.le_refl _, ys, δ'', ec, rfl⟩
      · rintro i mm H1 ⟨hm, G1, δ1, acc, vs, g1, s1, hl1, gd1, nd1, ra, hal, ys, δ'', c1, c2⟩
        have hle : δ.length = (wipeE δ1 own).length := by rw [wipeE_len]; have := s1.len; rw [wipe_length, wipeE_len] at this; rw [← this, S.len]
        by_cases hl : ds.length ≤ i
        · refine .inl ⟨ok.stop i G1 H1 g1.gg s1.gh hl, ?_⟩
          rw [List.drop_eq_nil_of_le hl] at c1
          cases c1
          rw [List.append_nil] at c2
          rw [c2] at h
          have gall : Grow (Ad σ δ0) (Ad σ (unwipe δ (wipeE δ1 own) own)) G0 H0 G1 H1 := by
            refine ⟨gr0.gg.trans g1.gg, fun b hb n => ?_, fun b o q n => ?_, fun b hb => g1.there b (gr0.there b hb), fun b ⟨j, v, c, k1, k2, k3⟩ => ?_⟩
            · have n1 : ¬ Ad (wipe σ own) (wipeE δ own) b := fun z => (gr0.new b z.wipe).elim n (fun q => hb q)
              rw [g1.fresh b (gr0.there b hb) n1, gr0.fresh b hb n]
            · have n1 : ¬ Ad (wipe σ own) (wipeE δ own) b := fun z => (gr0.new b z.wipe).elim n (fun q' => by rw [q] at q'; cases q')
              exact g1.keep b o (gr0.keep b o q n) n1
            · rcases unwipe_get hle k2 with ⟨_, q⟩ | ⟨hj, q⟩
              · exact gr0.new b ⟨j, v, c, k1, q, k3⟩
              · have z : Ad (wipe σ own) (wipeE δ1 own) b := ⟨j, v, c, by rw [wipe_get' hj]; exact k1, q, k3⟩
                rcases g1.new b z with z | z
                · exact gr0.new b z.wipe
                · right
                  cases q' : H0 b with
                  | none => rfl
                  | some o => exact absurd z (gr0.there b (by rw [q']; exact fun y => nomatch y))
          -- a slot of the block's own: its object is not touched
          have ow : ∀ (j : Nat) (v : Option V) (c : Cell) (a : Addr), j ∈ own → σ[j]? = some v → δ[j]? = some c → adr v c = some a → ¬ Ad (wipe σ own) (wipeE δ own) a := by
            rintro j v c a hj k1 k2 k3 ⟨l, x, e', l1, l2, l3⟩
            rcases wipeE_get l2 with ⟨_, rfl⟩ | ⟨hl', q⟩
            · rw [adr_un] at l3; cases l3
            · have := S.dis j l v x c e' a k1 k2 (wipe_get l1 hl') q k3 l3
              subst this
              exact hl' hj
          have st : Sta K mg G1 H1 σ (unwipe δ (wipeE δ1 own) own) := by
            refine ⟨s1.gh, by rw [unwipe_len, S.len, hle], fun j v c k1 k2 => ?_, fun j l v x c e' a k1 k2 k3 k4 k5 k6 => ?_⟩
            · rcases unwipe_get hle k2 with ⟨hj, q⟩ | ⟨hj, q⟩
              · refine (S.at_ j v c k1 q).grow g1.gg fun a z => ?_
                obtain ⟨z1, z2⟩ := (S.at_ j v c k1 q).there z
                have n := ow j v c a hj k1 q z
                exact ⟨by rw [g1.fresh a z1 n]; exact z2, fun o y => g1.keep a o y n⟩
              · exact s1.at_ j v c (by rw [wipe_get' hj]; exact k1) q
            · rcases unwipe_get hle k2 with ⟨hj, q⟩ | ⟨hj, q⟩
              · rcases unwipe_get hle k4 with ⟨hl', p⟩ | ⟨hl', p⟩
                · exact S.dis j l v x c e' a k1 q k3 p k5 k6
                · exfalso
                  have z : Ad (wipe σ own) (wipeE δ1 own) a := ⟨l, x, e', by rw [wipe_get' hl']; exact k3, p, k6⟩
                  rcases g1.new a z with z | z
                  · exact ow j v c a hj k1 q k5 z
                  · exact ((S.at_ j v c k1 q).there k5).1 z
              · rcases unwipe_get hle k4 with ⟨hl', p⟩ | ⟨hl', p⟩
                · exfalso
                  have z : Ad (wipe σ own) (wipeE δ1 own) a := ⟨j, v, c, by rw [wipe_get' hj]; exact k1, q, k5⟩
                  rcases g1.new a z with z | z
                  · exact ow l x e' a hl' k3 p k6 z
                  · exact ((S.at_ l x e' k3 p).there k6).1 z
                · exact s1.dis j l v x c e' a (by rw [wipe_get' hj]; exact k1) q (by rw [wipe_get' hl']; exact k3) p k5 k6
          refine h Dl vs G1 H1 gall st hH0 gd1 (fun ⟨j, v, c, k1, k2, k3⟩ => ?_) hl1 ra
          rcases unwipe_get hle k2 with ⟨hj, q⟩ | ⟨hj, q⟩
          · exact ((S.at_ j v c k1 q).there k3).1 hD
          · exact nd1 ⟨j, v, c, by rw [wipe_get' hj]; exact k1, q, k3⟩
        · have hi' : i < ds.length := by omega
          obtain ⟨o1, o2⟩ := ok.go i ds[i] G1 H1 g1.gg s1.gh (List.getElem?_eq_getElem hi')
          rw [List.drop_eq_getElem_cons hi'] at c1
          obtain ⟨ys1, zs, δ2, δ3, δ4, b, q1, q2, q3, q4, rfl⟩ := compGo_cons c1
          refine .inr ⟨o1, fun H' => ∃ (G' : Hp) (δ' : Env) (acc : List D) (vs : List V), Grow (Ad (wipe σ own) (wipeE δ own)) (Ad (wipe σ own) (wipeE δ' own)) G H G' H' ∧ Sta K mg G' H' (wipe σ own) (wipeE δ' own) ∧ H' Dl = some (.lst vs) ∧ G' Dl = none ∧
            ¬ Ad (wipe σ own) (wipeE δ' own) Dl ∧ RpAll K mg G' vs acc ∧ acc.length ≤ i + 1 ∧ ∃ ys δ'', compGo γ t e own (ds.drop (i + 1)) δ' = .ok ys δ'' ∧ compGo γ t e own ds δ = .ok (acc ++ ys) δ'', fun H' w => ⟨ds.length - (i + 1), by omega, rfl, w⟩, fun x H2 y => ?_⟩
          obtain ⟨G2, g2, gh2, r2⟩ := o2 x H2 y
          have s2 := s1.gro g2 gh2
          have hl2 : H2 Dl = some (.lst vs) := g2.keep Dl _ hl1 fun z => z
          have gd2 : G2 Dl = none := by rw [g2.fresh Dl (by rw [hl1]; exact fun z => nomatch z) fun z => z]; exact gd1
          have g12 := g1.trans (g2.any (A' := Ad (wipe σ own) (wipeE δ1 own)) fun _ q => q)
          refine hg G2 H2 _ _ δ2 x ds[i] s2 r2 q1 _ fun σ3 G3 H3 g3 s3 l3 k3 => ?_
          have hw := wipe_same l3 k3 hL
          refine ⟨hw, ?_⟩
          have hl3 : H3 Dl = some (.lst vs) := g3.keep Dl _ hl2 nd1
          have gd3 : G3 Dl = none := by rw [g3.fresh Dl (by rw [hl2]; exact fun z => nomatch z) nd1]; exact gd2
          have nd3 : ¬ Ad σ3 δ2 Dl := fun z => (g3.new Dl z).elim nd1 fun z => by rw [hl2] at z; cases z
          refine ht G3 H3 σ3 δ2 s3 _ ?_
          rw [q2]
          rintro b' G4 H4 g4 s4 rfl
          have hl4 : H4 Dl = some (.lst vs) := g4.keep Dl _ hl3 nd3
          have gd4 : G4 Dl = none := by rw [g4.fresh Dl (by rw [hl3]; exact fun z => nomatch z) nd3]; exact gd3
          have nd4 : ¬ Ad σ3 δ3 Dl := fun z => (g4.new Dl z).elim nd3 fun z => by rw [hl3] at z; cases z
          have g14 := (g12.trans g3).trans g4
          rcases q3 with ⟨rfl, w, ew, rfl⟩ | ⟨rfl, rfl, rfl⟩
          · refine he G4 H4 σ3 δ3 s4 _ ?_
            rw [ew]
            intro v G5 H5 g5 s5 r5
            have hl5 : H5 Dl = some (.lst vs) := g5.keep Dl _ hl4 nd4
            have gd5 : G5 Dl = none := by rw [g5.fresh Dl (by rw [hl4]; exact fun z => nomatch z) nd4]; exact gd4
            have nd5 : ¬ Ad σ3 δ4 Dl := fun z => (g5.new Dl z).elim nd4 fun z => by rw [hl4] at z; cases z
            have nd5' : ¬ Ad (wipe σ own) (wipeE δ4 own) Dl := fun z => nd5 (by rw [← hw] at z; exact z.wipe)
            have g15 := g14.trans g5
            have s6 : Sta K mg G5 (upd H5 Dl (.lst (vs ++ [v]))) (wipe σ own) (wipeE δ4 own) := by
              have := s5.wipe own
              rw [hw] at this
              exact this.off nd5' gd5
            have gg5 : Same G1 G5 := (((g2.gg.trans g3.gg).trans g4.gg).trans g5.gg)
            refine ⟨vs, hl5, by rw [ra.len]; omega, G5, δ4, acc ++ [w], vs ++ [v], ⟨g15.gg, g15.fresh, fun b o q n => ?_, fun b q => ?_, fun b q => ?_⟩, s6, upd_same, gd5, nd5', (ra.mono gg5).app (.cons r5 .nil), ?_, zs, δ'', q4, ?_⟩
            · have : b ≠ Dl := fun z => by rw [z, hD] at q; cases q
              rw [upd_ne this]; exact g15.keep b o q n
            · by_cases z : b = Dl
              · rw [z, upd_same]; exact fun z => nomatch z
              · rw [upd_ne z]; exact g15.there b q
            · rw [← hw] at q
              exact g15.new b q.wipe
            · rw [List.length_append]; show acc.length + 1 ≤ i + 1; omega
            · rw [c2, List.append_assoc]
          · have nd4' : ¬ Ad (wipe σ own) (wipeE δ4 own) Dl := fun z => nd4 (by rw [← hw] at z; exact z.wipe)
            have s6 : Sta K mg G4 H4 (wipe σ own) (wipeE δ4 own) := by
              have := s4.wipe own
              rw [hw] at this
              exact this
            have gg4 : Same G1 G4 := ((g2.gg.trans g3.gg).trans g4.gg)
            refine ⟨G4, δ4, acc, vs, ⟨g14.gg, g14.fresh, g14.keep, g14.there, fun b q => ?_⟩, s6, hl4, gd4, nd4', ra.mono gg4, by omega, zs, δ'', q4, ?_⟩
            · rw [← hw] at q
              exact g14.new b q.wipe
            · rw [c2]; rfl
    · rw [if_neg hz] at h; exact h.elim
end
section
variable {X : Cx} {W : Option WX} {P : List Nat} {pos : Pos}
/-- the parts of a block, at every context in which it may run -/
structure Blk (X : Cx) (L own : List Nat) (scope : Scope) (tg : Expr) (ifs : List Expr) (elt : Expr) (γ : GD) (t : M Bool) (e : M D) : Prop where
  g : ∀ (s : Shared) (H : Hp) (C : Addr) (cl : List (Str × Addr)) (fp : List Addr), G_ (X.blk s H scope (compEnvC scope cl C X.env) fp) L tg γ
  t : ∀ (s : Shared) (H : Hp) (C : Addr) (cl : List (Str × Addr)) (fp : List Addr), Ts_ (X.blk s H scope (compEnvC scope cl C X.env) fp) none [] ifs t
  e : ∀ (s : Shared) (H : Hp) (C : Addr) (cl : List (Str × Addr)) (fp : List Addr), E_ (X.blk s H scope (compEnvC scope cl C X.env) fp) none [] elt e
  l : ∀ i ∈ L, i ∈ own
theorem n_lc {L : List Nat} {elt tg iter : Expr} {ifs : List Expr} {scope : Scope} (own : List (Str × Nat)) {γ : GD} {m : M (List D)} {t : M Bool} {e : M D} (hc : X.calm = true) (hN : X.N.Nodup) (hi : I_ X W P tg iter m) (ok : BlkOk X.N X.env.scope scope own) (b : Blk X L (own.map (·.2)) scope tg ifs elt γ t e)
    (hs : ∀ x, foldedSetIterable iter X.env x = pure x := by intro _; rfl) : N_ X W P (.ListComp elt [⟨tg, iter, ifs, 0⟩] scope pos) (nComp (own.map (·.2)) γ m t e) := by
  obtain ⟨wi, pi, qi⟩ := hi
  obtain ⟨g, pg, qg⟩ := unif_g (K := X.K) (mg := X.mg) (fun i : Shared × Hp × Addr × List (Str × Addr) × List Addr => X.blk i.1 i.2.1 scope (compEnvC scope i.2.2.2.1 i.2.2.1 X.env) i.2.2.2.2) fun i => b.g i.1 i.2.1 i.2.2.1 i.2.2.2.1 i.2.2.2.2
  obtain ⟨tt, pt, qt⟩ := unif_ts (K := X.K) (mg := X.mg) (fun i : Shared × Hp × Addr × List (Str × Addr) × List Addr => X.blk i.1 i.2.1 scope (compEnvC scope i.2.2.2.1 i.2.2.1 X.env) i.2.2.2.2) fun i => b.t i.1 i.2.1 i.2.2.1 i.2.2.2.1 i.2.2.2.2
  obtain ⟨te, pe, qe⟩ := unif_e (K := X.K) (mg := X.mg) (fun i : Shared × Hp × Addr × List (Str × Addr) × List Addr => X.blk i.1 i.2.1 scope (compEnvC scope i.2.2.2.1 i.2.2.1 X.env) i.2.2.2.2) fun i => b.e i.1 i.2.1 i.2.2.1 i.2.2.2.1 i.2.2.2.2
  exact ⟨_, pe_lc hc hN pi ok (fun s H C cl fp => pg (s, H, C, cl, fp)) (fun s H C cl fp => pt (s, H, C, cl, fp)) (fun s H C cl fp => pe (s, H, C, cl, fp)) hs, evn_comp qi qg qt qe b.l⟩
/-- y = [..] with y a name of the frame alone: two ways, y's slot given to the data that stay, or the list its own -/
theorem lc_set {L : List Nat} {elt tg iter : Expr} {ifs : List Expr} {scope : Scope} (own : List (Str × Nat)) {i : Nat} {y : Str} {py spos : Pos} {γ : GD} {m : M (List D)} {t : M Bool} {e : M D} (hc : X.calm = true) (hN : X.N.Nodup) (hy : X.N[i]? = some y) (hyl : X.env.scope.names.lookup y = some .local)
    (hsw : swapsWith (.ListComp elt [⟨tg, iter, ifs, 0⟩] scope pos) (some (.Name y py)) spos.line X.env = pure true) (hi : I_ X W P tg iter m) (ok : BlkOk X.N X.env.scope scope own) (b : Blk X L (own.map (·.2)) scope tg ifs elt γ t e) (hs : ∀ x, foldedSetIterable iter X.env x = pure x) :
    ∃ te, PS X (.Assign [.Name y py] (.ListComp elt [⟨tg, iter, ifs, 0⟩] scope pos) spos) (tAsg te (gName i)) ∧ EvN X.K X.mg W P te (nComp (own.map (·.2)) γ m t e) := by
  obtain ⟨wi, pi, qi⟩ := hi
  obtain ⟨g, pg, qg⟩ := unif_g (K := X.K) (mg := X.mg) (fun i : Shared × Hp × Addr × List (Str × Addr) × List Addr => X.blk i.1 i.2.1 scope (compEnvC scope i.2.2.2.1 i.2.2.1 X.env) i.2.2.2.2) fun i => b.g i.1 i.2.1 i.2.2.1 i.2.2.2.1 i.2.2.2.2
  obtain ⟨tt, pt, qt⟩ := unif_ts (K := X.K) (mg := X.mg) (fun i : Shared × Hp × Addr × List (Str × Addr) × List Addr => X.blk i.1 i.2.1 scope (compEnvC scope i.2.2.2.1 i.2.2.1 X.env) i.2.2.2.2) fun i => b.t i.1 i.2.1 i.2.2.1 i.2.2.2.1 i.2.2.2.2
  obtain ⟨te, pe, qe⟩ := unif_e (K := X.K) (mg := X.mg) (fun i : Shared × Hp × Addr × List (Str × Addr) × List Addr => X.blk i.1 i.2.1 scope (compEnvC scope i.2.2.2.1 i.2.2.1 X.env) i.2.2.2.2) fun i => b.e i.1 i.2.1 i.2.2.1 i.2.2.2.1 i.2.2.2.2
  exact ⟨_, ps_setLc hc hN hy hyl hsw pi ok (fun s H C cl fp => pg (s, H, C, cl, fp)) (fun s H C cl fp => pt (s, H, C, cl, fp)) (fun s H C cl fp => pe (s, H, C, cl, fp)) hs, evn_comp qi qg qt qe b.l⟩
theorem s_setLc {L : List Nat} {elt tg iter : Expr} {ifs : List Expr} {scope : Scope} (own : List (Str × Nat)) (i : Nat) {y : Str} {py spos : Pos} {γ : GD} {m : M (List D)} {t : M Bool} {e : M D} (hc : X.calm = true) (hN : X.N.Nodup) (hi : I_ X W P tg iter m) (ok : BlkOk X.N X.env.scope scope own) (b : Blk X L (own.map (·.2)) scope tg ifs elt γ t e)
    (hy : X.N[i]? = some y := by rfl) (hyl : X.env.scope.names.lookup y = some .local := by rfl) (hsw : swapsWith (.ListComp elt [⟨tg, iter, ifs, 0⟩] scope pos) (some (.Name y py)) spos.line X.env = pure true := by exact sw_true rfl rfl rfl (by decide +kernel)) (hP : i ∉ P := by decide) (hs : ∀ x, foldedSetIterable iter X.env x = pure x := by intro _; rfl) :
    S_ X W P (.Assign [.Name y py] (.ListComp elt [⟨tg, iter, ifs, 0⟩] scope pos) spos) (gSet i (asL (nComp (own.map (·.2)) γ m t e))) := by
  obtain ⟨te, p, q⟩ := lc_set own hc hN hy hyl hsw hi ok b hs
  exact ⟨_, p, sv_set q.ev hP⟩
theorem s_setLcM {L : List Nat} {elt tg iter : Expr} {ifs : List Expr} {scope : Scope} (own : List (Str × Nat)) (i : Nat) {y : Str} {py spos : Pos} {γ : GD} {m : M (List D)} {t : M Bool} {e : M D} (hc : X.calm = true) (hN : X.N.Nodup) (hi : I_ X W P tg iter m) (ok : BlkOk X.N X.env.scope scope own) (b : Blk X L (own.map (·.2)) scope tg ifs elt γ t e)
    (hy : X.N[i]? = some y := by rfl) (hyl : X.env.scope.names.lookup y = some .local := by rfl) (hsw : swapsWith (.ListComp elt [⟨tg, iter, ifs, 0⟩] scope pos) (some (.Name y py)) spos.line X.env = pure true := by exact sw_true rfl rfl rfl (by decide +kernel)) (hP : i ∉ P := by decide) (hs : ∀ x, foldedSetIterable iter X.env x = pure x := by intro _; rfl) :
    S_ X W P (.Assign [.Name y py] (.ListComp elt [⟨tg, iter, ifs, 0⟩] scope pos) spos) (gSetM i (nComp (own.map (·.2)) γ m t e)) := by
  obtain ⟨te, p, q⟩ := lc_set own hc hN hy hyl hsw hi ok b hs
  exact ⟨_, p, sv_setM q hP⟩
end
end VL
/-! The value layer: new lists, isinstance, two names at once. -/
namespace VL
open PySem PySem.Spec PyProof.Rows L2

/-! ### isinstance with built-in classes -/
def tyName : D → Option String
  | .non => some "NoneType"
  | .bl _ => some "bool"
  | .int _ => some "int"
  | .str _ => some "str"
  | .tup _ => some "tuple"
  | .lst _ => some "list"
  | .scr _ => some "list"
  | .ins _ _ => none
def isi1 (t b : String) : Bool := t == b || (t == "bool" && b == "int")
def knownTy : List String := ["tuple", "list", "bool", "int", "str"]
theorem kit_tab : ∀ t ∈ ["NoneType", "bool", "int", "str", "tuple", "list"], ∀ b ∈ knownTy, kitB t b = some (isi1 t b) := by decide +kernel
theorem tyName_mem {d : D} {t : String} (h : tyName d = some t) : t ∈ ["NoneType", "bool", "int", "str", "tuple", "list"] := by
  cases d <;> cases h <;> decide
theorem ty_of {K : PySem.W.Frag} {mg : Str → Option Value} {G H : Hp} {x : V} {d : D} {t : String} (gh : Same G H) (r : Rp K mg G x d) (h : tyName d = some t) : TyX K H x (.type t) := by
  cases d with
  | non => cases h; rw [r.non']; exact .base .non
  | bl b => cases h; rw [r.bl']; exact .base (.bl b)
  | int i => cases h; rw [r.int']; exact .base (.int i)
  | str s => cases h; rw [r.str']; exact .base (.str s)
  | tup xs =>
    cases h
    obtain ⟨a, vs, rfl, h1, h2⟩ := r.tup'
    rcases same_t gh h1 with (q | ⟨o, q⟩) | ⟨o, its, n, q1, q2, _⟩
    · exact .base (.tup q)
    · exact .fTuple q
    · exact .kTuple q1 q2
  | lst xs =>
    cases h
    obtain ⟨a, vs, rfl, h1, h2⟩ := r.lst'
    exact .base (.lst (gh _ _ h1))
  | scr xs =>
    cases h
    obtain ⟨a, vs, rfl, h1, h2⟩ := r.scr'
    rcases gh.seq h1 with (q | ⟨o, q⟩) | ⟨o, its, n, q1, q2, _⟩
    · exact .base (.lst q)
    · exact .base (.frz q)
    · exact .kList q1 q2
  | ins c fs => cases h
def dIsi (bs : List String) (d : D) : Option D := match tyName d with
  | some t => some (.bl (bs.any (isi1 t)))
  | none => none
theorem kit_any {K : PySem.W.Frag} {t : String} (ht : t ∈ ["NoneType", "bool", "int", "str", "tuple", "list"]) : ∀ bs : List String, (∀ b ∈ bs, b ∈ knownTy) → PySem.W.kitAny K (.type t) (bs.map Value.type) = some (bs.any (isi1 t))
  | [], _ => rfl
  | b :: bs, h => by
    have h1 := kit_ty (K := K) (kit_tab t ht b (h b List.mem_cons_self))
    rw [List.map_cons, List.any_cons]
    refine kitAny_cons h1 (fun e => ?_) fun e => by rw [e]; rfl
    rw [e, Bool.false_or]
    exact kit_any ht bs fun c hc => h c (List.mem_cons_of_mem _ hc)
theorem cls_all : ∀ bs : List String, Paired ClsV (bs.map V.ty) (bs.map Value.type)
  | [] => .nil
  | b :: bs => .cons (.ty b) (cls_all bs)
section
variable {X : Cx} {W : Option WX} {P : List Nat} {pos p : Pos}
def Cs_ (X : Cx) (es : List Expr) (bs : List String) : Prop := ∃ t, PA X es t ∧ ∀ σ H (Q : List V → Hp → Prop), Q (bs.map V.ty) H → t σ H Q
theorem cs_nil : Cs_ X [] [] := ⟨_, pa_nil, fun _ _ _ q => q⟩
theorem cs_cons {x : Str} {b : String} {es : List Expr} {bs : List String} (hm : X.mg x = none) (h : Cs_ X es bs) (hv : bootBuiltins x = some (.type b) := by decide +kernel) (hg : Gl X x := by rfl) (hn : x ≠ "__name__" := by decide) (hd : (x == ("__debug__" : Str)) = false := by decide)
    (hs : starEach (Expr.Name x pos :: es) X.env = (false, eval (Expr.Name x pos) X.env) :: starEach es X.env := by rfl) : Cs_ X (.Name x pos :: es) (b :: bs) := by
  obtain ⟨t, p, q⟩ := h
  exact ⟨_, pa_cons (pe_bltn (v := .ty b) hg hm hv rfl hn hd) p hs, fun σ H Q k => q σ H _ k⟩
theorem e_isiT {e : Expr} {es : List Expr} {f : M D} {k1 : Nat} {p2 : Pos} (bs : List String) (hm : X.mg "isinstance" = none) (ha : E_ X W P e f) (hc : Cs_ X es bs) (hb : ∀ b ∈ bs, b ∈ knownTy := by decide) (hg : Gl X "isinstance" := by rfl)
    (he : starEach (e :: [.Tuple es k1 p2]) X.env = (false, eval e X.env) :: starEach [.Tuple es k1 p2] X.env := by rfl) (he' : starEach (.Tuple es k1 p2 :: []) X.env = (false, eval (.Tuple es k1 p2) X.env) :: starEach [] X.env := by rfl) (hpl : (backTo pos (starEach [.Tuple es k1 p2] X.env)).any (·.1) = false := by rfl) (hz : bs.length ≤ sizeLine := by exact Nat.le_of_lt (by decide)) :
    E_ X W P (.Call (.Name "isinstance" p) [e, .Tuple es k1 p2] [] pos) (e1 (dIsi bs) f) := by
  obtain ⟨ta, pa, qa⟩ := ha
  obtain ⟨t, pc, qc⟩ := hc
  refine ⟨_, pe_callB call_isiT hg hm (by decide +kernel) (pa_cons pa (pa_cons (pe_tup pc) pa_nil he') he) (by decide) (by decide) he hpl, qa.map fun G H σ δ x d z S r e Q h => ?_⟩
  refine qc σ H _ ⟨by rw [List.length_map]; exact hz, fun tp ht => ?_⟩
  unfold dIsi at e
  cases e1 : tyName d with
  | none => rw [e1] at e; cases e
  | some t =>
    rw [e1] at e
    cases e
    have g := Gro.new (o := .tup (bs.map V.ty)) S.gh ht
    have gh' := same_upd (p := tp) (o := .tup (bs.map V.ty)) S.gh
    exact ⟨x, tp, bs.map V.ty, .type t, bs.map Value.type, _, rfl, upd_same, cls_all bs, ty_of gh' (Rp.mono g.gg r) e1, kit_any (tyName_mem e1) bs hb, h _ _ _ g gh' (.bl _)⟩
theorem e_isi {e : Expr} {f : M D} {x : Str} {p2 : Pos} (b : String) (hm : X.mg "isinstance" = none) (hmx : X.mg x = none) (ha : E_ X W P e f) (hv : bootBuiltins x = some (.type b) := by decide +kernel) (hb : b ∈ knownTy := by decide) (hg : Gl X "isinstance" := by rfl) (hgx : Gl X x := by rfl) (hnx : x ≠ "__name__" := by decide) (hdx : (x == ("__debug__" : Str)) = false := by decide)
    (he : starEach (e :: [.Name x p2]) X.env = (false, eval e X.env) :: starEach [.Name x p2] X.env := by rfl) (he' : starEach (.Name x p2 :: []) X.env = (false, eval (.Name x p2) X.env) :: starEach [] X.env := by rfl) (hpl : (backTo pos (starEach [.Name x p2] X.env)).any (·.1) = false := by rfl) :
    E_ X W P (.Call (.Name "isinstance" p) [e, .Name x p2] [] pos) (e1 (dIsi [b]) f) := by
  obtain ⟨ta, pa, qa⟩ := ha
  refine ⟨_, pe_callB call_isi hg hm (by decide +kernel) (pa_cons pa (pa_cons (pe_bltn (v := .ty b) hgx hmx hv rfl hnx hdx) pa_nil he') he) (by decide) (by decide) he hpl, qa.map fun G H σ δ y d z S r e Q h => ?_⟩
  unfold dIsi at e
  cases e1 : tyName d with
  | none => rw [e1] at e; cases e
  | some t =>
    rw [e1] at e
    cases e
    refine ⟨y, .ty b, .type t, .type b, _, rfl, .ty b, ty_of S.gh r e1, kit_ty (kit_tab t (tyName_mem e1) b hb), ?_⟩
    have q : ([b].any (isi1 t)) = isi1 t b := by rw [List.any_cons, List.any_nil, Bool.or_false]
    rw [q] at h
    exact h _ G H Grow.refl S.gh (.bl _)

/-! ### a, b = e, f -/
def gPar (i j : Nat) (a b : M D) : SF := gOf a fun d => gOf b fun e δ => .nx ((δ.set i (.im d)).set j (.im e))
theorem s_par (i j : Nat) {x y : Str} {a b : Expr} {f g : M D} {px py pt : Pos} {kt k2 pt2} (hc : X.calm = true) (ha : E_ X W P a f) (hb : E_ X W P b g) (hN : X.N.Nodup) (hi : X.N[i]? = some x := by rfl) (hj : X.N[j]? = some y := by rfl) (hij : i ≠ j := by decide) (hP : i ∉ P ∧ j ∉ P := by decide)
    (hx : X.env.scope.names.lookup x = some .local := by rfl) (hy : X.env.scope.names.lookup y = some .local := by rfl)
    (hw : swappedStores [.Tuple [.Name x px, .Name y py] kt pt] (.Tuple [a, b] k2 pt2) X.env = pure (some [x, y]) := by rfl)
    (hs : swapsWithSole [.Tuple [.Name x px, .Name y py] kt pt] (.Tuple [a, b] k2 pt2) pos.line X.env = pure false := by rfl)
    (hse : starEach (a :: [b]) X.env = (false, eval a X.env) :: starEach [b] X.env := by rfl) (hse' : starEach (b :: []) X.env = (false, eval b X.env) :: starEach [] X.env := by rfl) :
    S_ X W P (.Assign [.Tuple [.Name x px, .Name y py] kt pt] (.Tuple [a, b] k2 pt2) pos) (gPar i j f g) := by
  obtain ⟨ta, pa, qa⟩ := ha
  obtain ⟨tb, pb, qb⟩ := hb
  refine ⟨_, ps_par hc hN hi hj hij hx hy (pa_cons pa (pa_cons pb pa_nil hse') hse) hw hs, ?_⟩
  intro G H σ δ S Z h
  refine qa G H σ δ S _ ?_
  unfold gPar at h
  cases e1 : f δ with
  | un => rw [gOf_un e1] at h; exact h
  | ex x δ' => rw [gOf_ex e1] at h; exact h
  | ok d δ1 =>
    rw [gOf_ok e1] at h
    intro v G1 H1 g1 s1 r1
    refine qb G1 H1 σ δ1 s1 _ ?_
    cases e2 : g δ1 with
    | un => rw [gOf_un e2] at h; exact h
    | ex x δ' => rw [gOf_ex e2] at h; exact XP.shift (show XP X.K X.mg W P G H σ δ x δ' from h) g1 fun _ _ => rfl
    | ok e δ2 =>
      rw [gOf_ok e2] at h
      intro w G2 H2 g2 s2 r2
      obtain ⟨x1, x2⟩ := s2.setIm (i := i) (Rp.mono g2.gg r1)
      obtain ⟨y1, y2⟩ := x2.setIm (i := j) (Rp.mono x1.gg r2)
      refine ⟨v, w, rfl, h _ G2 H2 (((g1.trans g2).trans x1).trans y1) y2 fun k hk => ?_⟩
      rw [set_other (fun z => hP.2 (by rw [← z]; exact hk)), set_other (fun z => hP.1 (by rw [← z]; exact hk))]
/-- a < b < c -/
def eChain (f1 f2 : D → D → Option D) (a b c : M D) : M D := M.bind a fun d => M.bind b fun e => M.bind (lift ((f1 d e).bind asB)) fun k => if k = true then M.bind c fun g => lift (f2 e g) else M.ret (.bl false)
theorem ev_chain {K : PySem.W.Frag} {mg : Str → Option Value} {r1 r2 : R2} {f1 f2 : D → D → Option D} {ta tb tc : TE} {a b c : M D} (o1 : OpD K mg r1 f1) (o2 : OpD K mg r2 f2) (ha : Ev K mg (RD K mg) W P ta a) (hb : Ev K mg (RD K mg) W P tb b) (hc : Ev K mg (RD K mg) W P tc c) :
    Ev K mg (RD K mg) W P (tChain r1 r2 ta tb tc) (eChain f1 f2 a b c) := by
  refine ha.bind fun G H σ δ x d S q1 Q h => ?_
  refine hb G H σ δ S _ ?_
  cases e1 : b δ with
  | un => rw [M.bind_un e1] at h; exact h
  | ex y δ' => rw [M.bind_ex e1] at h; exact h
  | ok e δ1 =>
    rw [M.bind_ok e1] at h
    intro y G1 H1 g1 s1 q2
    cases e2 : f1 d e with
    | none => rw [M.bind_un (lift_none (by rw [e2]; rfl))] at h; exact h.elim
    | some z =>
      cases z with
      | bl k =>
        rw [M.bind_ok (lift_some (by rw [e2]; rfl))] at h
        refine o1 G1 H1 x y d e (.bl k) s1.gh (Rp.mono g1.gg q1) q2 e2 _ fun v G2 H2 g2 s2 q3 => ?_
        have st2 := s1.gro g2 s2
        have g12 := g1.trans (g2.any (A' := Ad σ δ1) fun _ q => q)
        refine ⟨k, Rp.bl' q3, ?_⟩
        cases k with
        | false => exact h _ G2 H2 g12 st2 (.bl _)
        | true =>
          rw [if_pos rfl] at h ⊢
          refine hc G2 H2 σ δ1 st2 _ ?_
          cases e3 : c δ1 with
          | un => rw [M.bind_un e3] at h; exact h
          | ex w δ' => rw [M.bind_ex e3] at h; exact XP.shift (show XP K mg W P G H σ δ w δ' from h) g12 fun _ _ => rfl
          | ok g δ2 =>
            rw [M.bind_ok e3] at h
            intro w G3 H3 g3 s3 q4
            cases e4 : f2 e g with
            | none => rw [lift_none e4] at h; exact h.elim
            | some z =>
              rw [lift_some e4] at h
              refine o2 G3 H3 y w e g z s3.gh (Rp.mono (g2.gg.trans g3.gg) q2) q4 e4 Q fun v G4 H4 g4 s4 q5 => ?_
              exact h v G4 H4 ((g12.trans g3).trans (g4.any fun _ q => q)) (s3.gro g4 s4) q5
      | _ => rw [M.bind_un (lift_none (by rw [e2]; rfl))] at h; exact h.elim
theorem e_chain {op op' : CmpOp} {r1 r2 : R2} {f1 f2 : D → D → Option D} {a b c : Expr} {fa fb fc : M D} (p1 : OpR X (compareOp op) r1) (o1 : OpD X.K X.mg r1 f1) (p2 : OpR X (compareOp op') r2) (o2 : OpD X.K X.mg r2 f2) (ha : E_ X W P a fa) (hb : E_ X W P b fb) (hc : E_ X W P c fc)
    (hm : lastMarks [op, op'] [b, c] = false := by with_unfolding_all rfl) : E_ X W P (.Compare a [op, op'] [b, c] pos) (eChain f1 f2 fa fb fc) := by
  obtain ⟨ta, pa, qa⟩ := ha
  obtain ⟨tb, pb, qb⟩ := hb
  obtain ⟨tc, pc, qc⟩ := hc
  exact ⟨_, pe_chain p1 p2 pa pb pc hm, ev_chain o1 o2 qa qb qc⟩
theorem t_chain {op op' : CmpOp} {r1 r2 : R2} {f1 f2 : D → D → Option D} {a b c : Expr} {fa fb fc : M D} (p1 : OpR X (compareOp op) r1) (o1 : OpD X.K X.mg r1 f1) (p2 : OpR X (compareOp op') r2) (o2 : OpD X.K X.mg r2 f2) (ha : E_ X W P a fa) (hb : E_ X W P b fb) (hc : E_ X W P c fc)
    (hm : lastMarks [op, op'] [b, c] = false := by with_unfolding_all rfl) : T_ X W P (.Compare a [op, op'] [b, c] pos) (tVal (eChain f1 f2 fa fb fc)) := by
  obtain ⟨ta, pa, qa⟩ := ha
  obtain ⟨tb, pb, qb⟩ := hb
  obtain ⟨tc, pc, qc⟩ := hc
  exact ⟨_, pt_chain p1 p2 pa pb pc hm, ev_B (ev_chain o1 o2 qa qb qc)⟩
end

/-! ### new lists of lists -/
def asLD (d : D) : Option (List D) := match d with
  | .lst xs => some xs
  | _ => none
section
variable {X : Cx} {W : Option WX} {P : List Nat} {pos p : Pos}
def nCat (a b : M D) : M (List D) := M.bind a fun d => M.bind b fun e => lift (match d, e with
  | .lst xs, .lst ys => if xs.length + ys.length ≤ sizeLine then some (xs ++ ys) else none
  | _, _ => none)
theorem n_cat {a b : Expr} {f g : M D} (ha : E_ X W P a f) (hb : E_ X W P b g) : N_ X W P (.BinOp a .Add b pos) (nCat f g) := by
  obtain ⟨ta, pa, qa⟩ := ha
  obtain ⟨tb, pb, qb⟩ := hb
  refine ⟨_, pe_op op_cat pa pb, ?_⟩
  intro G H σ δ S Q h
  refine qa G H σ δ S _ ?_
  unfold nCat at h
  cases e1 : f δ with
  | un => rw [M.bind_un e1] at h; exact h
  | ex y δ' => rw [M.bind_ex e1] at h; exact h
  | ok d δ1 =>
    rw [M.bind_ok e1] at h
    intro x G1 H1 g1 s1 r1
    refine qb G1 H1 σ δ1 s1 _ ?_
    cases e2 : g δ1 with
    | un => rw [M.bind_un e2] at h; exact h
    | ex y δ' => rw [M.bind_ex e2] at h; exact XP.shift (show XP X.K X.mg W P G H σ δ y δ' from h) g1 fun _ _ => rfl
    | ok e δ2 =>
      rw [M.bind_ok e2] at h
      intro y G2 H2 g2 s2 r2
      cases d with
      | lst xs => cases e with
        | lst ys =>
          dsimp only at h
          by_cases hz : xs.length + ys.length ≤ sizeLine
          · rw [if_pos hz] at h
            obtain ⟨a, vs, rfl, h1, a1⟩ := Rp.lst' (Rp.mono g2.gg r1)
            obtain ⟨b, ws, rfl, h2, a2⟩ := Rp.lst' r2
            refine ⟨a, b, vs, ws, rfl, rfl, s2.gh _ _ h1, s2.gh _ _ h2, by rw [a1.len, a2.len]; exact hz, fun q hq => ?_⟩
            have g12 := g1.trans g2
            have hH : H q = none := by
              cases z : H q with
              | none => rfl
              | some o => exact absurd hq (g12.there q (by rw [z]; exact fun z => nomatch z))
            have gn : Gro G2 H2 G2 (upd H2 q (.lst (vs ++ ws))) := Gro.newM hq
            exact h q _ G2 _ (g12.trans (gn.any fun _ q => q)) (s2.gro gn (same_newM s2.gh hq)) hH (same_none s2.gh hq) (fun ⟨i, v, c, b1, b2, b3⟩ => ((s2.at_ i v c b1 b2).there b3).1 hq) upd_same (a1.app a2)
          · rw [if_neg hz] at h; exact h.elim
        | _ => exact h.elim
      | _ => exact h.elim
def asSq (d : D) : Option (List D) := match d with
  | .lst xs => some xs
  | .tup xs => some xs
  | .scr xs => some xs
  | _ => none
/-- list(e) -/
def nList (a : M D) : M (List D) := M.bind a fun d => lift (asSq d)
theorem n_list {a : Expr} {f : M D} (hm : X.mg "list" = none) (ha : E_ X W P a f) (hg : Gl X "list" := by rfl) (he : starEach (a :: []) X.env = (false, eval a X.env) :: starEach [] X.env := by rfl) (hpl : (backTo pos (starEach [] X.env)).any (·.1) = false := by rfl) : N_ X W P (.Call (.Name "list" p) [a] [] pos) (nList f) := by
  obtain ⟨ta, pa, qa⟩ := ha
  refine ⟨_, pe_callTy call_list_of hg hm (by decide +kernel) (pa_cons pa pa_nil he) (by decide) (by decide) he hpl, ?_⟩
  refine EvN.mk (g := asSq) (k := fun (v : V) (_ : L2.St) (H : Hp) (Q : VK) => ∃ p ys, [v] = [V.ref p] ∧ (SqL X.K H p ys ∨ SqT X.K H p ys) ∧ ∀ l, H l = none → Q (.ref l) (upd H l (.lst ys))) qa fun G H σ δ x d z S r e Q h => ?_
  cases d with
  | lst xs => cases e; obtain ⟨a, vs, rfl, h1, h2⟩ := Rp.lst' r; exact ⟨a, vs, rfl, .inl (SqL.of (S.gh _ _ h1)), fun l hl => h l vs hl h2⟩
  | scr xs => cases e; obtain ⟨a, vs, rfl, h1, h2⟩ := Rp.scr' r; exact ⟨a, vs, rfl, .inl (S.gh.seq h1), fun l hl => h l vs hl h2⟩
  | tup xs => cases e; obtain ⟨a, vs, rfl, h1, h2⟩ := Rp.tup' r; exact ⟨a, vs, rfl, .inr (same_t S.gh h1), fun l hl => h l vs hl h2⟩
  | _ => cases e
/-- tuple(e) -/
def dTuple (d : D) : Option D := match d with
  | .lst xs => some (.tup xs)
  | .tup xs => some (.tup xs)
  | .scr xs => some (.tup xs)
  | _ => none
theorem b_tuple {K : PySem.W.Frag} {mg : Str → Option Value} : B1 K mg (fun xs H Q => ∃ p ys, xs = [.ref p] ∧ ((SqL K H p ys ∧ ∀ l, H l = none → Q (.ref l) (upd H l (.tup ys))) ∨ (SqT K H p ys ∧ Q (.ref p) H))) dTuple := fun G H x d z gh r q Q k => by
  cases d with
  | lst xs => cases q; obtain ⟨a, vs, rfl, h1, h2⟩ := Rp.lst' r; exact ⟨a, vs, rfl, .inl ⟨SqL.of (gh _ _ h1), new_tup gh h2 k⟩⟩
  | scr xs => cases q; obtain ⟨a, vs, rfl, h1, h2⟩ := Rp.scr' r; exact ⟨a, vs, rfl, .inl ⟨gh.seq h1, new_tup gh h2 k⟩⟩
  | tup xs => cases q; obtain ⟨a, vs, rfl, h1, h2⟩ := Rp.tup' r; exact ⟨a, vs, rfl, .inr ⟨same_t gh h1, now gh (.tup h1 h2) k⟩⟩
  | _ => cases q
theorem e_tupleOf {e : Expr} {f : M D} (hm : X.mg "tuple" = none) (ha : E_ X W P e f) (hg : Gl X "tuple" := by rfl) (he : starEach (e :: []) X.env = (false, eval e X.env) :: starEach [] X.env := by rfl) (hpl : (backTo pos (starEach [] X.env)).any (·.1) = false := by rfl) : E_ X W P (.Call (.Name "tuple" p) [e] [] pos) (e1 dTuple f) :=
  e_ty1 call_tuple_of b_tuple hm (by decide +kernel) ha hg (by decide) (by decide) he hpl
end
end VL
/-! The value layer: truth, += of a name, defs by their names, the law's end. -/
namespace VL
open PySem PySem.Spec PyProof.Rows L2

/-! ### truth -/
def truD (d : D) : Option Bool := match d with
  | .non => some false
  | .bl b => some b
  | .int i => some (i != 0)
  | .str s => if s.length ≤ sizeLine then some ((s.length : Int) != 0) else none
  | .lst xs => some (!xs.isEmpty)
  | .tup xs => some (!xs.isEmpty)
  | .scr xs => some (!xs.isEmpty)
  | .ins _ _ => none
def tTru (m : M D) : M Bool := M.bind m fun d => lift (truD d)
theorem RpAll.isE {K : PySem.W.Frag} {mg : Str → Option Value} {G : Hp} {vs : List V} {ds : List D} (h : RpAll K mg G vs ds) : vs.isEmpty = ds.isEmpty := by
  cases h <;> rfl
theorem tru_of {K : PySem.W.Frag} {mg : Str → Option Value} {G H : Hp} {x : V} {d : D} {k : Bool} (gh : Same G H) (r : Rp K mg G x d) (h : truD d = some k) : TruV K x H k := by
  cases d with
  | non => cases h; rw [r.non']; exact (rfl : false = false)
  | bl b => rw [r.bl']; exact (Option.some.inj h).symm
  | int i => cases h; rw [r.int']; exact rfl
  | str s =>
    unfold truD at h
    dsimp only at h
    split at h
    · cases h; rw [r.str']; exact ⟨by assumption, rfl⟩
    · cases h
  | lst xs => cases h; obtain ⟨a, vs, rfl, h1, h2⟩ := r.lst'; exact .inl ⟨vs, SqL.of (gh _ _ h1), by rw [h2.isE]⟩
  | scr xs => cases h; obtain ⟨a, vs, rfl, h1, h2⟩ := r.scr'; exact .inl ⟨vs, gh.seq h1, by rw [h2.isE]⟩
  | tup xs => cases h; obtain ⟨a, vs, rfl, h1, h2⟩ := r.tup'; exact .inr (.inl ⟨vs, same_t gh h1, by rw [h2.isE]⟩)
  | ins c fs => cases h
section
variable {X : Cx} {W : Option WX} {P : List Nat} {pos p : Pos} {x : Str}
theorem t_tru {e : Expr} {f : M D} (h : E_ X W P e f) (he : ∀ whole, isTrue e X.env whole = (do let v ← whole; standAt e.pos; holding [v] (truthy v)) := by intro _; rfl) : T_ X W P e (tTru f) := by
  obtain ⟨ta, pa, qa⟩ := h
  exact ⟨_, pt_truth pa he, qa.map fun G H σ δ x d z S r e Q h => ⟨z, tru_of S.gh r e, h z G H Grow.refl S.gh rfl⟩⟩
/-- a statement that is never reached -/
def gUn : SF := fun _ => .un
theorem s_never {st : Stmt} : S_ X W P st gUn := ⟨_, ps_never, fun _ _ _ _ _ _ h => h.elim⟩
theorem b_never {st : List Stmt} : B_ X W P st gUn := ⟨_, pss_never, fun _ _ _ _ _ _ h => h.elim⟩
/-- x += e -/
def gAug (i : Nat) (op : D → D → Option D) (m : M D) : SF := gOf (eVar i) fun d => gOf m fun e δ => match op d e with
  | some z => .nx (δ.set i (.im z))
  | none => .un
def IpD (K : PySem.W.Frag) (mg : Str → Option Value) (r : TIp) (op : D → D → Option D) : Prop := OpD K mg r op
theorem s_aug (i : Nat) {op : Operator} {ti : TIp} {f : D → D → Option D} {y : Str} {py : Pos} {e : Expr} {m : M D} (ho : PIp X op ti) (hd : OpD X.K X.mg ti f) (he : E_ X W P e m) (hN : X.N.Nodup) (hP : i ∉ P := by decide) (hi : X.N[i]? = some y := by rfl) (hx : Loc X.env.scope y := by first | exact Or.inl rfl | exact Or.inr rfl)
    (hf : X.fn y = true ∨ X.env.scope.names.lookup y = some .local := by first | exact .inl rfl | exact .inr rfl) : S_ X W P (.AugAssign (.Name y py) op e pos) (gAug i f m) := by
  obtain ⟨te, pe, qe⟩ := he
  refine ⟨_, ps_aug hN hi hx pe ho hf, ?_⟩
  have q : SV X.K X.mg W P (fun Z σ H => tVar i σ H fun x H1 => te σ H1 fun y H2 => ti x y H2 fun z H3 => Z.nx (σ.set i (some z)) H3) (gAug i f m) :=
    SV.of (t := fun x Z σ H => te σ H fun y H2 => ti x y H2 fun z H3 => Z.nx (σ.set i (some z)) H3) (ev_var i) fun G H σ δ x d S r Z h => by
      refine qe G H σ δ S _ ?_
      cases e1 : m δ with
      | un => rw [gOf_un e1] at h; exact h
      | ex x δ' => rw [gOf_ex e1] at h; exact h
      | ok e δ1 =>
        rw [gOf_ok e1] at h
        intro y G1 H1 g1 s1 r1
        cases e2 : f d e with
        | none => rw [e2] at h; exact h.elim
        | some z =>
          rw [e2] at h
          refine hd G1 H1 x y d e z s1.gh (Rp.mono g1.gg r) r1 e2 _ fun v G2 H2 g2 s2 r2 => ?_
          obtain ⟨a1, a2⟩ := (s1.gro g2 s2).setIm (i := i) r2
          exact h _ G2 H2 ((g1.trans (g2.any fun _ q => q)).trans a1) a2 fun k hk => set_other fun z => hP (by rw [← z]; exact hk)
  intro G H σ δ S Z h
  obtain ⟨v, hv, k⟩ := q G H σ δ S Z h
  exact ⟨v, hv, k⟩

/-! ### defs by their names -/
end
/-- a def of the text, at some address -/
def Def (K : PySem.W.Frag) (mg : Str → Option Value) (x : Str) (st : Stmt) : Prop := ∃ f fd, Fun K x x st f fd ∧ mg x = some (.ref f)
/-- a def that keeps its mirror's word -/
def Has (Pg : Program) (w : World) (K : PySem.W.Frag) (mg : Str → Option Value) (base : Heap) (x : Str) (k n : Nat) (ps : List Str) (ff : FF) : Prop :=
  ∃ f fd, mg x = some (.ref f) ∧ PySem.W.keepIn K (.ref f) = true ∧ Binds K fd ps [] ∧ FnOk Pg w K mg base CX0 k f fd ps (spF K mg n (nox ff))
/-- a call's mirror -/
def cal (n : Nat) (ff : FF) : FF := fun cs => if cs.length = n then nox ff cs else .un
section
variable {X : Cx} {W : Option WX} {P : List Nat} {pos p : Pos} {x : Str}
theorem e_callH {k n : Nat} {ps : List Str} {ff : FF} {e : Expr} {es : List Expr} {m : M (List Arg)} (h : Has X.prog X.w X.K X.mg X.base x k n ps ff) (hr : Room k X.A) (ha : A_ X W P (e :: es) m) (hg : Gl X x := by rfl)
    (hdb : (x == ("__debug__" : Str)) = false := by decide) (he : starEach (e :: es) X.env = (false, eval e X.env) :: starEach es X.env := by rfl) (hpl : (backTo pos (starEach es X.env)).any (·.1) = false := by rfl) :
    E_ X W P (.Call (.Name x p) (e :: es) [] pos) (eCall (cal n ff) m) := by
  obtain ⟨f, fd, hm, hk, hb, F⟩ := h
  exact e_call F hr hg hm hk hb ha hdb he hpl
end
section
variable {Pg : Program} {w : World} {K : PySem.W.Frag} {mg : Str → Option Value} {base : Heap}
theorem has_mk {x : Str} {st : Stmt} {N ps : List Str} {k n m : Nat} {P : List Nat} {g : SF} (d : Def K mg x st) (S : FnScope N ps (defScope st)) (hn : ps.length = n) (hm : N.length = n + m)
    (hbi : ∀ (kV doc pm : Value) (an : Option Addr) (cdv ct : Value) (us : List Value), us.length = ps.length → bindArgs (PySem.W.fnOf x x (defArgs st) (defBody st) (defScope st) .none kV doc pm an cdv ct) ⟨us, []⟩ = pure (ps.zip us))
    (hb : ∀ (f : Addr) (cdv : Value) (A : Around) (outer : List PySem.Env) (s : Shared) (H : Hp) (E : XK), Room k (A.deeper (envOfC x (defScope st) s.heap.objs.size f cdv)) → B_ (cxOf CX0 Pg w K mg base N x (defScope st) f cdv A outer s H E).nox none P (defBody st) g) :
    Has Pg w K mg base x (k + 1) n ps (fnM n P m g) := by
  obtain ⟨f, fd, F, hmg⟩ := d
  exact ⟨f, fd, hmg, F.kp, F.binds hbi, fn_ok F S hn hm fun cdv A outer s H E hr => hb f cdv A outer s H E hr⟩
theorem Has.mono {x : Str} {k k' n : Nat} {ps : List Str} {ff : FF} (h : Has Pg w K mg base x k n ps ff) (hk : k ≤ k') : Has Pg w K mg base x k' n ps ff := by
  obtain ⟨f, fd, a, b, c, F⟩ := h
  exact ⟨f, fd, a, b, c, F.mono hk⟩
end
/-! ### defs that hand back a list of their own making -/
abbrev FN := Env → R (List D)
def isMu : Cell → Bool
  | .ml _ => true
  | .mi _ _ => true
  | _ => false
theorem adr_mu {v : Option V} {c : Cell} {a : Addr} (h : adr v c = some a) : isMu c = true := by
  cases c with
  | un => rw [adr_un] at h; cases h
  | im d => rw [adr_im] at h; cases h
  | _ => rfl
def fnN (n : Nat) (P : List Nat) (m : Nat) (g : SF) : FN := fun cs => if cs.length = n ∧ ((List.range n).all fun j => !isMu (cs.getD j .un) || decide (j ∈ P)) = true then match g (cs ++ List.replicate m .un) with
  | .rn xs δ' => if (P.all fun j => isMu (δ'.getD j .un)) = true then .ok xs (outs P n δ') else .un
  | _ => .un
  else .un
def spN (K : PySem.W.Frag) (mg : Str → Option Value) (n : Nat) (f : FN) : Sp := fun vs H Q E => vs.length = n ∧ ∃ (G : Hp) (cs : Env), Sta K mg G H (vs.map some) cs ∧ (match f cs with
  | .ok xs cs' => ∀ (a : Addr) (ws : List V) (G' H' : Hp), Grow (Ad (vs.map some) cs) (Ad (vs.map some) cs') G H G' H' → Sta K mg G' H' (vs.map some) cs' → H a = none → G' a = none → H' a = some (.lst ws) → RpAll K mg G' ws xs → ¬ Ad (vs.map some) cs' a → Q (.ref a) H'
  | _ => False)
section
variable {Pg : Program} {w : World} {K : PySem.W.Frag} {mg : Str → Option Value} {base : Heap}
theorem fn_okN {x qual : Str} {st : Stmt} {f : Addr} {fd : FuncData} {N ps : List Str} {k n m : Nat} {P : List Nat} {g : SF} (F : Fun K x qual st f fd) (S : FnScope N ps (defScope st)) (hn : ps.length = n) (hm : N.length = n + m)
    (hb : ∀ (cdv : Value) (A : Around) (outer : List PySem.Env) (s : Shared) (H : Hp) (E : XK), Room k (A.deeper (envOfC qual (defScope st) s.heap.objs.size f cdv)) → B_ (cxOf CX0 Pg w K mg base N qual (defScope st) f cdv A outer s H E).nox none P (defBody st) g) :
    FnOk Pg w K mg base CX0 (k + 1) f fd ps (spN K mg n (fnN n P m g)) := by
  refine F.ok S (fun vs H Q E h => by rw [h.1, hn]) fun cdv A outer s H vs Q E hr h => ?_
  obtain ⟨t, pt, qt⟩ := hb cdv A outer s H E hr
  refine ⟨t, pt, ?_⟩
  obtain ⟨hv, G, cs, S0, h⟩ := h
  obtain ⟨S1, g1, _⟩ := S0.start (m := m)
  have e0 : L2.start N vs = vs.map some ++ List.replicate m none := by unfold L2.start; rw [hm, hv, Nat.add_sub_cancel_left]
  have hc : cs.length = n := by rw [← S0.len, List.length_map, hv]
  rw [e0]
  refine qt G H _ _ S1 _ ?_
  unfold fnN at h
  split at h
  · by_cases hmu : ((List.range n).all fun j => !isMu (cs.getD j .un) || decide (j ∈ P)) = true
    · rw [if_pos ⟨hc, hmu⟩] at *
      rename_i xs cs' eq
      cases e : g (cs ++ List.replicate m .un) with
      | rn ys δ' =>
        simp only [e] at eq
        by_cases hP : (P.all fun j => isMu (δ'.getD j .un)) = true
        · rw [if_pos hP] at eq
          cases eq
          intro a ws σ' G' H' gr st kp b1 b2 b3 b4 b5
          obtain ⟨s2, a2⟩ := st.outs (P := P) hv fun i hi hin => by rw [kp i hi, List.getElem?_append_left (by rw [List.length_map]; omega)]
          have g12 := g1.trans gr
          refine h a ws G' H' ⟨g12.gg, g12.fresh, g12.keep, g12.there, fun b hb => g12.new b (a2 b hb)⟩ s2 ?_ b1 b2 b3 (fun z => b4 (a2 a z))
          rcases b5 with ⟨j, v, c, k1, k2, k3⟩ | z
          · exfalso
            have hmuc := adr_mu k3
            have hj : j < cs.length := by
              by_cases hj : j < cs.length
              · exact hj
              · rw [List.getElem?_append_right (by omega), List.getElem?_replicate] at k2
                split at k2
                · cases k2; cases hmuc
                · cases k2
            rw [List.getElem?_append_left hj] at k2
            have hjP : j ∈ P := by
              have q := List.all_eq_true.mp hmu j (List.mem_range.mpr (by omega))
              rw [List.getD_eq_getElem?_getD, k2] at q
              simp only [Option.getD_some, hmuc, Bool.not_true, Bool.false_or, decide_eq_true_eq] at q
              exact q
            have hs := kp j hjP
            rw [k1] at hs
            have q := List.all_eq_true.mp hP j hjP
            rw [List.getD_eq_getElem?_getD] at q
            cases e2 : δ'[j]? with
            | none => rw [e2] at q; cases q
            | some c' =>
              rw [e2] at q
              have r := st.at_ j v c' hs e2
              cases v with
              | none => cases c <;> cases k3
              | some v =>
                cases v with
                | ref b =>
                  have hb : b = a := by cases c <;> cases k3 <;> rfl
                  subst hb
                  refine b4 ⟨j, _, c', hs, e2, ?_⟩
                  cases c' with
                  | ml _ => rfl
                  | mi _ _ => rfl
                  | _ => cases q
                | _ => cases c <;> cases k3
          · exact z
        · rw [if_neg hP] at eq; cases eq
      | _ => simp only [e] at eq; cases eq
    · rename_i eq
      rw [if_neg (fun z => hmu z.2)] at eq
      cases eq
  · exact h.elim
end
/-- a def that hands back a list of its own making -/
def HasN (Pg : Program) (w : World) (K : PySem.W.Frag) (mg : Str → Option Value) (base : Heap) (x : Str) (k n : Nat) (ps : List Str) (ff : FN) : Prop :=
  ∃ f fd, mg x = some (.ref f) ∧ PySem.W.keepIn K (.ref f) = true ∧ Binds K fd ps [] ∧ FnOk Pg w K mg base CX0 k f fd ps (spN K mg n ff)
def callN (n : Nat) (f : FN) (as : List Arg) : M (List D) := fun δ => if (argSlots as).Nodup then match argCells δ as with
  | none => .un
  | some cs => if cs.length = n then match f cs with
    | .ok d cs' => .ok d (back as cs' δ)
    | _ => .un
    else .un
  else .un
def nCall (n : Nat) (f : FN) (m : M (List Arg)) : M (List D) := M.bind m (callN n f)
section
variable {X : Cx} {W : Option WX} {P : List Nat} {pos p : Pos} {x : Str}
theorem n_callH {k n : Nat} {ps : List Str} {ff : FN} {e : Expr} {es : List Expr} {m : M (List Arg)} (h : HasN X.prog X.w X.K X.mg X.base x k n ps ff) (hr : Room k X.A) (ha : A_ X W P (e :: es) m) (hg : Gl X x := by rfl)
    (hdb : (x == ("__debug__" : Str)) = false := by decide) (he : starEach (e :: es) X.env = (false, eval e X.env) :: starEach es X.env := by rfl) (hpl : (backTo pos (starEach es X.env)).any (·.1) = false := by rfl) :
    N_ X W P (.Call (.Name x p) (e :: es) [] pos) (nCall n ff m) := by
  obtain ⟨f, fd, hm, hk, hb, F⟩ := h
  obtain ⟨ta, pa, qa⟩ := ha
  refine ⟨_, pe_call F hr hg hm hk hb .nil pass0 pa hdb he hpl, ?_⟩
  intro G0 H0 σ δ0 S0 Q h
  refine qa G0 H0 σ δ0 S0 _ ?_
  unfold nCall at h
  cases em : m δ0 with
  | un => rw [M.bind_un em] at h; exact h
  | ex x δ' => rw [M.bind_ex em] at h; exact h
  | ok as δ =>
    rw [M.bind_ok em] at h
    intro vs G H gr0 S r
    unfold callN at h
    by_cases nd : (argSlots as).Nodup
    · rw [if_pos nd] at h
      cases e : argCells δ as with
      | none => simp only [e] at h
      | some cs =>
        simp only [e] at h
        by_cases hl : cs.length = n
        · rw [if_pos hl] at h
          obtain ⟨Sa, a0⟩ := S.args r e nd
          have lv : (vs.map some).length = cs.length := Sa.len
          show spN X.K X.mg n ff (vs ++ []) H Q E0
          rw [List.append_nil]
          refine ⟨by rw [List.length_map] at lv; omega, G, cs, Sa, ?_⟩
          cases e2 : ff cs with
          | ok d cs' =>
            simp only [e2] at h
            intro a ws G' H' gr st h1 h2 h3 h4 h5
            obtain ⟨g1, s1⟩ := S.back r e nd gr st
            have g01 := gr0.trans g1
            have hH0 : H0 a = none := by
              cases q : H0 a with
              | none => rfl
              | some o => exact absurd h1 (gr0.there a (by rw [q]; exact fun z => nomatch z))
            refine h a ws G' H' g01 s1 hH0 h2 (fun z => ?_) h3 h4
            rcases g1.new a z with z' | z'
            · obtain ⟨j, v, c, k1, k2, k3⟩ := z'
              exact ((S.at_ j v c k1 k2).there k3).1 h1
            · obtain ⟨j, v, c, k1, k2, k3⟩ := z
              have := s1.at_ j v c k1 k2
              by_cases hj : j ∈ argSlots as
              · obtain ⟨l, hl'⟩ := of_mem_slots hj
                have hll : l < as.length := (List.getElem?_eq_some_iff.mp hl').1
                have lv2 : vs.length = as.length := Paired.length r
                have lc' : cs'.length = as.length := by rw [← st.len, List.length_map, lv2]
                have hjl : j < δ.length := by rw [← S.len]; exact (List.getElem?_eq_some_iff.mp k1).1
                rw [back_at nd hl' (List.getElem?_eq_getElem (by omega : l < cs'.length)) hjl] at k2
                have hv : vs[l]? = some vs[l] := List.getElem?_eq_getElem (by omega)
                have q := Paired_at r hv hl'
                cases q with
                | m rr =>
                  rw [k1] at rr
                  refine h5 ⟨l, v, c, ?_, by rw [List.getElem?_eq_getElem (by omega : l < cs'.length)]; exact k2, k3⟩
                  rw [List.getElem?_map, hv]
                  exact congrArg some (Option.some.inj rr).symm
              · rw [back_other hj] at k2
                exact ((S.at_ j v c k1 k2).there k3).1 h1
          | ex y cs' => simp only [e2] at h
          | un => simp only [e2] at h
        · rw [if_neg hl] at h; exact h.elim
    · rw [if_neg nd] at h; exact h.elim
end
section
variable {Pg : Program} {w : World} {K : PySem.W.Frag} {mg : Str → Option Value} {base : Heap}
theorem has_mkN {x : Str} {st : Stmt} {N ps : List Str} {k n m : Nat} {P : List Nat} {g : SF} (d : Def K mg x st) (S : FnScope N ps (defScope st)) (hn : ps.length = n) (hm : N.length = n + m)
    (hbi : ∀ (kV doc pm : Value) (an : Option Addr) (cdv ct : Value) (us : List Value), us.length = ps.length → bindArgs (PySem.W.fnOf x x (defArgs st) (defBody st) (defScope st) .none kV doc pm an cdv ct) ⟨us, []⟩ = pure (ps.zip us))
    (hb : ∀ (f : Addr) (cdv : Value) (A : Around) (outer : List PySem.Env) (s : Shared) (H : Hp) (E : XK), Room k (A.deeper (envOfC x (defScope st) s.heap.objs.size f cdv)) → B_ (cxOf CX0 Pg w K mg base N x (defScope st) f cdv A outer s H E).nox none P (defBody st) g) :
    HasN Pg w K mg base x (k + 1) n ps (fnN n P m g) := by
  obtain ⟨f, fd, F, hmg⟩ := d
  exact ⟨f, fd, hmg, F.kp, F.binds hbi, fn_okN F S hn hm fun cdv A outer s H E hr => hb f cdv A outer s H E hr⟩
/-- no turn of a recursion left: nothing is promised -/
theorem has_zero {x : Str} {st : Stmt} {N ps : List Str} {k n : Nat} (d : Def K mg x st) (S : FnScope N ps (defScope st)) (hn : ps.length = n)
    (hbi : ∀ (kV doc pm : Value) (an : Option Addr) (cdv ct : Value) (us : List Value), us.length = ps.length → bindArgs (PySem.W.fnOf x x (defArgs st) (defBody st) (defScope st) .none kV doc pm an cdv ct) ⟨us, []⟩ = pure (ps.zip us)) :
    Has Pg w K mg base x k n ps (fun _ => .un) := by
  obtain ⟨f, fd, F, hmg⟩ := d
  exact ⟨f, fd, hmg, F.kp, F.binds hbi, ⟨fun vs H Q E h => by rw [h.1, hn], fun A outer s H args us vs Q E hr e0 hb hv ⟨_, _, _, _, h⟩ => h.elim⟩⟩
end
/-- an argument that is a slot's own object -/
def aMutV (i : Nat) (g : M (List Arg)) : M (List Arg) := fun δ => match δ[i]? with | some (.ml _) => aMut i g δ | some (.mi _ _) => aMut i g δ | _ => .un
/-! ### the law's end -/
def spTrue (K : PySem.W.Frag) : Sp := fun vs H Q _ => ∃ (a : Addr) (ns : List Int), vs = [.ref a] ∧ SqL K H a (ns.map V.int) ∧ ns.length ≤ 63 ∧ ∀ H', Q (.bl true) H'
theorem law_fn {Pg : Program} {w : World} {K : PySem.W.Frag} {mg : Str → Option Value} {base : Heap} {k : Nat} {f : Addr} {fd : FuncData} {ps : List Str} {ff : FF} (F : FnOk Pg w K mg base CX0 k f fd ps (spF K mg 1 (nox ff)))
    (h : ∀ ns : List Int, ns.length ≤ 63 → ∃ cs, ff [.im (.scr (ns.map D.int))] = .ok (.bl true) cs) : FnOk Pg w K mg base CX0 k f fd ps (spTrue K) :=
  F.imp fun vs H Q E ⟨a, ns, e1, e2, e3, q⟩ => by
    subst e1
    obtain ⟨cs, hc⟩ := h ns e3
    have S : Sta K mg (fun b => if b = a then H a else none) H ([V.ref a].map some) [.im (.scr (ns.map D.int))] := by
      refine ⟨fun b o e => ?_, rfl, fun i v c h1 h2 => ?_, fun i j v w c e b h1 h2 h3 h4 h5 h6 => ?_⟩
      · by_cases hb : b = a
        · rw [if_pos hb] at e; rw [hb]; exact e
        · rw [if_neg hb] at e; cases e
      · cases i with
        | zero =>
          cases h1
          cases h2
          refine .scr (vs := ns.map V.int) ?_ (RpAll.ints ns)
          rcases e2 with (q | ⟨o, q⟩) | q
          · exact .inl (.inl (by show (if a = a then H a else none) = _; rw [if_pos rfl]; exact q))
          · exact .inl (.inr ⟨o, by show (if a = a then H a else none) = _; rw [if_pos rfl]; exact q⟩)
          · exact .inr q
        | succ i => cases h1
      · cases i with
        | zero => cases h2; rw [adr_im] at h5; cases h5
        | succ i => cases h1
    refine ⟨rfl, _, _, S, ?_⟩
    rw [show nox ff [.im (.scr (ns.map D.int))] = .ok (.bl true) cs from by unfold nox; rw [hc]]
    intro v G' H' _ _ r
    rw [Rp.bl' r]
    exact q H'
end VL
/-! Errors of the package: a class over an own base over ValueError whose __init__ hands one word up and keeps it. -/
namespace VE
open PySem PySem.W PySem.Calls PyProof.Rows PySem.HandSPX

/-- the parameters and the body of such an __init__, wherever they stand -/
def errA (a b : Pos) : Arguments := { posonlyargs := [], args := [{ arg := "self", annotation := none, pos := a }, { arg := "what", annotation := none, pos := b }], vararg := none, kwonlyargs := [], kw_defaults := [], kwarg := none, defaults := [] }
def errB (a b c d e f g h i j : Pos) : List Stmt :=
  [.Expr (.Call (.Attribute (.Call (.Name "super" a) [] [] b) "__init__" c) [.Name "what" d] [] e) f, .Assign [.Attribute (.Name "self" g) "what" h] (.Name "what" i) j]
def errS : Scope := { kind := .function, names := [(PySem.Str.ofString "self", .local), (PySem.Str.ofString "what", .local), (PySem.Str.ofString "__class__", .free), (PySem.Str.ofString "super", .globalImplicit)], isGenerator := false, isCoroutine := false, more := [] }
abbrev errFn (qual : Str) (a b c d e f g h i j k l : Pos) (doc pm : Value) (an : Option Addr) (cdv ct : Value) (cc : Addr) : FuncData :=
  { name := "__init__", qualname := qual, params := errA a b, body := .stmts (errB c d e f g h i j k l), scope := errS, globals := mainGlobals, closure := [("__class__", cc)], defaults := .none, kwdefaults := .none, doc := doc, pyModule := pm, annotations := an, code := cdv, closureTuple := ct, builtins := builtinsNs }
/-- how the call of the base's __init__ is read (the places decide it) -/
def UpReads (a b c d e : Pos) : Prop := ∀ env : PySem.Env, ∃ pl : Sem Bool, eval (.Call (.Attribute (.Call (.Name "super" a) [] [] b) "__init__" c) [.Name "what" d] [] e) env = (do
  let ov ← attributeBase (.Call (.Name "super" a) [] [] b) "__init__" env (eval (.Call (.Name "super" a) [] [] b) env)
  standAt c.atName
  let (f, first) ← holding [ov] (getMethod ov "__init__" pl)
  callWith e f first (backTo e (starEach [.Name "what" d] env)) [])
/-- what the written part says of the class at C and of its __init__ at fI -/
structure ErrC (K : Frag) (mg : Str → Option Value) (C fI : Addr) : Prop where
  cls : ∃ nm q N bs bm sn sub ab col dd m0 m1 m2 m3 m5, K.lookup C = some (excClassObj nm q C N bs bm true sn sub ab col dd m0 m1 m2 m3 m5 "ValueError.__new__") ∧ refsVE bm = true
  sa : findIn K (.ref C) "__setattr__" = some (some (.builtin "object.__setattr__"))
  ga : findIn K (.ref C) "__getattribute__" = some (some (.builtin "BaseException.__getattribute__"))
  gg : findIn K (.ref C) "__getattr__" = some none
  noW : findIn K (.ref C) "what" = some none
  ini : findIn K (.ref C) "__init__" = some (some (.ref fI))
  tyI : typeIn K (.ref fI) = some (.type "function")
  kpC : keepIn K (.ref C) = true
  exB : subIn K (.ref C) (.type "BaseException") = some true
  exV : subIn K (.ref C) (.type "ValueError") = some true
  own : mroIn K C (.ref C) = some true
  tyC : typeIn K (.ref C) = some (.type "type")
  hdC : hasDictIn K C = true
  up : ks_superIn K C C "__init__" = some (some (.builtin "ValueError.__init__"))
  tp : nsIn K cStatics "thirdparty.any" = some none
  sup : mg "super" = none
  fn : ∃ (oc : Value) (od : Option Addr) (qual : Str) (a b c d e f g h i j k l : Pos) (doc pm : Value) (an : Option Addr) (cda : Addr) (ct : Value) (cc : Addr) (osl : Array (Option Value)),
    K.lookup fI = some ⟨oc, od, .func (errFn qual a b c d e f g h i j k l doc pm an (.ref cda) ct cc), osl⟩ ∧ codeIn K (.ref cda) qual = true ∧ UpReads c d e f g ∧
    (∃ (o1 : Value) (o2 : Option Addr) (vs : Array Value) (o3 : Array (Option Value)) (tf : Tok), K.lookup cda = some ⟨o1, o2, .fields vs, o3⟩ ∧ vs[2]? = some (.str "/claim/cut.py" tf)) ∧
    (∃ (o1 : Value) (o2 : Option Addr) (o3 : Array (Option Value)), K.lookup cc = some ⟨o1, o2, .cell (some (.ref C)), o3⟩)
/-- what the program's own text says -/
structure ErrP (prog : Program) : Prop where
  file : ((prog.main.file : Str) == "/claim/cut.py") = true
  top : (prog.main.scope.names.lookup ("super" : Str)).isSome = false
section
variable {prog : Program} {w : World} {M : Model} {A : Around} {E : Value → Shared → Prop} {h : Heap} {g : Array GenState} {d : Drawn} {t : Nat} {os : OsState}
/-- the base's __init__, bound: it lays the arguments anew -/
theorem call_up {nm q : Str} {C N u e t0 : Addr} {bs bm : List Value} {hdct : Bool} {sn : List Str} {sub : List Value} {ab : Bool} {col : Option Bool} {dd : Option Addr} {m0 m1 m2 m3 m5 : Option Value} {rest : List Value} {Q : Value → Shared → Prop}
    (cl : h.get? C = some (excClassObj nm q C N bs bm hdct sn sub ab col dd m0 m1 m2 m3 m5 "ValueError.__new__")) (he : h.get? e = some (excO C t0)) (hu : h.get? u = some (kxs_mw "ValueError.__init__" e)) (hz : rest.length ≤ sizeLine)
    (hq : ∀ h' t1, (∀ b o, b ≠ e → h.get? b = some o → h'.get? b = some o) → h'.get? e = some (excO C t1) → Q .none ⟨h', g, d, t, os⟩) : wpAny (model prog w) A (call (.ref u) rest) Q E ⟨h, g, d, t, os⟩ := by
  refine wpAny_call (codeAny_of_tree ?_)
  show wpAny _ A.in1 (callAny (.ref u) ⟨rest, []⟩) _ _ _
  simp only [callAny]
  refine wpAny_bind (wpAny_load hu ?_)
  simp only [kxs_mw, show (Value.type "method-wrapper" == Value.type "method" || Value.type "method-wrapper" == Value.type "builtin_function_or_method" || Value.type "method-wrapper" == Value.type "method-wrapper") = true by decide, if_true]
  refine KFB.if_so (by decide) ?_
  refine wpAny_bind (check_bound_init F.excBase_ValueError.toExcCallFacts cl he rfl ?_)
  refine wpAny_bind (wpAny_pure (wpAny_pure ?_))
  refine ⟨plainId_quiet F.excBase_ValueError.init.plain _, codeAny_builtin F.excBase_ValueError.initEntry ?_⟩
  rw [Around.under_plainId F.excBase_ValueError.init.plain _]
  wp_walk
  refine hq _ h.objs.size (fun b o hb ho => ?_) ?_
  · rw [Heap.get?_update_other _ _ (Ne.symm hb)]
    exact Heap.get?_push_of_some _ ho
  · rw [Heap.get?_update_self _ (Heap.get?_push_of_some _ he) rfl]
    rfl
end
/-- what __init__ leaves of a fresh error at x -/
structure IniEnd (h h' : Heap) (x C dx t1 : Addr) (v : Value) : Prop where
  keep : ∀ b o, b ≠ x → h.get? b = some o → h'.get? b = some o
  obj : h'.get? x = some { cls := .ref C, dict := some dx, data := .fields #[.ref t1, .none, .none, .none, .bool false, .none] }
  big : h.objs.size ≤ dx
  dne : dx ≠ x
  ns : h'.Ns1 dx (fun y => if y = "what" then some v else none)
section
variable {prog : Program} {w : World} {A : Around} {E : Value → Shared → Prop} {R : Result → Shared → Prop} {s : Shared} {K : Frag} {mg : Str → Option Value} {C fI : Addr}
theorem err_ini (T : ErrC K mg C fI) (TP : ErrP prog) {x t0 : Addr} {v : Value} (X : K.In s.heap) (hlim : s.heap.NoLimit) (G : s.heap.Ns mainGlobals mg) (B : ∃ mb, s.heap.Ns builtinsNs mb ∧ ∀ y : Str, y ≠ "__name__" → mb y = bootBuiltins y) (hx : s.heap.get? x = some (excO C t0)) (hnx : K.lookup x = none) (hroom : A.depth < recursionLimit)
    (hq : ∀ h' tk dx t1, IniEnd s.heap h' x C dx t1 v → R (.ok (.ret .none)) { s with heap := h', toks := tk }) :
    codeAny (model prog w) A (.call (.ref fI) ⟨[.ref x, v], []⟩) R s := by
  obtain ⟨oc, od, qual, p1, p2, p3, p4, p5, p6, p7, p8, p9, p10, p11, p12, doc, pm, an, cda, ct, cc, osl, ho, hcd, hur, ⟨o1, o2, vs, o3, tf, hcode, hvs⟩, ⟨e1, e2, e3, hcell⟩⟩ := T.fn
  obtain ⟨nm, q, N, bs, bm, sn, sub, ab, col, dd, m0, m1, m2, m3, m5, hC, hbm⟩ := T.cls
  obtain ⟨mb, hB, hmb⟩ := B
  have hcl : clsIn K C = some { name := nm, bases := bs, mro := .ref C :: bm, ns := N, qualname := q, hasDict := true, slotNames := sn, subclasses := sub, abstract := ab, collection := col, hasDel := false } := by unfold clsIn; rw [hC] <;> rfl
  refine ks_codeAny_call_defAt (binds := [("self", .ref x), ("what", v)]) hroom (X _ _ ho) rfl hlim (codeRec_of X hcd) rfl (BindsTo.of_eq (by first | rfl | with_unfolding_all rfl)) (by show ∀ y ∈ errS.names, y.2 ≠ .cell; decide) (by intro y hy; simp only [List.mem_cons, List.not_mem_nil, or_false] at hy; rcases hy with rfl | rfl <;> rfl) (fun h₀ hns k => ?_) rfl rfl rfl
  have X₀ : K.In h₀ := X.keeps k
  have hx₀ := k _ _ hx
  have fr : s.heap.objs.size ≠ x := Nat.ne_of_gt (Heap.lt_size hx)
  unfold errB
  obtain ⟨pl, hpl⟩ := hur (callEnv (errFn qual p1 p2 p3 p4 p5 p6 p7 p8 p9 p10 p11 p12 doc pm an (.ref cda) ct cc) s.heap.objs.size fI)
  refine ks_wpAt_execs_cons (ks_wpAt_Expr_any (ks_wpAt_MethodCall (pl := pl) ?_ hpl))
  refine ks_wpAt_super_base rfl rfl (by decide) rfl (X₀ _ _ ho) rfl rfl rfl (X₀ _ _ hcode) rfl hvs TP.file TP.top ?_
  refine ks_loadName_global rfl rfl (loadGlobal_builtin (G.keeps k) T.sup (hB.keeps k) ((hmb "super" (by decide)).trans (by first | rfl | decide +kernel | kernel_rfl)) ⟨rfl, ?_⟩)
  refine wpAny_loadName_free rfl rfl rfl ⟨_, X₀ _ _ hcell, rfl⟩ ?_
  refine wpAny_loadName_local rfl rfl hns (by first | rfl | with_unfolding_all rfl | kernel_rfl) ?_
  have hD := X₀ _ _ hC
  refine ks_wpAny_isType_cls hD rfl ⟨rfl, ?_⟩
  have I₀ : InstAt h₀ x (excO C t0) C none := ⟨hx₀, rfl, rfl, trivial⟩
  refine ks_wpAny_call_super hD rfl hx₀ rfl (fun c e => by cases e) (looks_mroIn X₀ T.own) (fun h₁ hso k₁ => ?_)
  have X₁ : K.In h₁ := X₀.keeps k₁
  have I₁ : InstAt h₁ x (excO C t0) C none := ⟨k₁ _ _ hx₀, rfl, rfl, trivial⟩
  have hup := T.up
  unfold ks_superIn at hup
  rw [hcl] at hup
  refine kxs_getMethod kxs_ValueError hso (looks_opaque X₁ T.tp) (l₀ := .ref C :: bm) (fun A Q E s k q => wpAny_bind ((looks_clsIn X₁ hcl) A _ E s k (wpAny_pure q))) rfl X₁ hup (I₁.type.andThen (looks_subIn X₁ T.exV)) (ks_ne X₁ I₁ hcl) (by decide) ?_
  have k₂ : ∀ b o, h₁.get? b = some o → (h₁.push (kxs_mw "ValueError.__init__" x)).get? b = some o := fun b o e => Heap.get?_push_of_some _ e
  have hns₂ : (h₁.push (kxs_mw "ValueError.__init__" x)).Ns s.heap.objs.size (fun y => List.lookup y ([("self", Value.ref x), ("what", v)] : List (Str × Value)).reverse) := (hns.keeps k₁).keeps k₂
  refine kxs_callWith (i := "ValueError.__init__") (x := x) rfl ?_
  refine evalArgs_plain (spliced_cons ?_)
  refine wpAny_Name (wpAny_loadName_local rfl rfl hns₂ (by first | rfl | with_unfolding_all rfl | kernel_rfl) ?_) (by decide)
  refine spliced_nil ⟨Heap.get?_push_at rfl rfl, ?_⟩
  have hz : [v].length ≤ sizeLine := by rw [sizeLine_eq]; exact (by decide : 1 ≤ 16777216)
  refine call_up (C := C) (e := x) (t0 := t0) ((X₁.keeps k₂) _ _ hC) (k₂ _ _ (k₁ _ _ hx₀)) (Heap.get?_push_at rfl rfl) hz fun h₃ t1 k₃ hx₃ => ?_
  -- self.what = what
  refine ks_wpAt_execs_cons (wpAt_of_wpAny (plainObj_wpAny_Assign_Attribute ?_))
  have kk : ∀ b o, b ≠ x → s.heap.get? b = some o → h₃.get? b = some o := fun b o hb e => k₃ b o hb (k₂ b o (k₁ b o (k b o e)))
  have X₃ : K.In h₃ := fun a o e => kk a o (fun z => by rw [z, hnx] at e; cases e) (X a o e)
  have hns₃ : h₃.Ns s.heap.objs.size (fun y => List.lookup y ([("self", Value.ref x), ("what", v)] : List (Str × Value)).reverse) := hns₂.at (fun o e => k₃ _ o fr e)
  refine wpAny_Name (wpAny_loadName_local rfl rfl hns₃ (by first | rfl | with_unfolding_all rfl | kernel_rfl) ?_) (by decide)
  refine wpAny_Name (wpAny_loadName_local rfl rfl hns₃ (by first | rfl | with_unfolding_all rfl | kernel_rfl) ?_) (by decide)
  refine set_plain X₃ (ox := excO C t1) (od := none) ⟨hx₃, rfl, rfl, trivial⟩ T.sa ?_
  refine exc_osa X₃ hx₃ hcl (show refsVE (.ref C :: bm) = true from hbm) rfl T.noW (fun h₄ tk₄ dx k₄ dn dne hx₄ hn₄ => ?_)
  refine wpAt_of_wpAny (wpAny_execs_nil ?_)
  have z : s.heap.objs.size < h₃.objs.size := hns₃.lt
  exact hq h₄ tk₄ dx t1 ⟨fun b o hb e => k₄ b o hb (kk b o hb e), hx₄, Nat.le_of_lt (Nat.lt_of_lt_of_le z dn), dne, hn₄⟩
end
end VE
/-! Errors: made, raised; defs that raise, called. -/
namespace VE
open PySem PySem.W PySem.Calls PyProof.Rows PySem.HandSPX
structure ErrMade (h h' : Heap) (e C d : Addr) (v : Value) : Prop where
  keep : ∀ b o, h.get? b = some o → h'.get? b = some o
  new : h.objs.size ≤ e
  obj : ∃ oe vs, h'.get? e = some oe ∧ oe.cls = .ref C ∧ oe.dict = some d ∧ oe.data = .fields vs ∧ vs[1]? = some .none
  big : h.objs.size ≤ d
  dne : d ≠ e
  ns : h'.Ns1 d (fun y => if y = "what" then some v else none)
section
variable {prog : Program} {w : World} {A : Around} {R : Result → Shared → Prop} {s : Shared} {K : Frag} {mg : Str → Option Value} {C fI : Addr}
theorem err_made (T : ErrC K mg C fI) (TP : ErrP prog) {v : Value} (X : K.In s.heap) (hlim : s.heap.NoLimit) (G : s.heap.Ns mainGlobals mg) (B : ∃ mb, s.heap.Ns builtinsNs mb ∧ ∀ y : Str, y ≠ "__name__" → mb y = bootBuiltins y) (hroom : A.depth + 1 < recursionLimit)
    (hq : ∀ h' tk e d, ErrMade s.heap h' e C d v → R (.ok (.ret (.ref e))) { s with heap := h', toks := tk }) : codeAny (model prog w) A (.call (.ref C) ⟨[v], []⟩) R s := by
  obtain ⟨nm, q, N, bs, bm, sn, sub, ab, col, dd, m0, m1, m2, m3, m5, hC, hbm⟩ := T.cls
  obtain ⟨hp, g, dr, tk, os⟩ := s
  obtain ⟨mb, B1, B2⟩ := B
  have up : ∀ b o, hp.get? b = some o → ((hp.push (kdv_tup [v])).push (excO C hp.objs.size)).get? b = some o := fun b o e => Heap.get?_push_of_some _ (Heap.get?_push_of_some _ e)
  have at1 : ((hp.push (kdv_tup [v])).push (excO C hp.objs.size)).get? (hp.objs.size + 1) = some (excO C hp.objs.size) := by heap_get
  have noK : K.lookup (hp.objs.size + 1) = none := by
    cases e : K.lookup (hp.objs.size + 1) with
    | none => rfl
    | some o => exact absurd (Nat.lt_of_succ_lt (Heap.lt_size (show hp.get? (hp.objs.size + 1) = some o from X _ _ e))) (Nat.lt_irrefl _)
  have hz : [v].length ≤ sizeLine := by rw [sizeLine_eq]; exact (by decide : 1 ≤ 16777216)
  refine call_own F.excBase_ValueError (fun Y => refsVE_contains Y bm hbm) (X _ _ hC) (looks_findIn X T.ini) (fun self => bind_fn X self T.tyI) hz ?_
  refine err_ini (s := ⟨(hp.push (kdv_tup [v])).push (excO C hp.objs.size), g, dr, tk, os⟩) T TP (X.keeps up) (hlim.keeps up) (G.keeps up) ⟨mb, B1.keeps up, B2⟩ at1 noK ?_ fun h' tk' dx t1 ⟨k', hx, dn, dne, hns⟩ => ?_
  · show A.depth + 1 < recursionLimit
    exact hroom
  · have old : ∀ b o, hp.get? b = some o → h'.get? b = some o := fun b o e => k' b o (Nat.ne_of_lt (Nat.lt_succ_of_lt (Heap.lt_size e))) (up b o e)
    have z : hp.objs.size + 1 + 1 ≤ dx := by
      first
        | (simpa only [Heap.size_push] using dn)
        | exact dn
    exact ⟨rfl, hq h' tk' (hp.objs.size + 1) dx ⟨old, Nat.le_succ _, ⟨_, _, hx, rfl, rfl, rfl, rfl⟩, Nat.le_trans (Nat.le_trans (Nat.le_succ _) (Nat.le_succ _)) z, dne, hns⟩⟩
end
end VE
namespace VL
open PySem PySem.Spec PyProof.Rows L2
theorem relO_what {v : V} {v' : Value} (r : RelV v v') (f : Str) : RelO (List.lookup f [(("what" : Str), v)]) (if f = "what" then some v' else none) := by
  by_cases hw : f = "what"
  · subst hw
    rw [if_pos rfl, show List.lookup ("what" : Str) [(("what" : Str), v)] = some v from by simp [List.lookup]]
    exact r
  · rw [if_neg hw]
    have qw : (f == ("what" : Str)) = false := by simpa using hw
    rw [show List.lookup f [(("what" : Str), v)] = none from by simp [List.lookup, qw]]
    trivial
/-- C(e) -/
def tMkErr (C : Addr) (ta : TA) : L2.St → Hp → XK → Prop := fun σ H Q => ta σ H fun vs H1 => ∃ v, vs = [v] ∧ ∀ d, H1 d = none → Q (.ref C) (some d) (upd H1 d (.xd [(("what" : Str), v)]))
section
variable {X : Cx} {C fI : Addr} {cn : Str}
theorem pmk_err {a : Expr} {ta : TA} {p pos : Pos} {k : Nat} (T : VE.ErrC X.K X.mg C fI) (TP : VE.ErrP X.prog) (hm : X.mg cn = some (.ref C)) (hr : Room k X.A) (ha : PA X [a] ta) (hg : Gl X cn) (hdb : (cn == ("__debug__" : Str)) = false)
    (he : starEach (a :: []) X.env = (false, eval a X.env) :: starEach [] X.env) (hpl : (backTo pos (starEach [] X.env)).any (·.1) = false) : PMk X (.Call (.Name cn p) [a] [] pos) (tMkErr C ta) := by
  intro pins s σ H Q I h
  refine wpAny_Call_Name_kw (ld_glob I hg hm ?_ hdb)
  refine PySem.W.callWith_K (h₀ := X.base) I.ok.mod.kin T.kpC (thn (ha.run pos pins s σ H _ I h) fun us s1 hh => ?_) he hpl
  obtain ⟨vs, H1, I1, r1, v, ev, q1⟩ := hh
  subst ev
  refine ⟨I1.kIn, ?_⟩
  cases r1 with
  | cons rv rn =>
    rename_i v' us'
    cases rn
    show wpAny _ _ (call (.ref C) [v']) _ _ _
    have lim := I1.nolimit
    have gl : s1.heap.Ns mainGlobals X.mg := I1.ok.mod.glob.keeps I1.bk
    obtain ⟨mb, bl, bm⟩ := I1.ok.mod.blt
    have bl1 := bl.keeps I1.bk
    obtain ⟨hp, g, dr, tk, os⟩ := s1
    refine wpAny_call (VE.err_made T TP I1.kIn lim gl ⟨mb, bl1, bm⟩ (by have := hr.dp; omega) fun h' tk' e d M => ?_)
    show MkP X pins σ Q (.ref e) ⟨h', g, dr, tk', os⟩
    obtain ⟨oe, fv, hoe, hc, hd, hdat, h1⟩ := M.obj
    obtain ⟨G', g1, g2⟩ := restrict h' fun b => decide (b ≠ e)
    have off : ∀ b, b ≠ e → G'.get? b = h'.get? b := fun b hb => g1 b (decide_eq_true hb)
    have out : G'.get? e = none := g2 e (by simp)
    have kept : ∀ b o, hp.get? b = some o → G'.get? b = some o := fun b o q => (off b (Nat.ne_of_lt (Nat.lt_of_lt_of_le (Heap.lt_size q) M.new))).trans (M.keep b o q)
    have ob : ObjOk X.prog X.w (upd H1 d (.xd [(("what" : Str), v)])) G' d (.xd [(("what" : Str), v)]) := ⟨_, M.ns.at (fun o q => (off d M.dne).trans q), fun f => relO_what rv f⟩
    have J : Inv X pins σ (upd H1 d (.xd [(("what" : Str), v)])) ⟨G', g, dr, tk', os⟩ := I1.laid (t' := tk') kept M.big ob
    refine ⟨e, oe, fv, ⟨G', g, dr, tk', os⟩, _, .ref C, some d, rfl, J, fun b o q => ?_, out, hoe, ⟨hc, hd⟩, hdat, h1, ?_, rfl, I1.bare, raises_own T.exB T.tyC, q1 d (I1.hok.fresh M.big)⟩
    · by_cases hb : b = e
      · have q' : G'.get? b = some o := q
        rw [hb, out] at q'; cases q'
      · exact (off b hb).symm.trans q
    · rw [upd_ne (Ne.symm M.dne)]
      exact I1.hok.fresh M.new
end
/-- an error class of the program -/
def ErrOf (K : PySem.W.Frag) (mg : Str → Option Value) (cn : Str) : Prop := ∃ C fI, mg cn = some (.ref C) ∧ VE.ErrC K mg C fI
/-- raise C(e) -/
def gRaise (cn : Str) (m : M D) : SF := fun δ => match m δ with
  | .ok d δ' => .ex ⟨cn, [("what", d)]⟩ δ'
  | .ex x δ' => .ex x δ'
  | .un => .un
section
variable {X : Cx} {W : WX} {P : List Nat} {pos p pos2 : Pos}
theorem s_raise {cn : Str} {a : Expr} {m : M D} {k : Nat} (hc : X.calm = true) (T : ErrOf X.K X.mg cn) (TP : VE.ErrP X.prog) (tk : Takes X W) (hr : Room k X.A) (ha : E_ X (some W) P a m) (hg : Gl X cn := by rfl) (hdb : (cn == ("__debug__" : Str)) = false := by decide)
    (he : starEach (a :: []) X.env = (false, eval a X.env) :: starEach [] X.env := by rfl) (hpl : (backTo pos (starEach [] X.env)).any (·.1) = false := by rfl) : S_ X (some W) P (.Raise (some (.Call (.Name cn p) [a] [] pos)) none pos2) (gRaise cn m) := by
  obtain ⟨C, fI, hm, T⟩ := T
  obtain ⟨ta, pa, qa⟩ := ha
  refine ⟨_, ps_raise hc tk (pmk_err T TP hm hr (pa_cons pa pa_nil he) hg hdb he hpl), fun G H σ δ S Z h => ?_⟩
  refine qa G H σ δ S _ ?_
  unfold gRaise at h
  cases e : m δ with
  | un => simp only [e] at h; exact h
  | ex x δ' => simp only [e] at h; exact h
  | ok d δ' =>
    simp only [e] at h
    intro v G' H' gr st r
    refine ⟨v, rfl, fun dd hd => ?_⟩
    have gn : Gro G' H' G' (upd H' dd (.xd [(("what" : Str), v)])) := Gro.newM hd
    exact h σ C dd [("what", v)] G' _ hm upd_same (.cons r .nil) (gr.trans (gn.any fun _ q => q)) (st.gro gn (same_newM st.gh hd)) fun _ _ => rfl
end

/-! ### defs that raise -/
def HasX (Pg : Program) (w : World) (K : PySem.W.Frag) (mg : Str → Option Value) (base : Heap) (x : Str) (k n : Nat) (ps : List Str) (ff : FF) : Prop :=
  ∃ f fd, mg x = some (.ref f) ∧ PySem.W.keepIn K (.ref f) = true ∧ Binds K fd ps [] ∧ FnOk Pg w K mg base (L2.CX Pg w) k f fd ps (spF K mg n ff)
section
variable {Pg : Program} {w : World} {K : PySem.W.Frag} {mg : Str → Option Value} {base : Heap}
theorem has_mkX {x : Str} {st : Stmt} {N ps : List Str} {k n m : Nat} {P : List Nat} {g : SF} (d : Def K mg x st) (S : FnScope N ps (defScope st)) (hn : ps.length = n) (hm : N.length = n + m)
    (hbi : ∀ (kV doc pm : Value) (an : Option Addr) (cdv ct : Value) (us : List Value), us.length = ps.length → bindArgs (PySem.W.fnOf x x (defArgs st) (defBody st) (defScope st) .none kV doc pm an cdv ct) ⟨us, []⟩ = pure (ps.zip us))
    (hb : ∀ (f : Addr) (cdv : Value) (A : Around) (outer : List PySem.Env) (s : Shared) (H : Hp) (E : XK), Room k (A.deeper (envOfC x (defScope st) s.heap.objs.size f cdv)) → B_ (cxOf (L2.CX Pg w) Pg w K mg base N x (defScope st) f cdv A outer s H E) (some fun cls d _ H => E cls d H) P (defBody st) g) :
    HasX Pg w K mg base x (k + 1) n ps (fnM n P m g) := by
  obtain ⟨f, fd, F, hmg⟩ := d
  refine ⟨f, fd, hmg, F.kp, F.binds hbi, ?_⟩
  refine F.okX S (fun vs H Q E h => by rw [h.1, hn]) fun cdv A outer s H vs Q E hr h => ?_
  obtain ⟨t, pt, qt⟩ := hb f cdv A outer s H E hr
  refine ⟨t, pt, ?_⟩
  obtain ⟨hv, G, cs, S0, h⟩ := h
  obtain ⟨S1, g1, _⟩ := S0.start (m := m)
  have e0 : L2.start N vs = vs.map some ++ List.replicate m none := by unfold L2.start; rw [hm, hv, Nat.add_sub_cancel_left]
  have hc : cs.length = n := by rw [← S0.len, List.length_map, hv]
  rw [e0]
  refine qt G H _ _ S1 _ ?_
  unfold fnM at h
  rw [if_pos hc] at h
  have fin : ∀ (δ' : Env) (σ' : L2.St) (G' H' : Hp), Grow (Ad (vs.map some ++ List.replicate m none) (cs ++ List.replicate m .un)) (Ad σ' δ') G H G' H' → Sta K mg G' H' σ' δ' → (∀ i ∈ P, σ'[i]? = (vs.map some ++ List.replicate m none)[i]?) →
      Grow (Ad (vs.map some) cs) (Ad (vs.map some) (outs P n δ')) G H G' H' ∧ Sta K mg G' H' (vs.map some) (outs P n δ') := by
    intro δ' σ' G' H' gr st kp
    obtain ⟨s2, a2⟩ := st.outs (P := P) hv fun i hi hin => by rw [kp i hi, List.getElem?_append_left (by rw [List.length_map]; omega)]
    have g12 := g1.trans gr
    exact ⟨⟨g12.gg, g12.fresh, g12.keep, g12.there, fun b hb => g12.new b (a2 b hb)⟩, s2⟩
  cases e : g (cs ++ List.replicate m .un) with
  | nx δ' =>
    simp only [e] at h
    intro σ' G' H' gr st kp
    obtain ⟨a, b⟩ := fin δ' σ' G' H' gr st kp
    exact h .non G' H' a b .non
  | rt d δ' =>
    simp only [e] at h
    intro v σ' G' H' gr st kp r
    obtain ⟨a, b⟩ := fin δ' σ' G' H' gr st kp
    exact h v G' H' a b r
  | ex x δ' =>
    simp only [e] at h
    intro σ' C dd fvs G' H' b1 b2 b3 gr st kp
    obtain ⟨a, b⟩ := fin δ' σ' G' H' gr st kp
    exact h C dd fvs G' H' b1 b2 b3 a b
  | rn d δ' => simp only [e] at h
  | bk δ' => simp only [e] at h
  | ct δ' => simp only [e] at h
  | un => simp only [e] at h
end
def calX (n : Nat) (ff : FF) : FF := fun cs => if cs.length = n then ff cs else .un
section
variable {X : Cx} {W : WX} {P : List Nat} {pos p : Pos} {x : Str}
theorem e_callX {k n : Nat} {ps : List Str} {ff : FF} {e : Expr} {es : List Expr} {m : M (List Arg)} (h : HasX X.prog X.w X.K X.mg X.base x k n ps ff) (tk : Takes X W) (hr : Room k X.A) (ha : A_ X (some W) P (e :: es) m) (hg : Gl X x := by rfl)
    (hdb : (x == ("__debug__" : Str)) = false := by decide) (he : starEach (e :: es) X.env = (false, eval e X.env) :: starEach es X.env := by rfl) (hpl : (backTo pos (starEach es X.env)).any (·.1) = false := by rfl) :
    E_ X (some W) P (.Call (.Name x p) (e :: es) [] pos) (eCall (calX n ff) m) := by
  obtain ⟨f, fd, hm, hk, hb, F⟩ := h
  obtain ⟨ta, pa, qa⟩ := ha
  refine ⟨_, pe_callS F hr hg hm hk hb (fun σ => passAt tk σ) pa hdb he hpl, qa.bind fun G H σ δ vs as S r Q h => ?_⟩
  unfold callM at h
  by_cases nd : (argSlots as).Nodup
  · rw [if_pos nd] at h
    cases e : argCells δ as with
    | none => simp only [e] at h; exact h.elim
    | some cs =>
      simp only [e] at h
      by_cases hl : cs.length = n
      · obtain ⟨S0, a0⟩ := S.args r e nd
        have lv : (vs.map some).length = cs.length := S0.len
        have ec : calX n ff cs = ff cs := if_pos hl
        rw [ec] at h
        refine ⟨by rw [List.length_map] at lv; omega, G, cs, S0, ?_⟩
        cases e2 : ff cs with
        | ok d cs' =>
          simp only [e2] at h
          intro v G' H' gr st rr
          obtain ⟨g1, s1⟩ := S.back r e nd gr st
          exact h v G' H' g1 s1 rr
        | ex y cs' =>
          simp only [e2] at h
          intro C dd fvs G' H' b1 b2 b3 gr st
          obtain ⟨g1, s1⟩ := S.back r e nd gr st
          exact h σ C dd fvs G' H' b1 b2 b3 g1 s1 fun _ _ => rfl
        | un => simp only [e2] at h; exact h.elim
      · have ec : calX n ff cs = .un := if_neg hl
        rw [ec] at h; exact h.elim
  · rw [if_neg nd] at h; exact h.elim
end
end VL
/-! try .. except: what the suite says of the error that it caught. -/
namespace VL
open PySem PySem.Spec PyProof.Rows L2

/-- what an own error class must say, so that its instances are asked and read -/
structure ErrQ (K : PySem.W.Frag) (mg : Str → Option Value) (cn : Str) (C : Addr) : Prop where
  gC : mg cn = some (.ref C)
  cl : (PySem.W.clsIn K C).isSome = true
  ga : PySem.W.findIn K (.ref C) "__getattribute__" = some (some (.builtin "BaseException.__getattribute__"))
  gg : PySem.W.findIn K (.ref C) "__getattr__" = some none
  su : PySem.W.subIn K (.ref C) (.type "BaseException") = some true
  hd : PySem.W.hasDictIn K C = true
  ac : PySem.W.findIn K (.ref C) "__class__" = some (some (.builtin "object.__class__"))
  sp : PySem.W.specialIn K (.builtin "object.__class__") "__get__" = some (some (.builtin "getset_descriptor.__get__"))
  tk : PySem.W.takesIn K (.builtin "object.__class__") = some true
  mo : PySem.W.mroIn K C (.type "object") = some true
  nw : PySem.W.findIn K (.ref C) "what" = some none
theorem ErrQ.one {K : PySem.W.Frag} {mg : Str → Option Value} {cn : Str} {C C' : Addr} (h : ErrQ K mg cn C) (e : mg cn = some (.ref C')) : C' = C := by
  have := h.gC; rw [e] at this; cases this; rfl
/-- the classes that are spoken of, and which is under which -/
structure ErrT (K : PySem.W.Frag) (mg : Str → Option Value) (kn : List Str) (isa : Str → Str → Bool) (over : List Str) : Prop where
  q : ∀ cn ∈ kn, ∃ C, ErrQ K mg cn C
  g : ∀ p ∈ over, ∃ C', mg p = some (.ref C')
  o : ∀ cn ∈ kn, ∀ p ∈ over, ∀ C, mg cn = some (.ref C) → ∃ C', mg p = some (.ref C') ∧ PySem.W.kitOne K (.ref C) (.ref C') = some (isa cn p) ∧ PySem.W.exmOne K (.ref C) (.ref C') = some (isa cn p)

/-- the suite's state: slot i holds the error x, at a -/
structure Hc (K : PySem.W.Frag) (mg : Str → Option Value) (i : Nat) (a : Addr) (cls : Value) (d : Option Addr) (G H : Hp) (σ : L2.St) (x : Exc) : Prop where
  sl : σ[i]? = some (some (.ref a))
  gh : Same G H
  ex : ∃ (C dd : Addr) (fvs : List (Str × V)), mg x.cls = some (.ref C) ∧ cls = .ref C ∧ d = some dd ∧ H dd = some (.xd fvs) ∧ RpF K mg G fvs x.fs
theorem Hc.gro {K : PySem.W.Frag} {mg : Str → Option Value} {i : Nat} {a : Addr} {cls : Value} {d : Option Addr} {G H G' H' : Hp} {σ : L2.St} {x : Exc} (h : Hc K mg i a cls d G H σ x) (g : Gro G H G' H') (s : Same G' H') : Hc K mg i a cls d G' H' σ x := by
  obtain ⟨C, dd, fvs, a1, a2, a3, a4, a5⟩ := h.ex
  exact ⟨h.sl, s, C, dd, fvs, a1, a2, a3, g.hh _ _ a4, a5.mono g.gg⟩
section
variable (X : Cx) (i : Nat)
def HE (e : Expr) (h : Exc → Option D) : Prop := ∀ (a : Addr) (oe : Obj) (cls : Value) (d : Option Addr) (pn : List (Addr × Obj)), Zc cls d oe → (∃ vs, oe.data = .fields vs) → ∃ te, PE (X.suite a ((a, oe) :: pn)) e te ∧
  ∀ (G H : Hp) (σ : L2.St) (x : Exc) (z : D), Hc X.K X.mg i a cls d G H σ x → h x = some z → ∀ Q : VK, (∀ (v : V) (G' H' : Hp), Gro G H G' H' → Same G' H' → Rp X.K X.mg G' v z → Q v H') → te σ H Q
def HT_ (e : Expr) (h : Exc → Option Bool) : Prop := ∀ (a : Addr) (oe : Obj) (cls : Value) (d : Option Addr) (pn : List (Addr × Obj)), Zc cls d oe → (∃ vs, oe.data = .fields vs) → ∃ te, PT (X.suite a ((a, oe) :: pn)) e te ∧
  ∀ (G H : Hp) (σ : L2.St) (x : Exc) (z : Bool), Hc X.K X.mg i a cls d G H σ x → h x = some z → ∀ Q : Bool → Hp → Prop, (∀ (G' H' : Hp), Gro G H G' H' → Same G' H' → Q z H') → te σ H Q
def HAs (es : List Expr) (h : Exc → Option (List D)) : Prop := ∀ (a : Addr) (oe : Obj) (cls : Value) (d : Option Addr) (pn : List (Addr × Obj)), Zc cls d oe → (∃ vs, oe.data = .fields vs) → ∃ te, PA (X.suite a ((a, oe) :: pn)) es te ∧
  ∀ (G H : Hp) (σ : L2.St) (x : Exc) (z : List D), Hc X.K X.mg i a cls d G H σ x → h x = some z → ∀ Q : List V → Hp → Prop, (∀ (v : List V) (G' H' : Hp), Gro G H G' H' → Same G' H' → RpAll X.K X.mg G' v z → Q v H') → te σ H Q
/-- a suite that hands back -/
def HB (st : List Stmt) (h : Exc → Option D) : Prop := ∀ (a : Addr) (oe : Obj) (cls : Value) (d : Option Addr) (pn : List (Addr × Obj)), Zc cls d oe → (∃ vs, oe.data = .fields vs) → ∃ te, PSs (X.suite a ((a, oe) :: pn)) st te ∧
  ∀ (G H : Hp) (σ : L2.St) (x : Exc) (z : D), Hc X.K X.mg i a cls d G H σ x → h x = some z → ∀ Z : Ends, (∀ (v : V) (G' H' : Hp), Gro G H G' H' → Same G' H' → Rp X.K X.mg G' v z → Z.rt v H') → te Z σ H
end
section
variable {X : Cx} {i : Nat} {pos p : Pos}
theorem he_const {e : Expr} {v : V} {d : D} (he : ∀ Y : Cx, PE Y e (fun _ H Q => Q v H)) (r : ∀ G, Rp X.K X.mg G v d) : HE X i e (fun _ => some d) := fun a oe cls dd pn _ _ => ⟨_, he _, fun G H σ x z hc hz Q k => by
  cases hz
  exact k v G H Grow.refl hc.gh (r G)⟩
theorem he_str {s : Str} {j} : HE X i (.Constant (.str s) j pos) (fun _ => some (.str s)) := he_const (fun _ => pe_str) fun _ => .str s
theorem he_non {j} : HE X i (.Constant .none j pos) (fun _ => some .non) := he_const (fun _ => pe_non) fun _ => .non
theorem he_bl {b : Bool} {j} : HE X i (.Constant (.bool b) j pos) (fun _ => some (.bl b)) := he_const (fun _ => pe_bl) fun _ => .bl b
theorem he_int {n : Int} {j} : HE X i (.Constant (.int n) j pos) (fun _ => some (.int n)) := he_const (fun _ => pe_int) fun _ => .int n
/-- error.what -/
def hWhat (kn : List Str) : Exc → Option D := fun x => if x.cls ∈ kn then x.fs.lookup ("what" : Str) else none
theorem he_what {kn over : List Str} {isa : Str → Str → Bool} {n : Str} (T : ErrT X.K X.mg kn isa over) (hN : X.N[i]? = some n := by rfl) (hv : Vis X.env.scope n := by first | exact Or.inl rfl | exact Or.inr (Or.inl rfl) | exact Or.inr (Or.inr rfl)) (hd : (n == ("__debug__" : Str)) = false := by decide)
    (hcd : (n == ("__classdict__" : Str)) = false := by decide) (hb : attributeBase (.Name n p) "what" X.env (eval (.Name n p) X.env) = eval (.Name n p) X.env := by rfl) : HE X i (.Attribute (.Name n p) "what" pos) (hWhat kn) := by
  intro a oe cls d pn hz hf
  have base : PE (X.suite a ((a, oe) :: pn)) (.Name n p) (tVar i) := pe_var (X := X.suite a ((a, oe) :: pn)) hN hv hd hcd
  refine ⟨fun σ H Q => ∃ C, (XfC X.K C ∧ PySem.W.findIn X.K (.ref C) "what" = some none) ∧ tXf a cls d C "what" (tVar i) σ H Q, ⟨fun pins s σ H Q I ⟨C, ⟨h1, h2⟩, h⟩ => (pe_xf (X := X) h1 h2 hz hf base hb).run pins s σ H Q I h⟩, ?_⟩
  intro G H σ x z hc h Q k
  unfold hWhat at h
  split at h
  · rename_i hk
    obtain ⟨C0, q⟩ := T.q _ hk
    obtain ⟨C, dd, fvs, a1, a2, a3, a4, a5⟩ := hc.ex
    have := q.one a1
    subst this
    obtain ⟨v, l, r⟩ := a5.at h
    exact ⟨C, ⟨⟨q.ga, q.gg, q.su, q.hd⟩, q.nw⟩, .ref a, hc.sl, rfl, a2, dd, fvs, v, a3, a4, l, k v G H Grow.refl hc.gh r⟩
  · cases h
/-- isinstance(error, C) -/
def hIs (kn : List Str) (isa : Str → Str → Bool) (p : Str) : Exc → Option Bool := fun x => if x.cls ∈ kn then some (isa x.cls p) else none
theorem call_isX {a D : Addr} {oe : Obj} {d : Option Addr} {cn : Str} {pn : List (Addr × Obj)} (C : ErrQ X.K X.mg cn D) (hz : Zc (.ref D) d oe) (hf : ∃ vs, oe.data = .fields vs) (hd : ∃ dd, d = some dd) :
    CallR (X.suite a ((a, oe) :: pn)) (.builtin "isinstance") (fun xs H Q => (∃ dd fvs, d = some dd ∧ H dd = some (.xd fvs)) ∧ rIsE X.K D a xs H Q) := by
  intro pins s σ H xs us Q I r ⟨⟨dd, fvs, e1, e2⟩, h⟩
  obtain ⟨c, cv, b, rfl, hcv, e, q⟩ := h
  cases r with
  | cons rx rr =>
    cases rr with
    | cons rt rr =>
      cases rr
      cases rx
      have ec := hcv _ rt
      subst ec
      obtain ⟨hget, _⟩ := I.pin (a, oe) (List.mem_append.mpr (.inl List.mem_cons_self))
      obtain ⟨vs, hv⟩ := hf
      obtain ⟨mA, hns, _⟩ := I.hok dd _ e2
      obtain ⟨od, ho, _⟩ := lookIn_ns hns
      have J : PySem.W.InstAt s.heap a oe D (some od) := ⟨hget, hz.1, by unfold PySem.W.notCls; rw [hv] <;> rfl, by rw [hz.2, e1]; exact ho⟩
      exact PySem.W.kia_one (PySem.W.kitx_exc C.cl C.ga C.gg C.su C.ac C.sp C.tk C.mo) I.kIn J e (fun z => nomatch z) fun tk => ⟨.bl b, H, I.kept (t' := tk) fun _ _ z => z, rfl, q⟩
theorem he_is {kn over : List Str} {isa : Str → Str → Bool} {n c : Str} {p1 p2 p3 : Pos} (T : ErrT X.K X.mg kn isa over) (hm : X.mg "isinstance" = none) (hc : c ∈ over := by decide) (hN : X.N[i]? = some n := by rfl) (hv : Vis X.env.scope n := by first | exact Or.inl rfl | exact Or.inr (Or.inl rfl) | exact Or.inr (Or.inr rfl)) (hd : (n == ("__debug__" : Str)) = false := by decide)
    (hcd : (n == ("__classdict__" : Str)) = false := by decide) (hg : Gl X "isinstance" := by rfl) (hgc : Gl X c := by rfl) (hdc : (c == ("__debug__" : Str)) = false := by decide)
    (he : starEach (.Name n p1 :: [.Name c p2]) X.env = (false, eval (.Name n p1) X.env) :: starEach [.Name c p2] X.env := by rfl) (he' : starEach (.Name c p2 :: []) X.env = (false, eval (.Name c p2) X.env) :: starEach [] X.env := by rfl) (hpl : (backTo pos (starEach [.Name c p2] X.env)).any (·.1) = false := by rfl) :
    HE X i (.Call (.Name "isinstance" p3) [.Name n p1, .Name c p2] [] pos) (fun x => (hIs kn isa c x).map D.bl) := by
  intro a oe cls d pn hz hf
  have base : PE (X.suite a ((a, oe) :: pn)) (.Name n p1) (tVar i) := pe_var (X := X.suite a ((a, oe) :: pn)) hN hv hd hcd
  obtain ⟨C', gC'⟩ := T.g c hc
  have other : PE (X.suite a ((a, oe) :: pn)) (.Name c p2) (tC (.ref C')) := pe_glob (X := X.suite a ((a, oe) :: pn)) hgc gC' rfl hdc
  have bb : bootBuiltins "isinstance" = some (.builtin "isinstance") := by decide +kernel
  refine ⟨fun σ H Q => ∃ (D : Addr) (cn : Str), (ErrQ X.K X.mg cn D ∧ cls = .ref D ∧ (∃ dd, d = some dd)) ∧
    tCB (fun xs H Q => (∃ dd fvs, d = some dd ∧ H dd = some (.xd fvs)) ∧ rIsE X.K D a xs H Q) (tCons (tVar i) (tCons (tC (.ref C')) tNil)) σ H Q, ⟨fun pins s σ H Q I ⟨D, cn, ⟨h1, h2, h3⟩, h⟩ => ?_⟩, ?_⟩
  · subst h2
    exact (pe_callB (X := X.suite a ((a, oe) :: pn)) (call_isX h1 hz hf h3) hg hm bb (pa_cons base (pa_cons other pa_nil he') he) (by decide) (by decide) he hpl).run pins s σ H Q I h
  · intro G H σ x z k h Q q
    unfold hIs at h
    dsimp only at h
    by_cases hk : x.cls ∈ kn
    · rw [if_pos hk] at h
      cases h
      obtain ⟨D, e1⟩ := T.q _ hk
      obtain ⟨C, dd, fvs, a1, a2, a3, a4, a5⟩ := k.ex
      have := e1.one a1
      subst this
      obtain ⟨C2, b1, b2, _⟩ := T.o _ hk c hc _ a1
      have := b1.symm.trans gC'
      cases this
      refine ⟨C, x.cls, ⟨e1, a2, dd, a3⟩, .ref a, k.sl, ⟨dd, fvs, a3, a4⟩, .ref C', .ref C', isa x.cls c, rfl, fun u r => r, b2, q _ G H Grow.refl k.gh (.bl _)⟩
    · rw [if_neg hk] at h; cases h
/-- tests of the suite -/
theorem ht_val {e : Expr} {h : Exc → Option Bool} (k : HE X i e (fun x => (h x).map D.bl)) (he : ∀ whole, isTrue e X.env whole = (do let v ← whole; standAt e.pos; holding [v] (truthy v)) := by intro _; rfl) : HT_ X i e h := by
  intro a oe cls d pn hz hf
  obtain ⟨te, p, q⟩ := k a oe cls d pn hz hf
  refine ⟨_, pt_val p he, fun G H σ x z hc e Q k => q G H σ x (.bl z) hc (by show (h x).map D.bl = _; rw [e]; rfl) _ fun v G' H' g s r => ⟨z, Rp.bl' r, k G' H' g s⟩⟩
def HW (X : Cx) (i : Nat) (e : Expr) (h : Exc → Option Bool) : Prop := ∀ (a : Addr) (oe : Obj) (cls : Value) (d : Option Addr) (pn : List (Addr × Obj)), Zc cls d oe → (∃ vs, oe.data = .fields vs) → ∃ te, PW (X.suite a ((a, oe) :: pn)) e te ∧
  ∀ (G H : Hp) (σ : L2.St) (x : Exc) (z : Bool), Hc X.K X.mg i a cls d G H σ x → h x = some z → ∀ Q : Bool → Hp → Prop, (∀ (G' H' : Hp), Gro G H G' H' → Same G' H' → Q z H') → te σ H Q
theorem HW.t {e : Expr} {h : Exc → Option Bool} (k : HW X i e h) : HT_ X i e h := fun a oe cls d pn hz hf => by
  obtain ⟨te, p, q⟩ := k a oe cls d pn hz hf
  exact ⟨te, p.pt, q⟩
theorem hw_or1 {e : Expr} {h : Exc → Option Bool} (k : HT_ X i e h) : HW X i (.BoolOp .Or [e] pos) h := fun a oe cls d pn hz hf => by
  obtain ⟨te, p, q⟩ := k a oe cls d pn hz hf
  exact ⟨te, pw_or1 p, q⟩
theorem hw_and1 {e : Expr} {h : Exc → Option Bool} (k : HT_ X i e h) : HW X i (.BoolOp .And [e] pos) h := fun a oe cls d pn hz hf => by
  obtain ⟨te, p, q⟩ := k a oe cls d pn hz hf
  exact ⟨te, pw_and1 p, q⟩
def hOr (f g : Exc → Option Bool) : Exc → Option Bool := fun x => (f x).bind fun b => if b = true then some true else g x
def hAnd (f g : Exc → Option Bool) : Exc → Option Bool := fun x => (f x).bind fun b => if b = true then g x else some false
theorem hw_or {e1 e2 : Expr} {es : List Expr} {f g : Exc → Option Bool} (h1 : HT_ X i e1 f) (h2 : HW X i (.BoolOp .Or (e2 :: es) pos) g) : HW X i (.BoolOp .Or (e1 :: e2 :: es) pos) (hOr f g) := fun a oe cls d pn hz hf => by
  obtain ⟨te, p, q⟩ := h1 a oe cls d pn hz hf
  obtain ⟨te2, p2, q2⟩ := h2 a oe cls d pn hz hf
  refine ⟨_, pw_or p p2, fun G H σ x z hc e Q k => ?_⟩
  unfold hOr at e
  cases e1 : f x with
  | none => rw [e1] at e; cases e
  | some b =>
    rw [e1, Option.bind_some] at e
    refine q G H σ x b hc e1 _ fun G' H' g' s => ?_
    cases b with
    | true => cases e; exact k G' H' g' s
    | false => exact q2 G' H' σ x z (hc.gro g' s) e Q fun G2 H2 g2 s2 => k G2 H2 (g'.trans g2) s2
theorem hw_and {e1 e2 : Expr} {es : List Expr} {f g : Exc → Option Bool} (h1 : HT_ X i e1 f) (h2 : HW X i (.BoolOp .And (e2 :: es) pos) g) : HW X i (.BoolOp .And (e1 :: e2 :: es) pos) (hAnd f g) := fun a oe cls d pn hz hf => by
  obtain ⟨te, p, q⟩ := h1 a oe cls d pn hz hf
  obtain ⟨te2, p2, q2⟩ := h2 a oe cls d pn hz hf
  refine ⟨_, pw_and p p2, fun G H σ x z hc e Q k => ?_⟩
  unfold hAnd at e
  cases e1 : f x with
  | none => rw [e1] at e; cases e
  | some b =>
    rw [e1, Option.bind_some] at e
    refine q G H σ x b hc e1 _ fun G' H' g' s => ?_
    cases b with
    | false => cases e; exact k G' H' g' s
    | true => exact q2 G' H' σ x z (hc.gro g' s) e Q fun G2 H2 g2 s2 => k G2 H2 (g'.trans g2) s2
def hIf {α : Type} (t : Exc → Option Bool) (f g : Exc → Option α) : Exc → Option α := fun x => (t x).bind fun b => if b = true then f x else g x
theorem he_if {c e1 e2 : Expr} {t : Exc → Option Bool} {f g : Exc → Option D} (hc : HT_ X i c t) (h1 : HE X i e1 f) (h2 : HE X i e2 g) : HE X i (.IfExp c e1 e2 pos) (hIf t f g) := fun a oe cls d pn hz hf => by
  obtain ⟨tt, p0, q0⟩ := hc a oe cls d pn hz hf
  obtain ⟨te, p, q⟩ := h1 a oe cls d pn hz hf
  obtain ⟨te2, p2, q2⟩ := h2 a oe cls d pn hz hf
  refine ⟨_, pe_ifExp p0 p p2, fun G H σ x z hc e Q k => ?_⟩
  unfold hIf at e
  cases e1 : t x with
  | none => rw [e1] at e; cases e
  | some b =>
    rw [e1, Option.bind_some] at e
    refine q0 G H σ x b hc e1 _ fun G' H' g' s => ?_
    cases b with
    | true => exact q G' H' σ x z (hc.gro g' s) e Q fun v G2 H2 g2 s2 r => k v G2 H2 (g'.trans g2) s2 r
    | false => exact q2 G' H' σ x z (hc.gro g' s) e Q fun v G2 H2 g2 s2 r => k v G2 H2 (g'.trans g2) s2 r
theorem has_nil : HAs X i [] (fun _ => some []) := fun a oe cls d pn hz hf => ⟨_, pa_nil, fun G H σ x z hc e Q k => by
  cases e
  exact k [] G H Grow.refl hc.gh .nil⟩
def hCons (f : Exc → Option D) (g : Exc → Option (List D)) : Exc → Option (List D) := fun x => (f x).bind fun d => (g x).map (d :: ·)
theorem has_cons {e : Expr} {es : List Expr} {f : Exc → Option D} {g : Exc → Option (List D)} (h1 : HE X i e f) (h2 : HAs X i es g) (hs : starEach (e :: es) X.env = (false, eval e X.env) :: starEach es X.env := by rfl) : HAs X i (e :: es) (hCons f g) := fun a oe cls d pn hz hf => by
  obtain ⟨te, p, q⟩ := h1 a oe cls d pn hz hf
  obtain ⟨te2, p2, q2⟩ := h2 a oe cls d pn hz hf
  refine ⟨_, pa_cons p p2 hs, fun G H σ x z hc e Q k => ?_⟩
  unfold hCons at e
  cases e1 : f x with
  | none => rw [e1] at e; cases e
  | some b =>
    rw [e1, Option.bind_some] at e
    cases e2 : g x with
    | none => rw [e2] at e; cases e
    | some bs =>
      rw [e2] at e
      cases e
      refine q G H σ x b hc e1 _ fun v G' H' g' s r => ?_
      exact q2 G' H' σ x bs (hc.gro g' s) e2 _ fun vs G2 H2 g2 s2 rs => k _ G2 H2 (g'.trans g2) s2 (.cons (Rp.mono g2.gg r) rs)
theorem he_tup {es : List Expr} {x1} {g : Exc → Option (List D)} (h : HAs X i es g) : HE X i (.Tuple es x1 pos) (fun x => (g x).bind mkTup) := fun a oe cls d pn hz hf => by
  obtain ⟨te, p, q⟩ := h a oe cls d pn hz hf
  refine ⟨_, pe_tup p, fun G H σ x z hc e Q k => ?_⟩
  dsimp only at e
  cases e1 : g x with
  | none => rw [e1] at e; cases e
  | some ds =>
    rw [e1, Option.bind_some] at e
    unfold mkTup at e
    split at e
    · cases e
      refine q G H σ x ds hc e1 _ fun vs G' H' g' s r => ⟨by rw [r.len]; assumption, ?_⟩
      exact new_tup s r fun v G2 H2 g2 s2 r2 => k v G2 H2 (g'.trans g2) s2 r2
    · cases e
/-- suites -/
theorem hb_ret {e : Expr} {f : Exc → Option D} {rest : List Stmt} (h : HE X i e f) : HB X i [.Return (some e) pos] f := fun a oe cls d pn hz hf => by
  obtain ⟨te, p, q⟩ := h a oe cls d pn hz hf
  exact ⟨_, pss_one (ps_ret p), fun G H σ x z hc e Z k => q G H σ x z hc e _ fun v G' H' g s r => k v G' H' g s r⟩
theorem hb_if {c : Expr} {st rest : List Stmt} {t : Exc → Option Bool} {f g : Exc → Option D} (hc : HT_ X i c t) (h1 : HB X i st f) (h2 : HB X i rest g) : HB X i (.If c st [] pos :: rest) (hIf t f g) := fun a oe cls d pn hz hf => by
  obtain ⟨tt, p0, q0⟩ := hc a oe cls d pn hz hf
  obtain ⟨te, p, q⟩ := h1 a oe cls d pn hz hf
  obtain ⟨te2, p2, q2⟩ := h2 a oe cls d pn hz hf
  refine ⟨_, pss_cons (ps_if p0 p pss_nil) p2, fun G H σ x z hc e Z k => ?_⟩
  unfold hIf at e
  cases e1 : t x with
  | none => rw [e1] at e; cases e
  | some b =>
    rw [e1, Option.bind_some] at e
    refine q0 G H σ x b hc e1 _ fun G' H' g' s => ?_
    cases b with
    | true => exact q G' H' σ x z (hc.gro g' s) e _ fun v G2 H2 g2 s2 r => k v G2 H2 (g'.trans g2) s2 r
    | false => exact q2 G' H' σ x z (hc.gro g' s) e _ fun v G2 H2 g2 s2 r => k v G2 H2 (g'.trans g2) s2 r

/-! ### try: body, except p as n: suite -/
def gTry (i : Nat) (kn : List Str) (isa : Str → Str → Bool) (p : Str) (g : SF) (h : Exc → Option D) : SF := fun δ => match g δ with
  | .ex x δ' => if x.cls ∈ kn ∧ i < δ'.length then (if isa x.cls p = true then match h x with
      | some d => .rt d (δ'.set i .un)
      | none => .un
    else .ex x δ') else .un
  | r => r
end
section
variable {K : PySem.W.Frag} {mg : Str → Option Value} {G H : Hp} {σ : L2.St} {δ : Env} {i : Nat}
theorem Sta.setUn {v : Option V} (S : Sta K mg G H σ δ) : Grow (Ad σ δ) (Ad (σ.set i v) (δ.set i .un)) G H G H ∧ Sta K mg G H (σ.set i v) (δ.set i .un) := by
  have sp : ∀ (j : Nat) (w : Option V) (c : Cell), (σ.set i v)[j]? = some w → (δ.set i .un)[j]? = some c → c = .un ∨ (σ[j]? = some w ∧ δ[j]? = some c) := by
    intro j w c h1 h2
    rcases set_get h2 with ⟨_, rfl, _⟩ | ⟨hj, h2⟩
    · exact .inl rfl
    · rcases set_get h1 with ⟨hj', _⟩ | ⟨_, h1⟩
      · exact absurd hj' hj
      · exact .inr ⟨h1, h2⟩
  refine ⟨⟨Same.refl _, fun _ _ _ => rfl, fun _ _ q _ => q, fun _ q => q, fun b ⟨j, w, c, h1, h2, h3⟩ => .inl ?_⟩, S.gh, by rw [List.length_set, List.length_set]; exact S.len, fun j w c h1 h2 => ?_, fun j l w x c e a h1 h2 h3 h4 h5 h6 => ?_⟩
  · rcases sp j w c h1 h2 with rfl | ⟨a1, a2⟩
    · rw [adr_un] at h3; cases h3
    · exact ⟨j, w, c, a1, a2, h3⟩
  · rcases sp j w c h1 h2 with rfl | ⟨a1, a2⟩
    · cases w <;> trivial
    · exact S.at_ j w c a1 a2
  · rcases sp j w c h1 h2 with rfl | ⟨a1, a2⟩
    · rw [adr_un] at h5; cases h5
    · rcases sp l x e h3 h4 with rfl | ⟨b1, b2⟩
      · rw [adr_un] at h6; cases h6
      · exact S.dis j l w x c e a a1 a2 b1 b2 h5 h6
end
section
variable {X : Cx} {P : List Nat} {pos : Pos}
theorem s_try {W : WX} {i : Nat} {n p : Str} {kn over : List Str} {isa : Str → Str → Bool} {body suite : List Stmt} {b₀ : Stmt} {np pos' : Pos} {g : SF} {h : Exc → Option D} (hs : X.stack = X.env :: X.outer) (hf : X.env.frame = some X.env.locals) (hN : X.N.Nodup) (T : ErrT X.K X.mg kn isa over) (hp : p ∈ over) (tk : Takes X W)
    (hb : ∀ (W' : WX) (pn : List (Addr × Obj)) (xe : Value → Shared → Prop), Takes (X.tr pn xe) W' → PassesOwn (model X.prog X.w) X.A X.env xe → B_ (X.tr pn xe) (some W') P body g)
    (hh : HB X i (b₀ :: suite) h) (hP : i ∉ P := by decide) (hi : X.N[i]? = some n := by rfl) (hln : X.env.kindOf n = some .local := by rfl) (hg : Gl X p := by rfl) (hd : (p == ("__debug__" : Str)) = false := by decide) :
    S_ X (some W) P (.Try body [.ExceptHandler (some (.Name p np)) (some n) (b₀ :: suite) pos'] [] [] pos) (gTry i kn isa p g h) := by
  obtain ⟨Cp, gp⟩ := T.g p hp
  refine ⟨_, ps_try_as (c := .ref Cp) (i := i) (Wout := W) (tb := fun W' Z σ H => ∃ (G : Hp) (δ : Env), Sta X.K X.mg G H σ δ ∧ SPst X.K X.mg (some W') P G H σ δ (g δ) Z)
    (ts := fun a cls d Z σ H => ∃ (G : Hp) (x : Exc) (z : D), Hc X.K X.mg i a cls d G H σ x ∧ h x = some z ∧ ∀ (v : V) (G' H' : Hp), Gro G H G' H' → Same G' H' → Rp X.K X.mg G' v z → Z.rt v H') hs hf hN hi hln ⟨hg, hd, .inl gp⟩ tk
    (fun W' pn xe t1 t2 => ?_) (fun a oe cls d pn hz hfl => ?_), ?_⟩
  · obtain ⟨t, pt, qt⟩ := hb W' pn xe t1 t2
    exact ⟨fun pins s σ H Z I ⟨G, δ, S, q⟩ => pt.run pins s σ H Z I (qt G H σ δ S Z q)⟩
  · obtain ⟨t, pt, qt⟩ := hh a oe cls d pn hz hfl
    exact ⟨fun pins s σ H Z I ⟨G, x, z, hc, e, k⟩ => pt.run pins s σ H Z I (qt G H σ x z hc e Z k)⟩
  · intro G H σ δ S Z q
    refine ⟨G, δ, S, ?_⟩
    unfold gTry at q
    cases e : g δ with
    | ex x δ' =>
      simp only [e] at q
      by_cases hk2 : x.cls ∈ kn ∧ i < δ'.length
      · rw [if_pos hk2] at q
        obtain ⟨hk, hli⟩ := hk2
        intro σ' C dd fvs G' H' b1 b2 b3 gr st kp
        obtain ⟨C2, c1, c2, c3⟩ := T.o _ hk p hp C b1
        have := c1.symm.trans gp
        cases this
        refine ⟨isa x.cls p, c3, fun hy a na => ?_, fun hn => ?_⟩
        · rw [if_pos hy] at q
          cases e2 : h x with
          | none => rw [e2] at q; exact q.elim
          | some z =>
            rw [e2] at q
            obtain ⟨y1, y2⟩ := st.setUn (i := i) (v := some (.ref a))
            have hl : i < σ'.length := by rw [st.len]; exact hli
            refine ⟨G', x, z, ⟨List.getElem?_set_self hl, st.gh, C, dd, fvs, b1, rfl, rfl, b2, b3⟩, e2, fun v G2 H2 g2 s2 r => ?_⟩
            refine q v (σ'.set i (some (.ref a))) G2 H2 ((gr.trans y1).trans (g2.any fun _ q => q)) (y2.gro g2 s2) (fun j hj => ?_) r
            rw [set_other fun z => hP (by rw [← z]; exact hj)]
            exact kp j hj
        · rw [if_neg (by rw [hn]; exact Bool.false_ne_true)] at q
          exact q σ' C dd fvs G' H' b1 b2 b3 gr st kp
      · rw [if_neg hk2] at q; exact q.elim
    | _ => simp only [e] at q; exact q
end
end VL
/-! What the top has written, told to the layer; the head. -/
namespace VL
open PySem PySem.Spec PyProof.Rows L2
section
variable {K : PySem.W.Frag} {mg : Str → Option Value} {h : Heap}
theorem defk {x : Str} {st : Stmt} {f : Addr} {oc : Value} {od an : Option Addr} {osl : Array (Option Value)} {kV doc pm cdv ct : Value} (X : K.In h) (G : h.Ns mainGlobals mg) (a : PySem.W.nsIn K mainGlobals x = some (some (.ref f)))
    (l : K.lookup f = some ⟨oc, od, .func (PySem.W.fnOf x x (defArgs st) (defBody st) (defScope st) .none kV doc pm an cdv ct), osl⟩) (c : PySem.W.codeIn K cdv x = true) (k : PySem.W.keepIn K (.ref f) = true) : Def K mg x st :=
  ⟨f, _, fun_mk l c k, PySem.W.mg_of X G a⟩
theorem errq {cn : Str} {C : Addr} (X : K.In h) (G : h.Ns mainGlobals mg) (aC : PySem.W.nsIn K mainGlobals cn = some (some (.ref C))) (cl : PySem.W.isClsIn K C = true)
    (ga : PySem.W.findIn K (.ref C) "__getattribute__" = some (some (.builtin "BaseException.__getattribute__"))) (gg : PySem.W.findIn K (.ref C) "__getattr__" = some none) (su : PySem.W.subIn K (.ref C) (.type "BaseException") = some true) (hd : PySem.W.hasDictIn K C = true)
    (ac : PySem.W.findIn K (.ref C) "__class__" = some (some (.builtin "object.__class__"))) (sp : PySem.W.specialIn K (.builtin "object.__class__") "__get__" = some (some (.builtin "getset_descriptor.__get__"))) (tk : PySem.W.takesIn K (.builtin "object.__class__") = some true)
    (mo : PySem.W.mroIn K C (.type "object") = some true) (nw : PySem.W.findIn K (.ref C) "what" = some none) : ErrQ K mg cn C := ⟨PySem.W.mg_of X G aC, cl, ga, gg, su, hd, ac, sp, tk, mo, nw⟩
theorem errc {cn : Str} {C fI cda cc : Addr} {nm q : Str} {N : Addr} {bs bm : List Value} {sn : List Str} {sub : List Value} {ab : Bool} {col : Option Bool} {dd : Option Addr} {m0 m1 m2 m3 m5 : Option Value} {od an o2 c2 : Option Addr} {osl o3 c3 : Array (Option Value)} {oc doc pm ct o1 c1 : Value} {vs : Array Value} {tf : Tok}
    {qual : Str} {a b c d e f g i j k l m : Pos} (X : K.In h) (G : h.Ns mainGlobals mg) (Q : ErrQ K mg cn C) (xL : K.lookup C = some (excClassObj nm q C N bs bm true sn sub ab col dd m0 m1 m2 m3 m5 "ValueError.__new__")) (bv : PySem.HandSPX.refsVE bm = true)
    (sa : PySem.W.findIn K (.ref C) "__setattr__" = some (some (.builtin "object.__setattr__"))) (ini : PySem.W.findIn K (.ref C) "__init__" = some (some (.ref fI))) (tyI : PySem.W.typeIn K (.ref fI) = some (.type "function")) (kp : PySem.W.keepIn K (.ref C) = true)
    (exV : PySem.W.subIn K (.ref C) (.type "ValueError") = some true) (own : PySem.W.mroIn K C (.ref C) = some true) (ty : PySem.W.typeIn K (.ref C) = some (.type "type")) (up : PySem.W.ks_superIn K C C "__init__" = some (some (.builtin "ValueError.__init__")))
    (tp : PySem.W.nsIn K cStatics "thirdparty.any" = some none) (sup0 : PySem.W.nsIn K mainGlobals "super" = some none)
    (lI : K.lookup fI = some ⟨oc, od, .func (VE.errFn qual a b c d e f g i j k l m doc pm an (.ref cda) ct cc), osl⟩) (cI : PySem.W.codeIn K (.ref cda) qual = true) (ur : VE.UpReads c d e f g)
    (lc : K.lookup cda = some ⟨o1, o2, .fields vs, o3⟩) (lf : vs[2]? = some (.str "/claim/cut.py" tf)) (lx : K.lookup cc = some ⟨c1, c2, .cell (some (.ref C)), c3⟩) : ErrOf K mg cn :=
  ⟨C, fI, Q.gC, { cls := ⟨nm, q, N, bs, bm, sn, sub, ab, col, dd, m0, m1, m2, m3, m5, xL, bv⟩, sa := sa, ga := Q.ga, gg := Q.gg, noW := Q.nw, ini := ini, tyI := tyI, kpC := kp, exB := Q.su, exV := exV, own := own, tyC := ty, hdC := Q.hd, up := up, tp := tp, sup := PySem.W.mg_none_of X G sup0, fn := ⟨_, _, _, _, _, _, _, _, _, _, _, _, _, _, _, _, _, _, _, _, _, _, lI, cI, ur, ⟨_, _, _, _, _, lc, lf⟩, ⟨_, _, _, lx⟩⟩ }⟩
def PairOk (K : PySem.W.Frag) (mg : Str → Option Value) (isa : Str → Str → Bool) (c p : Str) : Prop := ∃ C C' : Addr, mg c = some (.ref C) ∧ mg p = some (.ref C') ∧ PySem.W.kitOne K (.ref C) (.ref C') = some (isa c p) ∧ PySem.W.exmOne K (.ref C) (.ref C') = some (isa c p)
theorem pairok {isa : Str → Str → Bool} {c p : Str} {C C' : Addr} {b : Bool} (X : K.In h) (G : h.Ns mainGlobals mg) (a1 : PySem.W.nsIn K mainGlobals c = some (some (.ref C))) (a2 : PySem.W.nsIn K mainGlobals p = some (some (.ref C')))
    (h1 : PySem.W.subIn K (.ref C') (.type "BaseException") = some true) (hd : PySem.W.hasDictIn K C' = true) (ht : PySem.W.typeIn K (.ref C') = some (.type "type")) (hs : PySem.W.subIn K (.ref C) (.ref C') = some b) (hb : (C != C' || b) = true) (e : b = isa c p) : PairOk K mg isa c p := by
  subst e
  refine ⟨C, C', PySem.W.mg_of X G a1, PySem.W.mg_of X G a2, ?_, PySem.W.exm_ref h1 hd ht hs⟩
  unfold PySem.W.kitOne
  by_cases hc : C = C'
  · subst hc
    have q : (Value.ref C == Value.ref C) = true := by simp
    rw [if_pos q]
    rw [show (C != C) = false by simp, Bool.false_or] at hb
    rw [hb]
  · have q : ¬ (Value.ref C == Value.ref C') = true := fun z => hc (Value.ref.inj (beq_iff_eq.mp z))
    rw [if_neg q]
    obtain ⟨cd, hcd, _⟩ := PySem.W.any_some hd
    unfold PySem.W.kitCls
    dsimp only
    rw [hcd, ht]
    exact (if_pos rfl).trans hs
theorem errt {kn over : List Str} {isa : Str → Str → Bool} (hq : ∀ c ∈ kn, ∃ C, ErrQ K mg c C) (hg : ∀ p ∈ over, ∃ C', mg p = some (.ref C')) (ho : ∀ c ∈ kn, ∀ p ∈ over, PairOk K mg isa c p) : ErrT K mg kn isa over :=
  ⟨hq, hg, fun cn hc p hp C hC => by
    obtain ⟨D, C', a, b, c, d⟩ := ho cn hc p hp
    have e := a.symm.trans hC
    cases e
    exact ⟨C', b, c, d⟩⟩
theorem mgex {c : Str} {C : Addr} (X : K.In h) (G : h.Ns mainGlobals mg) (a : PySem.W.nsIn K mainGlobals c = some (some (.ref C))) : ∃ C, mg c = some (.ref C) := ⟨C, PySem.W.mg_of X G a⟩
theorem all_nil {α : Type} {p : α → Prop} : ∀ x ∈ ([] : List α), p x := fun _ z => nomatch z
theorem all_cons {α : Type} {p : α → Prop} {a : α} {l : List α} (h : p a) (t : ∀ x ∈ l, p x) : ∀ x ∈ a :: l, p x := fun x hx => by
  rcases List.mem_cons.mp hx with rfl | hx
  · exact h
  · exact t x hx
end
section
variable {X : Cx} {P : List Nat} {pos p pos2 : Pos}
/-- a raise where none is spoken of -/
theorem s_raise0 {cn : Str} {e : Expr} {m : M D} : S_ X none P (.Raise (some e) none pos2) (gRaise cn m) := ⟨_, ps_never, fun G H σ δ S Z h => by
  unfold gRaise at h
  cases e : m δ with
  | un => simp only [e] at h; exact h
  | ex x δ' => simp only [e] at h; exact h
  | ok d δ' => simp only [e] at h; exact h⟩
end
theorem Ev.x0 {K : PySem.W.Frag} {mg : Str → Option Value} {P : List Nat} {α β : Type} {RR : RRel β α} {t : L2.St → Hp → (β → Hp → Prop) → Prop} {f g : M α} (h : Ev K mg RR none P t f) (e : ∀ δ, f δ = g δ ∨ ∃ x δ', g δ = .ex x δ') : Ev K mg RR none P t g := by
  intro G H σ δ S Q q
  refine h G H σ δ S Q ?_
  rcases e δ with e | ⟨x, δ', e⟩
  · rw [e]; exact q
  · rw [e] at q; exact q.elim
theorem cal_x {n : Nat} {ff : FF} {cs : Env} : cal n ff cs = calX n ff cs ∨ ∃ x δ', calX n ff cs = .ex x δ' := by
  unfold cal calX nox
  by_cases hl : cs.length = n
  · rw [if_pos hl, if_pos hl]
    cases ff cs with
    | ok d c => exact .inl rfl
    | ex x c => exact .inr ⟨x, c, rfl⟩
    | un => exact .inl rfl
  · rw [if_neg hl, if_neg hl]; exact .inl rfl
section
variable {X : Cx} {P : List Nat} {pos p : Pos} {x : Str}
theorem e_callH0 {k n : Nat} {ps : List Str} {ff : FF} {e : Expr} {es : List Expr} {m : M (List Arg)} (h : Has X.prog X.w X.K X.mg X.base x k n ps ff) (hr : Room k X.A) (ha : A_ X none P (e :: es) m) (hg : Gl X x := by rfl)
    (hdb : (x == ("__debug__" : Str)) = false := by decide) (he : starEach (e :: es) X.env = (false, eval e X.env) :: starEach es X.env := by rfl) (hpl : (backTo pos (starEach es X.env)).any (·.1) = false := by rfl) :
    E_ X none P (.Call (.Name x p) (e :: es) [] pos) (eCall (calX n ff) m) := by
  obtain ⟨t, pt, q⟩ := e_callH (W := none) h hr ha hg hdb he hpl
  refine ⟨t, pt, q.x0 fun δ => ?_⟩
  unfold eCall
  cases em : m δ with
  | un => exact .inl ((M.bind_un em).trans (M.bind_un em).symm)
  | ex x δ' => exact .inl ((M.bind_ex em).trans (M.bind_ex em).symm)
  | ok as δ' =>
    rw [M.bind_ok em, M.bind_ok em]
    unfold callM
    by_cases nd : (argSlots as).Nodup
    · rw [if_pos nd, if_pos nd]
      cases ea : argCells δ' as with
      | none => exact .inl rfl
      | some cs =>
        dsimp only
        rcases cal_x (n := n) (ff := ff) (cs := cs) with e | ⟨x, c, e⟩
        · rw [e]; exact .inl rfl
        · rw [e]; exact .inr ⟨_, _, rfl⟩
    · rw [if_neg nd, if_neg nd]; exact .inl rfl
theorem takes00 {X : Cx} : Takes X (fun _ _ _ _ => False) := fun u s' ⟨_, _, _, _, _, _, _, _, _, _, _, _, _, _, _, _, h⟩ => h.elim
theorem S_.calm {W : WX} {st : Stmt} {g : SF} (h : S_ X (some W) P st g) : S_ X none P st g := by
  obtain ⟨t, pt, q⟩ := h
  refine ⟨t, pt, fun G H σ δ S Z h => q G H σ δ S Z ?_⟩
  cases e : g δ with
  | ex x δ' => rw [e] at h; exact h.elim
  | _ => rw [e] at h; exact h
end
/-- as many turns as the number in a slot says -/
def fuelI (i : Nat) : Env → Nat := fun δ => match δ[i]? with
  | some (.im (.int n)) => n.natAbs + 1
  | _ => 0
theorem head_law {l : PySem.W.OpenLaw} {q : Program} {loose : List Str} {XP : (Str → Option Value) → Heap → Prop} {YP : World → Heap → Prop} {d : DefRec} {K : Params → PySem.W.Frag} {k : Nat} (hn : l.most = some 63) (hdf : d.params.defaults = [])
    (hY : ∀ (w : World) (h : Heap), YP w h → (K w.params).In h) (hk : Room k callerA)
    (F : ∀ (w : World) (mg : Str → Option Value) (fa : Addr) (h : Heap), (K w.params).In h → h.Ns mainGlobals mg → mg d.name = some (.ref fa) →
      ∃ fd : FuncData, (∀ (s : Shared) (u : Value), BindsTo s fd ⟨[u], []⟩ [("script", u)]) ∧ ∀ base : Heap, (K w.params).In base → base.Ns mainGlobals mg → FnOk l.prog w (K w.params) mg base CX0 k fa fd ["script"] (spTrue (K w.params))) :
    PySem.W.WalkO q loose XP YP l.row.toRowW d [] (fun f vs => PySem.call f vs) :=
  L2.walk_of (n := 63) (k := k) (x := "script") (CX := fun _ => CX0) (sp := fun w => spTrue (K w.params)) hn (Nat.le_of_lt (by decide)) hdf hk hY F (fun _ _ a ns hl _ hS => ⟨a, ns, rfl, hS, hl, fun _ => rfl⟩) fun _ _ _ _ _ z => z
end VL
/-! Plain evaluation of mirrors. -/
namespace VL
open PySem
section
variable {α β : Type} {δ δ' : Env}
@[simp] theorem p_ret {a : α} : (M.ret a : M α) δ = .ok a δ := rfl
@[simp] theorem p_bind {m : M α} {f : α → M β} : M.bind m f δ = match m δ with | .ok a δ' => f a δ' | .ex x δ' => .ex x δ' | .un => .un := rfl
@[simp] theorem p_lift {a : α} : lift (some a) δ = .ok a δ := rfl
@[simp] theorem p_seq {g h : SF} : gSeq g h δ = match g δ with | .nx δ' => h δ' | .rt d δ' => .rt d δ' | .rn d δ' => .rn d δ' | .bk δ' => .bk δ' | .ct δ' => .ct δ' | .ex x δ' => .ex x δ' | .un => .un := rfl
@[simp] theorem p_next : gNext δ = .nx δ := rfl
@[simp] theorem p_of {m : M α} {k : α → SF} : gOf m k δ = match m δ with | .ok a δ' => k a δ' | .ex x δ' => .ex x δ' | .un => .un := rfl
@[simp] theorem p_set {i : Nat} {m : M D} : gSet i m δ = match m δ with | .ok d δ' => .nx (δ'.set i (.im d)) | .ex x δ' => .ex x δ' | .un => .un := by
  unfold gSet gOf
  rcases m δ with ⟨d, δ1⟩ | ⟨x, δ1⟩ | _ <;> rfl
@[simp] theorem p_setM {i : Nat} {m : M (List D)} : gSetM i m δ = match m δ with | .ok d δ' => .nx (δ'.set i (.ml d)) | .ex x δ' => .ex x δ' | .un => .un := by
  unfold gSetM gOf
  rcases m δ with ⟨d, δ1⟩ | ⟨x, δ1⟩ | _ <;> rfl
@[simp] theorem p_gret {m : M D} : gRet m δ = match m δ with | .ok d δ' => .rt d δ' | .ex x δ' => .ex x δ' | .un => .un := by
  unfold gRet gOf
  rcases m δ with ⟨d, δ1⟩ | ⟨x, δ1⟩ | _ <;> rfl
@[simp] theorem p_gexpr {m : M D} : gExpr m δ = match m δ with | .ok d δ' => .nx δ' | .ex x δ' => .ex x δ' | .un => .un := by
  unfold gExpr gOf
  rcases m δ with ⟨d, δ1⟩ | ⟨x, δ1⟩ | _ <;> rfl
@[simp] theorem p_if {t : M Bool} {g h : SF} : gIf t g h δ = match t δ with | .ok b δ' => (if b = true then g else h) δ' | .ex x δ' => .ex x δ' | .un => .un := by
  unfold gIf gOf
  rcases t δ with ⟨d, δ1⟩ | ⟨x, δ1⟩ | _ <;> rfl
@[simp] theorem p_ite {c : Prop} [Decidable c] {g h : Env → β} : (if c then g else h) δ = if c then g δ else h δ := by split <;> rfl
@[simp] theorem p_par {i j : Nat} {a b : M D} : gPar i j a b δ = match a δ with | .ok d δ1 => (match b δ1 with | .ok e δ2 => .nx ((δ2.set i (.im d)).set j (.im e)) | .ex x δ' => .ex x δ' | .un => .un) | .ex x δ' => .ex x δ' | .un => .un := by
  unfold gPar gOf
  rcases a δ with ⟨d, δ1⟩ | ⟨x, δ1⟩ | _
  · dsimp only
    rcases b δ1 with ⟨e, δ2⟩ | ⟨x, δ2⟩ | _ <;> rfl
  · rfl
  · rfl
@[simp] theorem p_brk : gBreak δ = .bk δ := rfl
@[simp] theorem p_cont : gCont δ = .ct δ := rfl
@[simp] theorem p_c {d : D} : eC d δ = .ok d δ := rfl
@[simp] theorem p_e1 {op : D → Option D} {a : M D} : e1 op a δ = match a δ with | .ok d δ' => lift (op d) δ' | .ex x δ' => .ex x δ' | .un => .un := by
  unfold e1 M.bind
  rcases a δ with ⟨d, δ1⟩ | ⟨x, δ1⟩ | _ <;> rfl
@[simp] theorem p_e2 {op : D → D → Option D} {a b : M D} : e2 op a b δ = match a δ with | .ok d δ1 => (match b δ1 with | .ok e δ2 => lift (op d e) δ2 | .ex x δ' => .ex x δ' | .un => .un) | .ex x δ' => .ex x δ' | .un => .un := by
  unfold e2 M.bind
  rcases a δ with ⟨d, δ1⟩ | ⟨x, δ1⟩ | _
  · dsimp only
    rcases b δ1 with ⟨e, δ2⟩ | ⟨x, δ2⟩ | _ <;> rfl
  · rfl
  · rfl
@[simp] theorem p_tup {m : M (List D)} : eTup m δ = match m δ with | .ok d δ' => lift (mkTup d) δ' | .ex x δ' => .ex x δ' | .un => .un := by
  unfold eTup M.bind
  rcases m δ with ⟨d, δ1⟩ | ⟨x, δ1⟩ | _ <;> rfl
@[simp] theorem p_lst {m : M (List D)} : nLst m δ = match m δ with | .ok d δ' => lift (mkLst d) δ' | .ex x δ' => .ex x δ' | .un => .un := by
  unfold nLst M.bind
  rcases m δ with ⟨d, δ1⟩ | ⟨x, δ1⟩ | _ <;> rfl
@[simp] theorem p_asL {m : M (List D)} : asL m δ = match m δ with | .ok d δ' => .ok (.lst d) δ' | .ex x δ' => .ex x δ' | .un => .un := by
  unfold asL M.bind
  rcases m δ with ⟨d, δ1⟩ | ⟨x, δ1⟩ | _ <;> rfl
@[simp] theorem p_asNil : asNil δ = .ok [] δ := rfl
@[simp] theorem p_aNil : aNil δ = .ok [] δ := rfl
@[simp] theorem p_asCons {a : M D} {b : M (List D)} : asCons a b δ = match a δ with | .ok d δ1 => (match b δ1 with | .ok e δ2 => .ok (d :: e) δ2 | .ex x δ' => .ex x δ' | .un => .un) | .ex x δ' => .ex x δ' | .un => .un := by
  unfold asCons M.bind
  rcases a δ with ⟨d, δ1⟩ | ⟨x, δ1⟩ | _
  · dsimp only
    rcases b δ1 with ⟨e, δ2⟩ | ⟨x, δ2⟩ | _ <;> rfl
  · rfl
  · rfl
@[simp] theorem p_aCons {a : M D} {b : M (List Arg)} : aCons a b δ = match a δ with | .ok d δ1 => (match b δ1 with | .ok e δ2 => .ok (.inl d :: e) δ2 | .ex x δ' => .ex x δ' | .un => .un) | .ex x δ' => .ex x δ' | .un => .un := by
  unfold aCons M.bind
  rcases a δ with ⟨d, δ1⟩ | ⟨x, δ1⟩ | _
  · dsimp only
    rcases b δ1 with ⟨e, δ2⟩ | ⟨x, δ2⟩ | _ <;> rfl
  · rfl
  · rfl
@[simp] theorem p_tval {m : M D} : tVal m δ = match m δ with | .ok d δ' => lift (asB d) δ' | .ex x δ' => .ex x δ' | .un => .un := by
  unfold tVal M.bind
  rcases m δ with ⟨d, δ1⟩ | ⟨x, δ1⟩ | _ <;> rfl
@[simp] theorem p_ttru {m : M D} : tTru m δ = match m δ with | .ok d δ' => lift (truD d) δ' | .ex x δ' => .ex x δ' | .un => .un := by
  unfold tTru M.bind
  rcases m δ with ⟨d, δ1⟩ | ⟨x, δ1⟩ | _ <;> rfl
@[simp] theorem p_asB {b : Bool} : asB (.bl b) = some b := rfl
@[simp] theorem p_and {a b : M Bool} : mAnd a b δ = match a δ with | .ok c δ' => (if c = true then b δ' else .ok false δ') | .ex x δ' => .ex x δ' | .un => .un := by unfold mAnd M.bind; cases a δ <;> simp
@[simp] theorem p_or {a b : M Bool} : mOr a b δ = match a δ with | .ok c δ' => (if c = true then .ok true δ' else b δ') | .ex x δ' => .ex x δ' | .un => .un := by unfold mOr M.bind; cases a δ <;> simp
@[simp] theorem p_not {a : M Bool} : mNot a δ = match a δ with | .ok c δ' => .ok (!c) δ' | .ex x δ' => .ex x δ' | .un => .un := by
  unfold mNot M.bind
  rcases a δ with ⟨d, δ1⟩ | ⟨x, δ1⟩ | _ <;> rfl
@[simp] theorem p_mif {t : M Bool} {a b : M α} : mIf t a b δ = match t δ with | .ok c δ' => (if c = true then a δ' else b δ') | .ex x δ' => .ex x δ' | .un => .un := by unfold mIf M.bind; cases t δ <;> simp
@[simp] theorem p_eand {a b : M D} : eAnd a b δ = mIf (tVal a) b (eC (.bl false)) δ := rfl
@[simp] theorem p_eor {a b : M D} : eOr a b δ = mIf (tVal a) (eC (.bl true)) b δ := rfl
@[simp] theorem p_iseq {m : M D} : iSeq m δ = match m δ with | .ok d δ' => lift (asSeq d) δ' | .ex x δ' => .ex x δ' | .un => .un := by
  unfold iSeq M.bind
  rcases m δ with ⟨d, δ1⟩ | ⟨x, δ1⟩ | _ <;> rfl
@[simp] theorem p_rng1 {m : M D} : iRange1 m δ = match m δ with | .ok d δ' => lift (rng1 d) δ' | .ex x δ' => .ex x δ' | .un => .un := by
  unfold iRange1 M.bind
  rcases m δ with ⟨d, δ1⟩ | ⟨x, δ1⟩ | _ <;> rfl
@[simp] theorem p_rng2 {a b : M D} : iRange2 a b δ = match a δ with | .ok d δ1 => (match b δ1 with | .ok e δ2 => lift (rng2 d e) δ2 | .ex x δ' => .ex x δ' | .un => .un) | .ex x δ' => .ex x δ' | .un => .un := by
  unfold iRange2 M.bind
  rcases a δ with ⟨d, δ1⟩ | ⟨x, δ1⟩ | _
  · dsimp only
    rcases b δ1 with ⟨e, δ2⟩ | ⟨x, δ2⟩ | _ <;> rfl
  · rfl
  · rfl
@[simp] theorem p_var {i : Nat} : eVar i δ = match δ[i]? with
  | some (.im d) => .ok d δ
  | some (.ml xs) => .ok (.lst xs) (δ.set i (.im (.lst xs)))
  | some (.mi c fs) => .ok (.ins c fs) (δ.set i (.im (.ins c fs)))
  | _ => .un := rfl
/-! operators -/
@[simp] theorem p_abs {i : Int} : dAbs (.int i) = some (.int i.natAbs) := by
  unfold dAbs
  dsimp only
  congr 2
  split <;> omega
@[simp] theorem p_int {i : Int} : dInt (.int i) = some (.int i) := rfl
@[simp] theorem p_intb {b : Bool} : dInt (.bl b) = some (.int (if b then 1 else 0)) := rfl
@[simp] theorem p_neg {i : Int} : dNeg (.int i) = some (.int (-i)) := rfl
@[simp] theorem p_rel {p : Int → Int → Bool} {i j : Int} : dRel p (.int i) (.int j) = some (.bl (p i j)) := rfl
@[simp] theorem p_add {i j : Int} : dAdd (.int i) (.int j) = some (.int (i + j)) := rfl
@[simp] theorem p_sub {i j : Int} : dSub (.int i) (.int j) = some (.int (i - j)) := rfl
@[simp] theorem p_subb {i j : Bool} : dSub (.bl i) (.bl j) = some (.int ((if i then 1 else 0) - (if j then 1 else 0))) := by cases i <;> cases j <;> rfl
theorem p_mul {i j : Int} (h : bits i + bits j < 1000000) : dMul (.int i) (.int j) = some (.int (i * j)) := if_pos h
theorem p_div {i j : Int} (h0 : j ≠ 0) (h : bits j < 9000) : dDiv (.int i) (.int j) = some (.int (i.fdiv j)) := if_pos ⟨h0, h⟩
theorem p_mod {i j : Int} (h0 : j ≠ 0) : dMod (.int i) (.int j) = some (.int (i.fmod j)) := if_pos h0
@[simp] theorem p_max {i j : Int} : dMax (.int i) (.int j) = some (.int (max i j)) := by
  unfold dMax
  dsimp only
  congr 2
  split <;> omega
@[simp] theorem p_min {i j : Int} : dMin (.int i) (.int j) = some (.int (min i j)) := by
  unfold dMin
  dsimp only
  congr 2
  split <;> omega
@[simp] theorem p_eqv_int {i j : Int} : D.eqv (.int i) (.int j) = decide (i = j) := by
  unfold D.eqv D.py
  simp only [PyData.eqv]
  by_cases h : i = j <;> simp [h]
@[simp] theorem p_eq {i j : Int} : dEq (.int i) (.int j) = some (.bl (decide (i = j))) := by
  unfold dEq
  rw [if_pos ⟨rfl, rfl⟩, p_eqv_int]
@[simp] theorem p_ne {i j : Int} : dNe (.int i) (.int j) = some (.bl (!decide (i = j))) := by
  unfold dNe
  rw [if_pos ⟨rfl, rfl⟩, p_eqv_int]
@[simp] theorem p_mkTup2 {a b : D} : mkTup [a, b] = some (.tup [a, b]) := if_pos (Nat.le_of_lt (by show 2 < _; decide))
@[simp] theorem p_mkLst0 : mkLst [] = some [] := if_pos (by decide)
@[simp] theorem p_mkLst1 {a : D} : mkLst [a] = some [a] := if_pos (Nat.le_of_lt (by show 1 < _; decide))
@[simp] theorem p_mkLst2 {a b : D} : mkLst [a, b] = some [a, b] := if_pos (Nat.le_of_lt (by show 2 < _; decide))
@[simp] theorem p_mkLst3 {a b c : D} : mkLst [a, b, c] = some [a, b, c] := if_pos (Nat.le_of_lt (by show 3 < _; decide))
@[simp] theorem p_ix0t {x : D} {xs : List D} : dIx (.tup (x :: xs)) (.int 0) = some x := by
  unfold dIx L2.atI L2.ixN
  simp
@[simp] theorem p_ix1t {x y : D} {xs : List D} : dIx (.tup (x :: y :: xs)) (.int 1) = some y := by
  unfold dIx L2.atI L2.ixN
  simp
  rw [if_pos (by omega)]
  rfl
/-! bits -/
theorem bits_le {i : Int} {k : Nat} (h : i.natAbs < 2 ^ k) : bits i < k + 1 := by
  unfold bits
  by_cases h0 : i.natAbs = 0
  · rw [h0]; simp
  · have := (Nat.log2_lt h0).mpr h
    omega
end
theorem test1 (a b : Int) : gSeq (gSet 0 (e1 dAbs (eVar 0))) (gSeq (gSet 1 (e1 dAbs (eVar 1))) (gRet (eVar 0))) [.im (.int a), .im (.int b)] = .rt (.int a.natAbs) [.im (.int a.natAbs), .im (.int b.natAbs)] := by
  simp
end VL
/-! Plain evaluation: calls, lists, loops. -/
namespace VL
open PySem
section
variable {α β : Type} {δ δ' : Env}
@[simp] theorem p_call {f : FF} {m : M (List Arg)} : eCall f m δ = match m δ with | .ok as δ' => callM f as δ' | .ex x δ' => .ex x δ' | .un => .un := by
  unfold eCall M.bind
  rcases m δ with ⟨d, δ1⟩ | ⟨x, δ1⟩ | _ <;> rfl
@[simp] theorem p_callM1 {f : FF} {a : D} : callM f [.inl a] δ = match f [.im a] with | .ok d _ => .ok d δ | .ex x _ => .ex x δ | .un => .un := by
  unfold callM
  simp only [argSlots, argCells, argCell, List.nodup_nil, if_true]
  rcases f [.im a] with ⟨d, cs⟩ | ⟨x, cs⟩ | _
  · cases cs <;> rfl
  · cases cs <;> rfl
  · rfl
@[simp] theorem p_callM2 {f : FF} {a b : D} : callM f [.inl a, .inl b] δ = match f [.im a, .im b] with | .ok d _ => .ok d δ | .ex x _ => .ex x δ | .un => .un := by
  unfold callM
  simp only [argSlots, argCells, argCell, List.nodup_nil, if_true]
  rcases f [.im a, .im b] with ⟨d, cs⟩ | ⟨x, cs⟩ | _
  · rcases cs with _ | ⟨c, _ | ⟨e, cs⟩⟩ <;> rfl
  · rcases cs with _ | ⟨c, _ | ⟨e, cs⟩⟩ <;> rfl
  · rfl
@[simp] theorem p_callM3 {f : FF} {a b c : D} : callM f [.inl a, .inl b, .inl c] δ = match f [.im a, .im b, .im c] with | .ok d _ => .ok d δ | .ex x _ => .ex x δ | .un => .un := by
  unfold callM
  simp only [argSlots, argCells, argCell, List.nodup_nil, if_true]
  rcases f [.im a, .im b, .im c] with ⟨d, cs⟩ | ⟨x, cs⟩ | _
  · rcases cs with _ | ⟨c, _ | ⟨e, _ | ⟨g, cs⟩⟩⟩ <;> rfl
  · rcases cs with _ | ⟨c, _ | ⟨e, _ | ⟨g, cs⟩⟩⟩ <;> rfl
  · rfl
def put1 (i : Nat) (cs : Env) (δ : Env) : Env := match cs with
  | c :: _ => δ.set i c
  | [] => δ
@[simp] theorem p_put1 {i : Nat} {c : Cell} {cs : Env} : put1 i (c :: cs) δ = δ.set i c := rfl
@[simp] theorem p_aMutV {i : Nat} {g : M (List Arg)} : aMutV i g δ = match δ[i]? with
  | some (.ml _) => (match g δ with | .ok as δ' => .ok (.inr i :: as) δ' | .ex x δ' => .ex x δ' | .un => .un)
  | some (.mi _ _) => (match g δ with | .ok as δ' => .ok (.inr i :: as) δ' | .ex x δ' => .ex x δ' | .un => .un)
  | _ => .un := by
  unfold aMutV aMut M.bind
  rcases δ[i]? with _ | c
  · rfl
  · cases c with
    | ml xs => dsimp only; rcases g δ with ⟨d, δ1⟩ | ⟨x, δ1⟩ | _ <;> rfl
    | mi a b => dsimp only; rcases g δ with ⟨d, δ1⟩ | ⟨x, δ1⟩ | _ <;> rfl
    | _ => rfl
theorem p_callR {f : FF} {i : Nat} {c : Cell} (h : argCell δ (.inr i) = some c) : callM f [.inr i] δ = match f [c] with | .ok d cs => .ok d (put1 i cs δ) | .ex x cs => .ex x (put1 i cs δ) | .un => .un := by
  unfold callM
  simp only [argSlots, argCells, h, List.nodup_cons, List.not_mem_nil, not_false_eq_true, List.nodup_nil, and_self, if_true]
  rcases f [c] with ⟨d, cs⟩ | ⟨x, cs⟩ | _
  · rcases cs with _ | ⟨c, cs⟩ <;> rfl
  · rcases cs with _ | ⟨c, cs⟩ <;> rfl
  · rfl
theorem p_callR1 {f : FF} {i : Nat} {c : Cell} {a : D} (h : argCell δ (.inr i) = some c) : callM f [.inr i, .inl a] δ = match f [c, .im a] with | .ok d cs => .ok d (put1 i cs δ) | .ex x cs => .ex x (put1 i cs δ) | .un => .un := by
  unfold callM
  simp only [argSlots, argCells, h, show argCell δ (.inl a) = some (.im a) from rfl, List.nodup_cons, List.not_mem_nil, not_false_eq_true, List.nodup_nil, and_self, if_true]
  rcases f [c, .im a] with ⟨d, cs⟩ | ⟨x, cs⟩ | _
  · rcases cs with _ | ⟨c, _ | ⟨e, cs⟩⟩ <;> rfl
  · rcases cs with _ | ⟨c, _ | ⟨e, cs⟩⟩ <;> rfl
  · rfl
/-! the def's frame -/
theorem p_fn {n m : Nat} {P : List Nat} {g : SF} {cs : Env} (hl : cs.length = n) : fnM n P m g cs = match g (cs ++ List.replicate m .un) with | .rt d δ' => .ok d (outs P n δ') | .nx δ' => .ok .non (outs P n δ') | .ex x δ' => .ex x (outs P n δ') | _ => .un := if_pos hl
theorem p_fn1 {m : Nat} {P : List Nat} {g : SF} {a : Cell} : fnM 1 P m g [a] = match g ([a] ++ List.replicate m .un) with | .rt d δ' => .ok d (outs P 1 δ') | .nx δ' => .ok .non (outs P 1 δ') | .ex x δ' => .ex x (outs P 1 δ') | _ => .un := p_fn rfl
theorem p_fn2 {m : Nat} {P : List Nat} {g : SF} {a b : Cell} : fnM 2 P m g [a, b] = match g ([a, b] ++ List.replicate m .un) with | .rt d δ' => .ok d (outs P 2 δ') | .nx δ' => .ok .non (outs P 2 δ') | .ex x δ' => .ex x (outs P 2 δ') | _ => .un := p_fn rfl
theorem p_fn3 {m : Nat} {P : List Nat} {g : SF} {a b c : Cell} : fnM 3 P m g [a, b, c] = match g ([a, b, c] ++ List.replicate m .un) with | .rt d δ' => .ok d (outs P 3 δ') | .nx δ' => .ok .non (outs P 3 δ') | .ex x δ' => .ex x (outs P 3 δ') | _ => .un := p_fn rfl
theorem p_fn4 {m : Nat} {P : List Nat} {g : SF} {a b c d : Cell} : fnM 4 P m g [a, b, c, d] = match g ([a, b, c, d] ++ List.replicate m .un) with | .rt d δ' => .ok d (outs P 4 δ') | .nx δ' => .ok .non (outs P 4 δ') | .ex x δ' => .ex x (outs P 4 δ') | _ => .un := p_fn rfl
theorem p_fn5 {m : Nat} {P : List Nat} {g : SF} {a b c d e : Cell} : fnM 5 P m g [a, b, c, d, e] = match g ([a, b, c, d, e] ++ List.replicate m .un) with | .rt d δ' => .ok d (outs P 5 δ') | .nx δ' => .ok .non (outs P 5 δ') | .ex x δ' => .ex x (outs P 5 δ') | _ => .un := p_fn rfl
theorem p_calX {n : Nat} {ff : FF} {cs : Env} (hl : cs.length = n) : calX n ff cs = ff cs := if_pos hl
theorem p_calx1 {ff : FF} {a : Cell} : calX 1 ff [a] = ff [a] := rfl
@[simp] theorem p_calx2 {ff : FF} {a b : Cell} : calX 2 ff [a, b] = ff [a, b] := rfl
theorem cal_ok {n : Nat} {ff : FF} {cs cs' : Env} {d : D} (h : ff cs = .ok d cs') (hl : cs.length = n) : cal n ff cs = .ok d cs' := by
  unfold cal nox; rw [if_pos hl, h]
/-! while -/
theorem while_step {t : M Bool} {b : SF} {n : Nat} {δ1 δ2 : Env} (h1 : t δ = .ok true δ1) (h2 : b δ1 = .nx δ2) : gWhileF t b (n + 1) δ = gWhileF t b n δ2 := by
  show gIf t _ gNext δ = _
  rw [p_if, h1]
  simp only [if_true, h2]
theorem while_end {t : M Bool} {b : SF} {n : Nat} {δ1 : Env} (h1 : t δ = .ok false δ1) : gWhileF t b (n + 1) δ = .nx δ1 := by
  show gIf t _ gNext δ = _
  rw [p_if, h1]
  rfl
/-! for -/
@[simp] theorem for_nil {γ : GD} {b : SF} : gForGo γ b [] δ = .nx δ := rfl
theorem for_step {γ : GD} {b : SF} {d : D} {ds : List D} {δ1 δ2 : Env} (h1 : γ d δ = some δ1) (h2 : b δ1 = .nx δ2) : gForGo γ b (d :: ds) δ = gForGo γ b ds δ2 := by
  rw [gForGo]; simp only [h1, h2]
theorem for_ret {γ : GD} {b : SF} {d r : D} {ds : List D} {δ1 δ2 : Env} (h1 : γ d δ = some δ1) (h2 : b δ1 = .rt r δ2) : gForGo γ b (d :: ds) δ = .rt r δ2 := by
  rw [gForGo]; simp only [h1, h2]
/-- a loop by an invariant: behind the items walked -/
theorem for_inv {γ : GD} {b : SF} (I : List D → Env → Prop) (hstep : ∀ (d : D) (ds : List D) (δ : Env), I (d :: ds) δ → ∃ δ1 δ2, γ d δ = some δ1 ∧ b δ1 = .nx δ2 ∧ I ds δ2) : ∀ (ds : List D) (δ : Env), I ds δ → ∃ δ', gForGo γ b ds δ = .nx δ' ∧ I [] δ'
  | [], δ, h => ⟨δ, rfl, h⟩
  | d :: ds, δ, h => by
    obtain ⟨δ1, δ2, h1, h2, h3⟩ := hstep d ds δ h
    obtain ⟨δ', h4, h5⟩ := for_inv I hstep ds δ2 h3
    exact ⟨δ', (for_step h1 h2).trans h4, h5⟩
@[simp] theorem p_for {γ : GD} {m : M (List D)} {b : SF} : gFor γ m b δ = match m δ with | .ok ds δ' => gForGo γ b ds δ' | .ex x δ' => .ex x δ' | .un => .un := by
  unfold gFor gOf
  rcases m δ with ⟨d, δ1⟩ | ⟨x, δ1⟩ | _ <;> rfl
@[simp] theorem p_tg {i : Nat} {d : D} : tgName i d δ = some (δ.set i (.im d)) := rfl
theorem p_rng {n : Nat} (h : n < 1000000) : rng1 (.int n) = some (rangeD 0 n) := by
  unfold rng1
  dsimp only
  rw [if_pos (by unfold small62; omega)]
  rfl
end
end VL
/-! Plain evaluation: comprehensions, equality of like data. -/
namespace VL
open PySem
section
variable {δ δ' : Env}
theorem comp_inv {γ : GD} {t : M Bool} {e : M D} {own : List Nat} (J : List D → List D → Env → Prop) (hstep : ∀ (acc : List D) (d : D) (ds : List D) (δ : Env), J acc (d :: ds) δ → ∃ ys δ', compTurn γ t e own d δ = .ok ys δ' ∧ J (acc ++ ys) ds δ') :
    ∀ (ds acc : List D) (δ : Env), J acc ds δ → ∃ ys δ', compGo γ t e own ds δ = .ok ys δ' ∧ J (acc ++ ys) [] δ'
  | [], acc, δ, h => ⟨[], δ, rfl, by rw [List.append_nil]; exact h⟩
  | d :: ds, acc, δ, h => by
    obtain ⟨ys, δ1, h1, h2⟩ := hstep acc d ds δ h
    obtain ⟨zs, δ2, h3, h4⟩ := comp_inv J hstep ds (acc ++ ys) δ1 h2
    refine ⟨ys ++ zs, δ2, ?_, by rw [← List.append_assoc]; exact h4⟩
    unfold compGo
    rw [M.bind_ok h1, M.bind_ok h3]
    rfl
/-- each item by itself -/
theorem comp_map {γ : GD} {t : M Bool} {e : M D} {own : List Nat} {f : D → D} {ok : D → Prop} (I : Env → Prop) (hstep : ∀ (d : D) (δ : Env), ok d → I δ → ∃ δ', compTurn γ t e own d δ = .ok [f d] δ' ∧ I δ') (ds : List D) (δ : Env) (ho : ∀ d ∈ ds, ok d) (h : I δ) :
    ∃ δ', compGo γ t e own ds δ = .ok (ds.map f) δ' ∧ I δ' := by
  obtain ⟨ys, δ', h1, ⟨h2, _⟩, h3⟩ := comp_inv (γ := γ) (t := t) (e := e) (own := own) (fun acc rest δ => (acc ++ rest.map f = ds.map f ∧ ∀ d ∈ rest, ok d) ∧ I δ) (fun acc d rest δ ⟨⟨a, ao⟩, b⟩ => by
    obtain ⟨δ', c1, c2⟩ := hstep d δ (ao d List.mem_cons_self) b
    exact ⟨[f d], δ', c1, ⟨by rw [List.append_assoc]; exact a, fun x hx => ao x (List.mem_cons_of_mem _ hx)⟩, c2⟩) ds [] δ ⟨⟨rfl, ho⟩, h⟩
  refine ⟨δ', ?_, h3⟩
  rw [h1]
  simpa using h2
theorem p_comp {own : List Nat} {γ : GD} {m : M (List D)} {t : M Bool} {e : M D} {ds ys : List D} {δ1 : Env} (h1 : m δ = .ok ds δ1) (h2 : compGo γ t e own ds δ1 = .ok ys δ') (hz : ds.length ≤ sizeLine) : nComp own γ m t e δ = .ok ys (unwipe δ1 (wipeE δ' own) own) := by
  unfold nComp
  rw [M.bind_ok h1, if_pos hz, h2]
theorem eqv_self {d : D} {n : Nat} (h : D.ok n d = true) : D.eqv d d = true := SeqAt.eqv_refl _ (D.ok_lay n d h).1
theorem p_eq_self {d : D} (h : D.ok 60 d = true) : dEq d d = some (.bl true) := by
  unfold dEq
  rw [if_pos ⟨h, h⟩, eqv_self h]
theorem D.ok_mono : ∀ (n m : Nat) (d : D), n ≤ m → D.ok n d = true → D.ok m d = true
  | n, m, .non, _, _ => by cases m <;> rfl
  | n, m, .bl _, _, _ => by cases m <;> rfl
  | n, m, .int _, _, _ => by cases m <;> rfl
  | n, m, .str s, _, h => by cases n <;> cases m <;> exact h
  | 0, m, .tup _, _, h => nomatch h
  | 0, m, .lst _, _, h => nomatch h
  | 0, m, .scr _, _, h => nomatch h
  | 0, m, .ins _ _, _, h => nomatch h
  | n + 1, m, .ins _ _, _, h => nomatch h
  | n + 1, 0, .tup _, hm, h => by omega
  | n + 1, 0, .lst _, hm, h => by omega
  | n + 1, 0, .scr _, hm, h => by omega
  | n + 1, m + 1, .tup xs, hm, h => List.all_eq_true.mpr fun x hx => D.ok_mono n m x (by omega) (List.all_eq_true.mp h x hx)
  | n + 1, m + 1, .lst xs, hm, h => List.all_eq_true.mpr fun x hx => D.ok_mono n m x (by omega) (List.all_eq_true.mp h x hx)
  | n + 1, m + 1, .scr xs, hm, h => List.all_eq_true.mpr fun x hx => D.ok_mono n m x (by omega) (List.all_eq_true.mp h x hx)
end
end VL
/-! mirrors -/
namespace K00
open PySem PySem.Spec PyProof.Rows L2 VL
abbrev Pg : Program := PySem.Challenge.pw_anypaces_k00_fractions
def topS (i : Nat) : Stmt := Pg.main.body.getD i (.Pass ⟨0, 0, 0, 0⟩)
def isaL : List (Str × Str) := [("InvalidNumber", "InvalidNumber"), ("InvalidNumber", "PaceError")]
def isaT (a b : Str) : Bool := isaL.any fun p => p.1 == a && p.2 == b
def knT : List Str := ["InvalidNumber"]
def overT : List Str := ["PaceError", "InvalidNumber"]
structure Txt (K : PySem.W.Frag) (mg : Str → Option Value) : Prop where
  d_common_divisor : Def K mg "common_divisor" (topS 4)
  d_fraction : Def K mg "fraction" (topS 5)
  d_plus : Def K mg "plus" (topS 6)
  d_minus : Def K mg "minus" (topS 7)
  d_times : Def K mg "times" (topS 8)
  d_over : Def K mg "over" (topS 9)
  d_compare : Def K mg "compare" (topS 10)
  d__law_deck : Def K mg "_law_deck" (topS 12)
  d__law_take : Def K mg "_law_take" (topS 13)
  d__law_plain : Def K mg "_law_plain" (topS 14)
  d__law_same : Def K mg "_law_same" (topS 15)
  d__law_divisor : Def K mg "_law_divisor" (topS 16)
  d__law_part : Def K mg "_law_part" (topS 17)
  d__law_plus : Def K mg "_law_plus" (topS 18)
  d__law_times : Def K mg "_law_times" (topS 19)
  d__law_minus : Def K mg "_law_minus" (topS 20)
  d__law_number : Def K mg "_law_number" (topS 21)
  d__law_refused : Def K mg "_law_refused" (topS 22)
  d_law : Def K mg "law" (topS 23)
  b_abs : mg "abs" = none
  b_bool : mg "bool" = none
  b_int : mg "int" = none
  b_isinstance : mg "isinstance" = none
  b_len : mg "len" = none
  b_list : mg "list" = none
  b_max : mg "max" = none
  b_range : mg "range" = none
  b_str : mg "str" = none
  b_tuple : mg "tuple" = none
  e_InvalidNumber : ErrOf K mg "InvalidNumber"
  errP : VE.ErrP Pg
  errT : ErrT K mg knT isaT overT
def g_common_divisor : SF :=
  (gSeq (gSet 0 (e1 dAbs (eVar 0)))
  (gSeq (gSet 1 (e1 dAbs (eVar 1)))
  (gSeq (gWhile (fuelI 1) (tVal (e2 dGt (eVar 1) (eC (.int 0)))) (gPar 0 1 (eVar 1) (e2 dMod (eVar 0) (eVar 1))))
  (gRet (eVar 0)))))
def m_common_divisor : FF := fnM 2 [] 0 g_common_divisor
def g_fraction : SF :=
  (gSeq (gIf (tVal (e2 dEq (eVar 1) (eC (.int 0)))) (gRaise "InvalidNumber" (eC (.str "zero"))) gNext)
  (gSeq (gSet 2 (eCall (cal 2 m_common_divisor) (aCons (eVar 0) (aCons (eVar 1) aNil))))
  (gSeq (gIf (tVal (e2 dLt (eVar 1) (eC (.int 0)))) (gSet 2 (e1 dNeg (eVar 2))) gNext)
  (gRet (eTup (asCons (e2 dDiv (eVar 0) (eVar 2)) (asCons (e2 dDiv (eVar 1) (eVar 2)) asNil)))))))
def m_fraction : FF := fnM 2 [] 1 g_fraction
def g_plus : SF :=
  (gRet (eCall (calX 2 m_fraction) (aCons (e2 dAdd (e2 dMul (e2 dIx (eVar 0) (eC (.int 0))) (e2 dIx (eVar 1) (eC (.int 1)))) (e2 dMul (e2 dIx (eVar 1) (eC (.int 0))) (e2 dIx (eVar 0) (eC (.int 1))))) (aCons (e2 dMul (e2 dIx (eVar 0) (eC (.int 1))) (e2 dIx (eVar 1) (eC (.int 1)))) aNil))))
def m_plus : FF := fnM 2 [] 0 g_plus
def g_minus : SF :=
  (gRet (eCall (calX 2 m_fraction) (aCons (e2 dSub (e2 dMul (e2 dIx (eVar 0) (eC (.int 0))) (e2 dIx (eVar 1) (eC (.int 1)))) (e2 dMul (e2 dIx (eVar 1) (eC (.int 0))) (e2 dIx (eVar 0) (eC (.int 1))))) (aCons (e2 dMul (e2 dIx (eVar 0) (eC (.int 1))) (e2 dIx (eVar 1) (eC (.int 1)))) aNil))))
def m_minus : FF := fnM 2 [] 0 g_minus
def g_times : SF :=
  (gRet (eCall (calX 2 m_fraction) (aCons (e2 dMul (e2 dIx (eVar 0) (eC (.int 0))) (e2 dIx (eVar 1) (eC (.int 0)))) (aCons (e2 dMul (e2 dIx (eVar 0) (eC (.int 1))) (e2 dIx (eVar 1) (eC (.int 1)))) aNil))))
def m_times : FF := fnM 2 [] 0 g_times
def g_over : SF :=
  (gRet (eCall (calX 2 m_fraction) (aCons (e2 dMul (e2 dIx (eVar 0) (eC (.int 0))) (e2 dIx (eVar 1) (eC (.int 1)))) (aCons (e2 dMul (e2 dIx (eVar 0) (eC (.int 1))) (e2 dIx (eVar 1) (eC (.int 0)))) aNil))))
def m_over : FF := fnM 2 [] 0 g_over
def g_compare : SF :=
  (gSeq (gSet 2 (e2 dSub (e2 dMul (e2 dIx (eVar 0) (eC (.int 0))) (e2 dIx (eVar 1) (eC (.int 1)))) (e2 dMul (e2 dIx (eVar 1) (eC (.int 0))) (e2 dIx (eVar 0) (eC (.int 1))))))
  (gRet (e2 dSub (e2 dGt (eVar 2) (eC (.int 0))) (e2 dLt (eVar 2) (eC (.int 0))))))
def m_compare : FF := fnM 2 [] 1 g_compare
def g__law_deck : SF :=
  (gSeq (gSetM 3 (nLst asNil))
  (gSeq (gSet 4 (e2 dAdd (eC (.int 11)) (e1 dLen (eVar 0))))
  (gSeq (gFor (tgName 5) (iRange1 (eVar 1)) (gSeq (gSet 6 (eC (.int 0)))
  (gSeq (gIf (tVal (e2 dLt (eVar 5) (e1 dLen (eVar 0)))) (gSet 6 (e2 dIx (eVar 0) (eVar 5))) gNext)
  (gSeq (gSet 7 (e1 dAbs (eVar 6)))
  (gIf (tVal (e2 dGe (eVar 7) (e2 dPow (eC (.int 10)) (eC (.int 30))))) (gFor (tgName 8) (iRange1 (eVar 2)) (gSeq (gApp 3 (e2 dMod (e1 dInt (eVar 7)) (eC (.int 1000003))))
  (gSet 7 (e2 dDiv (eVar 7) (eC (.int 1000003)))))) (gSeq (gSet 4 (e2 dMod (e1 dInt (e2 dAdd (e2 dAdd (e2 dAdd (e2 dMul (eVar 4) (eC (.int 48271))) (e2 dMul (eC (.int 3)) (eVar 7))) (e1 dInt (e2 dLt (eVar 6) (eC (.int 0))))) (eVar 5))) (eC (.int 2147483647))))
  (gFor (tgName 8) (iRange1 (eVar 2)) (gSeq (gSet 4 (e2 dMod (e1 dInt (e2 dAdd (e2 dAdd (e2 dMul (eVar 4) (eC (.int 69621))) (eVar 8)) (eC (.int 1)))) (eC (.int 2147483629))))
  (gApp 3 (e2 dMod (e1 dInt (e2 dDiv (eVar 4) (eC (.int 7)))) (eC (.int 1000003))))))))))))
  (gSeq (gRev 3)
  (gRetM 3)))))
def m__law_deck : FN := fnN 3 [] 6 g__law_deck
def g__law_take : SF :=
  (gSeq (gIf (tVal (e2 dEq (eLenV 0) (eC (.int 0)))) (gRet (eC (.int 0))) gNext)
  (gRet (e2 dMod (e1 dInt (ePop 0)) (eVar 1))))
def m__law_take : FF := fnM 2 [0] 0 g__law_take
def g__law_plain (rec : FF) : SF :=
  (gSeq (gIf (tTru (e1 (dIsi ["tuple", "list"]) (eVar 0))) (gRet (e2 dAdd (asL (nLst (asCons (e1 (dIsi ["list"]) (eVar 0)) asNil))) (asL (nComp [1] (tgName 1) (iSeq (eVar 0)) (M.ret true) (eCall (cal 1 rec) (aCons (eVar 1) aNil)))))) gNext)
  (gSeq (gIf (mOr (tVal (e2 dIsN (eVar 0) (eC .non))) (tTru (e1 (dIsi ["bool"]) (eVar 0)))) (gRet (e2 dIx (asL (nLst (asCons (eC (.str "None")) (asCons (eC (.str "False")) (asCons (eC (.str "True")) asNil))))) (e2 dAdd (e1 dInt (e2 dNotN (eVar 0) (eC .non))) (e1 dInt (e2 dIsB (eVar 0) (eC (.bl true))))))) gNext)
  (gSeq (gIf (tTru (e1 (dIsi ["int", "str"]) (eVar 0))) (gRet (asL (nLst (asCons (e1 (dIsi ["str"]) (eVar 0)) (asCons (eVar 0) asNil))))) gNext)
  (gRet (eC (.str "another"))))))
def m__law_plain : Nat → FF
  | 0 => fun _ => .un
  | k + 1 => fnM 1 [] 1 (g__law_plain (m__law_plain k))
def g__law_same : SF :=
  (gRet (e2 dEq (eCall (cal 1 (m__law_plain 20)) (aCons (eVar 0) aNil)) (eCall (cal 1 (m__law_plain 20)) (aCons (eVar 1) aNil))))
def m__law_same : FF := fnM 2 [] 0 g__law_same
def g__law_divisor : SF :=
  (gSeq (gSet 2 (e1 dAbs (eVar 0)))
  (gSeq (gSet 3 (e1 dAbs (eVar 1)))
  (gSeq (gFor (tgName 4) (iRange1 (eC (.int 400))) (gSeq (gIf (tVal (e2 dEq (eVar 3) (eC (.int 0)))) (gRet (eVar 2)) gNext)
  (gPar 2 3 (eVar 3) (e2 dMod (e1 dInt (eVar 2)) (eVar 3)))))
  (gRet (eVar 2)))))
def m__law_divisor : FF := fnM 2 [] 3 g__law_divisor
def g__law_part : SF :=
  (gSeq (gSet 2 (e2 dMax (eC (.int 1)) (eCall (cal 2 m__law_divisor) (aCons (eVar 0) (aCons (eVar 1) aNil)))))
  (gRet (eTup (asCons (e2 dDiv (eVar 0) (eVar 2)) (asCons (e2 dDiv (eVar 1) (eVar 2)) asNil)))))
def m__law_part : FF := fnM 2 [] 1 g__law_part
def g__law_plus : SF :=
  (gRet (eCall (cal 2 m__law_part) (aCons (e2 dAdd (e2 dMul (e2 dIx (eVar 0) (eC (.int 0))) (e2 dIx (eVar 1) (eC (.int 1)))) (e2 dMul (e2 dIx (eVar 1) (eC (.int 0))) (e2 dIx (eVar 0) (eC (.int 1))))) (aCons (e2 dMul (e2 dIx (eVar 0) (eC (.int 1))) (e2 dIx (eVar 1) (eC (.int 1)))) aNil))))
def m__law_plus : FF := fnM 2 [] 0 g__law_plus
def g__law_times : SF :=
  (gRet (eCall (cal 2 m__law_part) (aCons (e2 dMul (e2 dIx (eVar 0) (eC (.int 0))) (e2 dIx (eVar 1) (eC (.int 0)))) (aCons (e2 dMul (e2 dIx (eVar 0) (eC (.int 1))) (e2 dIx (eVar 1) (eC (.int 1)))) aNil))))
def m__law_times : FF := fnM 2 [] 0 g__law_times
def g__law_minus : SF :=
  (gRet (eCall (cal 2 m__law_plus) (aCons (eVar 0) (aCons (eTup (asCons (e1 dNeg (e2 dIx (eVar 1) (eC (.int 0)))) (asCons (e2 dIx (eVar 1) (eC (.int 1))) asNil))) aNil))))
def m__law_minus : FF := fnM 2 [] 0 g__law_minus
def g__law_number : SF :=
  (gSeq (gSet 1 (eCall (cal 2 m__law_take) (aMutV 0 (aCons (eC (.int 4)) aNil))))
  (gSeq (gSet 2 (e2 dSub (eCall (cal 2 m__law_take) (aMutV 0 (aCons (eC (.int 25)) aNil))) (eC (.int 12))))
  (gSeq (gIf (tVal (e2 dEq (eVar 1) (eC (.int 0)))) (gRet (eVar 2)) gNext)
  (gSeq (gIf (tVal (e2 dEq (eVar 1) (eC (.int 1)))) (gRet (e2 dAdd (e2 dMul (e2 dSub (eCall (cal 2 m__law_take) (aMutV 0 (aCons (eC (.int 1000)) aNil))) (eC (.int 500))) (e2 dPow (eC (.int 10)) (eC (.int 27)))) (eVar 2))) gNext)
  (gSeq (gIf (tVal (e2 dEq (eVar 1) (eC (.int 2)))) (gRet (mIf (tVal (e2 dLt (eVar 2) (eC (.int 0)))) (eC (.int 0)) (e2 dMul (eC (.int 12)) (eVar 2)))) gNext)
  (gRet (e2 dSub (eCall (cal 2 m__law_take) (aMutV 0 (aCons (eC (.int 1000000)) aNil))) (eC (.int 500000)))))))))
def m__law_number : FF := fnM 1 [0] 2 g__law_number
def g__law_refused : SF :=
  (gTry 2 knT isaT "PaceError" (gSeq (gIf (tVal (e2 dEq (eVar 0) (eC (.int 0)))) (gExpr (eCall (calX 2 m_fraction) (aCons (e2 dIx (eVar 1) (eC (.int 0))) (aCons (eC (.int 0)) aNil)))) (gExpr (eCall (calX 2 m_over) (aCons (eVar 1) (aCons (eTup (asCons (eC (.int 0)) (asCons (eC (.int 1)) asNil))) aNil)))))
  (gRet (eC .non))) (hIf (hIs knT isaT "InvalidNumber") (hWhat knT) (fun _ => some (.str "another"))))
def m__law_refused : FF := fnM 2 [] 1 g__law_refused
def g_law : SF :=
  (gSeq (gSetM 1 (nCall 3 m__law_deck (aCons (eVar 0) (aCons (eC (.int 50)) (aCons (eC (.int 20)) aNil)))))
  (gSeq (gSetM 2 (nLst asNil))
  (gSeq (gFor (tgName 3) (iRange1 (eC (.int 3))) (gSeq (gSet 4 (eCall (cal 1 m__law_number) (aMutV 1 aNil)))
  (gSeq (gSet 5 (eCall (cal 1 m__law_number) (aMutV 1 aNil)))
  (gSeq (gIf (tVal (e2 dEq (eVar 5) (eC (.int 0)))) (gSet 5 (e2 dAdd (eC (.int 1)) (eCall (cal 2 m__law_take) (aMutV 1 (aCons (eC (.int 9)) aNil))))) gNext)
  (gSeq (gSet 6 (mIf (tVal (e2 dGt (eVar 5) (eC (.int 0)))) (eC (.int 1)) (e1 dNeg (eC (.int 1)))))
  (gSeq (gSet 7 (eCall (cal 2 m__law_divisor) (aCons (eVar 4) (aCons (eVar 5) aNil))))
  (gSeq (gSet 8 (eTup (asCons (e2 dDiv (e2 dMul (eVar 6) (eVar 4)) (eVar 7)) (asCons (e2 dDiv (e1 dAbs (eVar 5)) (eVar 7)) asNil))))
  (gSeq (gIf (mNot (tTru (eCall (cal 2 m__law_same) (aCons (eCall (calX 2 m_fraction) (aCons (eVar 4) (aCons (eVar 5) aNil))) (aCons (eVar 8) aNil))))) (gRet (eC (.bl false))) gNext)
  (gApp 2 (eVar 8))))))))))
  (gSeq (gIf (tVal (e2 dEq (eCall (cal 2 m__law_take) (aMutV 1 (aCons (eC (.int 4)) aNil))) (eC (.int 0)))) (gSetIx 2 (eC (.int 1)) (eIxV 2 (eC (.int 0)))) gNext)
  (gSeq (gAsg (tgTup (tgCons (tgName 9) (tgCons (tgName 10) (tgCons (tgName 11) tgNil))) 3) (eVar 2))
  (gSeq (gIf (mNot (tTru (eCall (cal 2 m__law_same) (aCons (asL (nLst (asCons (eCall (calX 2 m_plus) (aCons (eVar 9) (aCons (eVar 10) aNil))) (asCons (eCall (calX 2 m_minus) (aCons (eVar 9) (aCons (eVar 10) aNil))) asNil)))) (aCons (asL (nLst (asCons (eCall (cal 2 m__law_plus) (aCons (eVar 9) (aCons (eVar 10) aNil))) (asCons (eCall (cal 2 m__law_minus) (aCons (eVar 9) (aCons (eVar 10) aNil))) asNil)))) aNil))))) (gRet (eC (.bl false))) gNext)
  (gSeq (gIf (mOr (mNot (tTru (eCall (cal 2 m__law_same) (aCons (eCall (calX 2 m_times) (aCons (eVar 9) (aCons (eVar 10) aNil))) (aCons (eCall (cal 2 m__law_times) (aCons (eVar 9) (aCons (eVar 10) aNil))) aNil))))) (mNot (tTru (eCall (cal 2 m__law_same) (aCons (eCall (calX 2 m_plus) (aCons (eCall (calX 2 m_minus) (aCons (eVar 9) (aCons (eVar 10) aNil))) (aCons (eVar 10) aNil))) (aCons (eVar 9) aNil)))))) (gRet (eC (.bl false))) gNext)
  (gSeq (gIf (tVal (e2 dNe (e2 dIx (eVar 10) (eC (.int 0))) (eC (.int 0)))) (gSeq (gSet 12 (eCall (calX 2 m_over) (aCons (eVar 9) (aCons (eVar 10) aNil))))
  (gIf (mOr (mNot (tTru (eCall (cal 2 m__law_same) (aCons (eCall (calX 2 m_times) (aCons (eVar 12) (aCons (eVar 10) aNil))) (aCons (eVar 9) aNil))))) (mNot (tTru (eCall (cal 2 m__law_same) (aCons (eVar 12) (aCons (eCall (cal 2 m__law_part) (aCons (e2 dMul (e2 dMul (e2 dIx (eVar 9) (eC (.int 0))) (e2 dIx (eVar 10) (eC (.int 1)))) (mIf (tVal (e2 dGt (e2 dIx (eVar 10) (eC (.int 0))) (eC (.int 0)))) (eC (.int 1)) (e1 dNeg (eC (.int 1))))) (aCons (e2 dMul (e1 dAbs (e2 dIx (eVar 10) (eC (.int 0)))) (e2 dIx (eVar 9) (eC (.int 1)))) aNil))) aNil)))))) (gRet (eC (.bl false))) gNext)) gNext)
  (gSeq (gSet 13 (e2 dSub (e2 dMul (e2 dIx (eVar 9) (eC (.int 0))) (e2 dIx (eVar 10) (eC (.int 1)))) (e2 dMul (e2 dIx (eVar 10) (eC (.int 0))) (e2 dIx (eVar 9) (eC (.int 1))))))
  (gSeq (gSet 8 (e2 dSub (e2 dGt (eVar 13) (eC (.int 0))) (e2 dLt (eVar 13) (eC (.int 0)))))
  (gSeq (gIf (mNot (tTru (eCall (cal 2 m__law_same) (aCons (asL (nLst (asCons (eCall (cal 2 m_compare) (aCons (eVar 9) (aCons (eVar 10) aNil))) (asCons (eCall (cal 2 m_compare) (aCons (eVar 10) (aCons (eVar 9) aNil))) (asCons (eCall (cal 2 m_compare) (aCons (eCall (calX 2 m_plus) (aCons (eVar 9) (aCons (eVar 11) aNil))) (aCons (eCall (calX 2 m_plus) (aCons (eVar 10) (aCons (eVar 11) aNil))) aNil))) asNil))))) (aCons (asL (nLst (asCons (e1 dInt (eVar 8)) (asCons (e1 dInt (e1 dNeg (eVar 8))) (asCons (e1 dInt (eVar 8)) asNil))))) aNil))))) (gRet (eC (.bl false))) gNext)
  (gRet (eAnd (e2 dEq (eCall (cal 2 m__law_refused) (aCons (eC (.int 0)) (aCons (eVar 9) aNil))) (eC (.str "zero"))) (e2 dEq (eCall (cal 2 m__law_refused) (aCons (eC (.int 1)) (aCons (eVar 9) aNil))) (eC (.str "zero"))))))))))))))))
def m_law : FF := fnM 1 [] 13 g_law
end K00
/-! derivations -/
namespace K00
open PySem PySem.Spec PyProof.Rows L2 VL
section
variable {w : World} {K : PySem.W.Frag} {mg : Str → Option Value} {base : Heap}
abbrev s_common_divisor : Stmt := topS 4
theorem sc_common_divisor : FnScope ["one", "other"] ["one", "other"] (defScope s_common_divisor) := ⟨rfl, rfl, rfl, by decide +kernel, rfl, by decide +kernel, by decide +kernel⟩
theorem ok_common_divisor (T : Txt K mg)  : Has Pg w K mg base "common_divisor" 1 2 ["one", "other"] m_common_divisor := by
  have sc := sc_common_divisor
  refine has_mk (k := 0) T.d_common_divisor sc_common_divisor rfl rfl (fun _ _ _ _ _ _ us hl => match us, hl with | [_, _], _ => rfl) fun f cdv A outer s H E hr => ?_
  exact (b_cons (s_set 0 (e_abs T.b_abs (e_var 0)) sc.nd)
  (b_cons (s_set 1 (e_abs T.b_abs (e_var 1)) sc.nd)
  (b_cons (s_while (fuelI 1) PassesOwn.never (t_cmp op_gt opd_rel (nomark _) (e_var 1) e_int) (b_one (s_par 0 1 rfl (e_var 1) (e_op op_modN opd_mod (e_var 0) (e_var 1)) sc.nd)))
  (b_one (s_ret (e_var 0))))))
abbrev s_fraction : Stmt := topS 5
theorem sc_fraction : FnScope ["above", "below", "common"] ["above", "below"] (defScope s_fraction) := ⟨rfl, rfl, rfl, by decide +kernel, rfl, by decide +kernel, by decide +kernel⟩
theorem ok_fraction (T : Txt K mg) (h_common_divisor : Has Pg w K mg base "common_divisor" 1 2 ["one", "other"] m_common_divisor) : Has Pg w K mg base "fraction" 2 2 ["above", "below"] m_fraction := by
  have sc := sc_fraction
  refine has_mk (k := 1) T.d_fraction sc_fraction rfl rfl (fun _ _ _ _ _ _ us hl => match us, hl with | [_, _], _ => rfl) fun f cdv A outer s H E hr => ?_
  exact (b_cons (s_if (t_cmp (op_eqD hr.units) opd_eq (nomark _) (e_var 1) e_int) (b_one s_raise0) b_nil)
  (b_cons (s_set 2 (e_callH h_common_divisor (hr.mono (by decide)) (a_cons (e_var 0) (a_cons (e_var 1) a_nil))) sc.nd)
  (b_cons (s_if (t_cmp op_lt opd_rel (nomark _) (e_var 1) e_int) (b_one (s_set 2 (e_un un_neg und_neg (e_var 2)) sc.nd)) b_nil)
  (b_one (s_ret (e_tup (as_cons (e_op op_fdivD opd_div (e_var 0) (e_var 2)) (as_cons (e_op op_fdivD opd_div (e_var 1) (e_var 2)) as_nil))))))))
theorem okX_fraction (T : Txt K mg) (h_common_divisor : Has Pg w K mg base "common_divisor" 1 2 ["one", "other"] m_common_divisor) : HasX Pg w K mg base "fraction" 2 2 ["above", "below"] m_fraction := by
  have sc := sc_fraction
  refine has_mkX (k := 1) T.d_fraction sc_fraction rfl rfl (fun _ _ _ _ _ _ us hl => match us, hl with | [_, _], _ => rfl) fun f cdv A outer s H E hr => ?_
  exact (b_cons (s_if (t_cmp (op_eqD hr.units) opd_eq (nomark _) (e_var 1) e_int) (b_one (s_raise rfl T.e_InvalidNumber T.errP (takes_of rfl rfl rfl rfl) hr e_str)) b_nil)
  (b_cons (s_set 2 (e_callH h_common_divisor (hr.mono (by decide)) (a_cons (e_var 0) (a_cons (e_var 1) a_nil))) sc.nd)
  (b_cons (s_if (t_cmp op_lt opd_rel (nomark _) (e_var 1) e_int) (b_one (s_set 2 (e_un un_neg und_neg (e_var 2)) sc.nd)) b_nil)
  (b_one (s_ret (e_tup (as_cons (e_op op_fdivD opd_div (e_var 0) (e_var 2)) (as_cons (e_op op_fdivD opd_div (e_var 1) (e_var 2)) as_nil))))))))
abbrev s_plus : Stmt := topS 6
theorem sc_plus : FnScope ["one", "other"] ["one", "other"] (defScope s_plus) := ⟨rfl, rfl, rfl, by decide +kernel, rfl, by decide +kernel, by decide +kernel⟩
theorem ok_plus (T : Txt K mg) (h_fraction : Has Pg w K mg base "fraction" 2 2 ["above", "below"] m_fraction) : Has Pg w K mg base "plus" 3 2 ["one", "other"] m_plus := by
  have sc := sc_plus
  refine has_mk (k := 2) T.d_plus sc_plus rfl rfl (fun _ _ _ _ _ _ us hl => match us, hl with | [_, _], _ => rfl) fun f cdv A outer s H E hr => ?_
  exact (b_one (s_ret (e_callH0 h_fraction (hr.mono (by decide)) (a_cons (e_op op_add4 opd_add (e_op op_mul2 opd_mul (e_ix (e_var 0) e_int) (e_ix (e_var 1) e_int)) (e_op op_mul2 opd_mul (e_ix (e_var 1) e_int) (e_ix (e_var 0) e_int))) (a_cons (e_op op_mul2 opd_mul (e_ix (e_var 0) e_int) (e_ix (e_var 1) e_int)) a_nil)))))
abbrev s_minus : Stmt := topS 7
theorem sc_minus : FnScope ["one", "other"] ["one", "other"] (defScope s_minus) := ⟨rfl, rfl, rfl, by decide +kernel, rfl, by decide +kernel, by decide +kernel⟩
theorem ok_minus (T : Txt K mg) (h_fraction : Has Pg w K mg base "fraction" 2 2 ["above", "below"] m_fraction) : Has Pg w K mg base "minus" 3 2 ["one", "other"] m_minus := by
  have sc := sc_minus
  refine has_mk (k := 2) T.d_minus sc_minus rfl rfl (fun _ _ _ _ _ _ us hl => match us, hl with | [_, _], _ => rfl) fun f cdv A outer s H E hr => ?_
  exact (b_one (s_ret (e_callH0 h_fraction (hr.mono (by decide)) (a_cons (e_op op_sub2 opd_sub (e_op op_mul2 opd_mul (e_ix (e_var 0) e_int) (e_ix (e_var 1) e_int)) (e_op op_mul2 opd_mul (e_ix (e_var 1) e_int) (e_ix (e_var 0) e_int))) (a_cons (e_op op_mul2 opd_mul (e_ix (e_var 0) e_int) (e_ix (e_var 1) e_int)) a_nil)))))
abbrev s_times : Stmt := topS 8
theorem sc_times : FnScope ["one", "other"] ["one", "other"] (defScope s_times) := ⟨rfl, rfl, rfl, by decide +kernel, rfl, by decide +kernel, by decide +kernel⟩
theorem ok_times (T : Txt K mg) (h_fraction : Has Pg w K mg base "fraction" 2 2 ["above", "below"] m_fraction) : Has Pg w K mg base "times" 3 2 ["one", "other"] m_times := by
  have sc := sc_times
  refine has_mk (k := 2) T.d_times sc_times rfl rfl (fun _ _ _ _ _ _ us hl => match us, hl with | [_, _], _ => rfl) fun f cdv A outer s H E hr => ?_
  exact (b_one (s_ret (e_callH0 h_fraction (hr.mono (by decide)) (a_cons (e_op op_mul2 opd_mul (e_ix (e_var 0) e_int) (e_ix (e_var 1) e_int)) (a_cons (e_op op_mul2 opd_mul (e_ix (e_var 0) e_int) (e_ix (e_var 1) e_int)) a_nil)))))
abbrev s_over : Stmt := topS 9
theorem sc_over : FnScope ["one", "other"] ["one", "other"] (defScope s_over) := ⟨rfl, rfl, rfl, by decide +kernel, rfl, by decide +kernel, by decide +kernel⟩
theorem ok_over (T : Txt K mg) (h_fraction : Has Pg w K mg base "fraction" 2 2 ["above", "below"] m_fraction) : Has Pg w K mg base "over" 3 2 ["one", "other"] m_over := by
  have sc := sc_over
  refine has_mk (k := 2) T.d_over sc_over rfl rfl (fun _ _ _ _ _ _ us hl => match us, hl with | [_, _], _ => rfl) fun f cdv A outer s H E hr => ?_
  exact (b_one (s_ret (e_callH0 h_fraction (hr.mono (by decide)) (a_cons (e_op op_mul2 opd_mul (e_ix (e_var 0) e_int) (e_ix (e_var 1) e_int)) (a_cons (e_op op_mul2 opd_mul (e_ix (e_var 0) e_int) (e_ix (e_var 1) e_int)) a_nil)))))
theorem okX_over (T : Txt K mg) (hX_fraction : HasX Pg w K mg base "fraction" 2 2 ["above", "below"] m_fraction) : HasX Pg w K mg base "over" 3 2 ["one", "other"] m_over := by
  have sc := sc_over
  refine has_mkX (k := 2) T.d_over sc_over rfl rfl (fun _ _ _ _ _ _ us hl => match us, hl with | [_, _], _ => rfl) fun f cdv A outer s H E hr => ?_
  exact (b_one (s_ret (e_callX hX_fraction (takes_of rfl rfl rfl rfl) (hr.mono (by decide)) (a_cons (e_op op_mul2 opd_mul (e_ix (e_var 0) e_int) (e_ix (e_var 1) e_int)) (a_cons (e_op op_mul2 opd_mul (e_ix (e_var 0) e_int) (e_ix (e_var 1) e_int)) a_nil)))))
abbrev s_compare : Stmt := topS 10
theorem sc_compare : FnScope ["one", "other", "gap"] ["one", "other"] (defScope s_compare) := ⟨rfl, rfl, rfl, by decide +kernel, rfl, by decide +kernel, by decide +kernel⟩
theorem ok_compare (T : Txt K mg)  : Has Pg w K mg base "compare" 1 2 ["one", "other"] m_compare := by
  have sc := sc_compare
  refine has_mk (k := 0) T.d_compare sc_compare rfl rfl (fun _ _ _ _ _ _ us hl => match us, hl with | [_, _], _ => rfl) fun f cdv A outer s H E hr => ?_
  exact (b_cons (s_set 2 (e_op op_sub2 opd_sub (e_op op_mul2 opd_mul (e_ix (e_var 0) e_int) (e_ix (e_var 1) e_int)) (e_op op_mul2 opd_mul (e_ix (e_var 1) e_int) (e_ix (e_var 0) e_int))) sc.nd)
  (b_one (s_ret (e_op op_sub2 opd_sub (e_cmp op_gt opd_rel (nomark _) (e_var 2) e_int) (e_cmp op_lt opd_rel (nomark _) (e_var 2) e_int)))))
abbrev s__law_deck : Stmt := topS 12
theorem sc__law_deck : FnScope ["script", "cells", "each", "deck", "seed", "k", "cell", "rest", "at"] ["script", "cells", "each"] (defScope s__law_deck) := ⟨rfl, rfl, rfl, by decide +kernel, rfl, by decide +kernel, by decide +kernel⟩
theorem ok__law_deck (T : Txt K mg)  : HasN Pg w K mg base "_law_deck" 1 3 ["script", "cells", "each"] m__law_deck := by
  have sc := sc__law_deck
  refine has_mkN (k := 0) T.d__law_deck sc__law_deck rfl rfl (fun _ _ _ _ _ _ us hl => match us, hl with | [_, _, _], _ => rfl) fun f cdv A outer s H E hr => ?_
  exact (b_cons (s_setM 3 (n_lst as_nil) sc.nd)
  (b_cons (s_set 4 (e_op op_add4 opd_add e_int (e_len T.b_len (e_var 0))) sc.nd)
  (b_cons (s_for PassesOwn.never rfl (i_range1 rfl T.b_range (e_var 1)) (g_name 5 sc.nd) (b_cons (s_set 6 e_int sc.nd)
  (b_cons (s_if (t_cmp op_lt opd_rel (nomark _) (e_var 5) (e_len T.b_len (e_var 0))) (b_one (s_set 6 (e_ix (e_var 0) (e_var 5)) sc.nd)) b_nil)
  (b_cons (s_set 7 (e_abs T.b_abs (e_var 6)) sc.nd)
  (b_one (s_if (t_cmp op_ge opd_rel (nomark _) (e_var 7) (e_op op_pow opd_pow e_int e_int)) (b_one (s_for PassesOwn.never rfl (i_range1 rfl T.b_range (e_var 2)) (g_name 8 sc.nd) (b_cons (s_app 3 (e_op op_modN opd_mod (e_intOf T.b_int (e_var 7)) e_int))
  (b_one (s_set 7 (e_op op_fdivD opd_div (e_var 7) e_int) sc.nd))))) (b_cons (s_set 4 (e_op op_modN opd_mod (e_intOf T.b_int (e_op op_add4 opd_add (e_op op_add4 opd_add (e_op op_add4 opd_add (e_op op_mul2 opd_mul (e_var 4) e_int) (e_op op_mul2 opd_mul e_int (e_var 7))) (e_intOf T.b_int (e_cmp op_lt opd_rel (nomark _) (e_var 6) e_int))) (e_var 5))) e_int) sc.nd)
  (b_one (s_for PassesOwn.never rfl (i_range1 rfl T.b_range (e_var 2)) (g_name 8 sc.nd) (b_cons (s_set 4 (e_op op_modN opd_mod (e_intOf T.b_int (e_op op_add4 opd_add (e_op op_add4 opd_add (e_op op_mul2 opd_mul (e_var 4) e_int) (e_var 8)) e_int)) e_int) sc.nd)
  (b_one (s_app 3 (e_op op_modN opd_mod (e_intOf T.b_int (e_op op_fdivD opd_div (e_var 4) e_int)) e_int)))))))))))))
  (b_cons (s_rev 3)
  (b_one (s_retM 3))))))
abbrev s__law_take : Stmt := topS 13
theorem sc__law_take : FnScope ["deck", "many"] ["deck", "many"] (defScope s__law_take) := ⟨rfl, rfl, rfl, by decide +kernel, rfl, by decide +kernel, by decide +kernel⟩
theorem ok__law_take (T : Txt K mg)  : Has Pg w K mg base "_law_take" 1 2 ["deck", "many"] m__law_take := by
  have sc := sc__law_take
  refine has_mk (k := 0) T.d__law_take sc__law_take rfl rfl (fun _ _ _ _ _ _ us hl => match us, hl with | [_, _], _ => rfl) fun f cdv A outer s H E hr => ?_
  exact (b_cons (s_if (t_cmp (op_eqD hr.units) opd_eq (nomark _) (e_lenV 0 T.b_len) e_int) (b_one (s_ret e_int)) b_nil)
  (b_one (s_ret (e_op op_modN opd_mod (e_intOf T.b_int (e_pop 0)) (e_var 1)))))
abbrev s__law_plain : Stmt := topS 14
theorem sc__law_plain : FnScope ["value", "item"] ["value"] (defScope s__law_plain) := ⟨rfl, rfl, rfl, by decide +kernel, rfl, by decide +kernel, by decide +kernel⟩
theorem ok__law_plain (T : Txt K mg)  : ∀ r : Nat, Has Pg w K mg base "_law_plain" (1 + r) 1 ["value"] (m__law_plain r)
  | 0 => has_zero T.d__law_plain sc__law_plain rfl (fun _ _ _ _ _ _ us hl => match us, hl with | [_], _ => rfl)
  | r + 1 => by
    have sc := sc__law_plain
    have hrec := ok__law_plain T  r
    refine has_mk (k := 1 + r) T.d__law_plain sc__law_plain rfl rfl (fun _ _ _ _ _ _ us hl => match us, hl with | [_], _ => rfl) fun f cdv A outer s H E hr => ?_
    exact (b_cons (s_if (t_tru (e_isiT ["tuple", "list"] T.b_isinstance (e_var 0) (cs_cons T.b_tuple (cs_cons T.b_list cs_nil)))) (b_one (s_ret (e_op op_add4 opd_add ((n_lst (as_cons (e_isi "list" T.b_isinstance T.b_list (e_var 0)) as_nil))).e ((n_lc [("item", 1)] rfl sc.nd (i_seq (e_var 0)) (blkOk_by (by show blkC ["value", "item"] (defScope s__law_plain) _ _ = true; decide +kernel)) ⟨fun _ _ _ _ _ => (g_name 1 sc.nd), fun _ _ _ _ _ => ts_nil, fun _ _ _ _ _ => (e_callH hrec (hr.mono (by omega)) (a_cons (e_var 1) a_nil)), by decide⟩)).e))) b_nil)
  (b_cons (s_if (w_or (t_cmp op_isN opd_isN (nomark _) (e_var 0) e_non) (w_or1 (t_tru (e_isi "bool" T.b_isinstance T.b_bool (e_var 0))))).t (b_one (s_ret (e_ix ((n_lst (as_cons e_str (as_cons e_str (as_cons e_str as_nil))))).e (e_op op_add4 opd_add (e_intOf T.b_int (e_cmp op_notN opd_notN (nomark _) (e_var 0) e_non)) (e_intOf T.b_int (e_cmp op_isK opd_isB (nomark _) (e_var 0) e_bl)))))) b_nil)
  (b_cons (s_if (t_tru (e_isiT ["int", "str"] T.b_isinstance (e_var 0) (cs_cons T.b_int (cs_cons T.b_str cs_nil)))) (b_one (s_ret ((n_lst (as_cons (e_isi "str" T.b_isinstance T.b_str (e_var 0)) (as_cons (e_var 0) as_nil)))).e)) b_nil)
  (b_one (s_ret e_str)))))
abbrev s__law_same : Stmt := topS 15
theorem sc__law_same : FnScope ["told", "due"] ["told", "due"] (defScope s__law_same) := ⟨rfl, rfl, rfl, by decide +kernel, rfl, by decide +kernel, by decide +kernel⟩
theorem ok__law_same (T : Txt K mg) (h__law_plain : Has Pg w K mg base "_law_plain" 21 1 ["value"] (m__law_plain 20)) : Has Pg w K mg base "_law_same" 22 2 ["told", "due"] m__law_same := by
  have sc := sc__law_same
  refine has_mk (k := 21) T.d__law_same sc__law_same rfl rfl (fun _ _ _ _ _ _ us hl => match us, hl with | [_, _], _ => rfl) fun f cdv A outer s H E hr => ?_
  exact (b_one (s_ret (e_cmp (op_eqD hr.units) opd_eq (nomark _) (e_callH h__law_plain (hr.mono (by decide)) (a_cons (e_var 0) a_nil)) (e_callH h__law_plain (hr.mono (by decide)) (a_cons (e_var 1) a_nil)))))
abbrev s__law_divisor : Stmt := topS 16
theorem sc__law_divisor : FnScope ["one", "other", "left", "right", "turn"] ["one", "other"] (defScope s__law_divisor) := ⟨rfl, rfl, rfl, by decide +kernel, rfl, by decide +kernel, by decide +kernel⟩
theorem ok__law_divisor (T : Txt K mg)  : Has Pg w K mg base "_law_divisor" 1 2 ["one", "other"] m__law_divisor := by
  have sc := sc__law_divisor
  refine has_mk (k := 0) T.d__law_divisor sc__law_divisor rfl rfl (fun _ _ _ _ _ _ us hl => match us, hl with | [_, _], _ => rfl) fun f cdv A outer s H E hr => ?_
  exact (b_cons (s_set 2 (e_abs T.b_abs (e_var 0)) sc.nd)
  (b_cons (s_set 3 (e_abs T.b_abs (e_var 1)) sc.nd)
  (b_cons (s_for PassesOwn.never rfl (i_range1 rfl T.b_range e_int) (g_name 4 sc.nd) (b_cons (s_if (t_cmp (op_eqD hr.units) opd_eq (nomark _) (e_var 3) e_int) (b_one (s_ret (e_var 2))) b_nil)
  (b_one (s_par 2 3 rfl (e_var 3) (e_op op_modN opd_mod (e_intOf T.b_int (e_var 2)) (e_var 3)) sc.nd))))
  (b_one (s_ret (e_var 2))))))
abbrev s__law_part : Stmt := topS 17
theorem sc__law_part : FnScope ["above", "below", "common"] ["above", "below"] (defScope s__law_part) := ⟨rfl, rfl, rfl, by decide +kernel, rfl, by decide +kernel, by decide +kernel⟩
theorem ok__law_part (T : Txt K mg) (h__law_divisor : Has Pg w K mg base "_law_divisor" 1 2 ["one", "other"] m__law_divisor) : Has Pg w K mg base "_law_part" 2 2 ["above", "below"] m__law_part := by
  have sc := sc__law_part
  refine has_mk (k := 1) T.d__law_part sc__law_part rfl rfl (fun _ _ _ _ _ _ us hl => match us, hl with | [_, _], _ => rfl) fun f cdv A outer s H E hr => ?_
  exact (b_cons (s_set 2 (e_max rfl T.b_max e_int (e_callH h__law_divisor (hr.mono (by decide)) (a_cons (e_var 0) (a_cons (e_var 1) a_nil)))) sc.nd)
  (b_one (s_ret (e_tup (as_cons (e_op op_fdivD opd_div (e_var 0) (e_var 2)) (as_cons (e_op op_fdivD opd_div (e_var 1) (e_var 2)) as_nil))))))
abbrev s__law_plus : Stmt := topS 18
theorem sc__law_plus : FnScope ["one", "other"] ["one", "other"] (defScope s__law_plus) := ⟨rfl, rfl, rfl, by decide +kernel, rfl, by decide +kernel, by decide +kernel⟩
theorem ok__law_plus (T : Txt K mg) (h__law_part : Has Pg w K mg base "_law_part" 2 2 ["above", "below"] m__law_part) : Has Pg w K mg base "_law_plus" 3 2 ["one", "other"] m__law_plus := by
  have sc := sc__law_plus
  refine has_mk (k := 2) T.d__law_plus sc__law_plus rfl rfl (fun _ _ _ _ _ _ us hl => match us, hl with | [_, _], _ => rfl) fun f cdv A outer s H E hr => ?_
  exact (b_one (s_ret (e_callH h__law_part (hr.mono (by decide)) (a_cons (e_op op_add4 opd_add (e_op op_mul2 opd_mul (e_ix (e_var 0) e_int) (e_ix (e_var 1) e_int)) (e_op op_mul2 opd_mul (e_ix (e_var 1) e_int) (e_ix (e_var 0) e_int))) (a_cons (e_op op_mul2 opd_mul (e_ix (e_var 0) e_int) (e_ix (e_var 1) e_int)) a_nil)))))
abbrev s__law_times : Stmt := topS 19
theorem sc__law_times : FnScope ["one", "other"] ["one", "other"] (defScope s__law_times) := ⟨rfl, rfl, rfl, by decide +kernel, rfl, by decide +kernel, by decide +kernel⟩
theorem ok__law_times (T : Txt K mg) (h__law_part : Has Pg w K mg base "_law_part" 2 2 ["above", "below"] m__law_part) : Has Pg w K mg base "_law_times" 3 2 ["one", "other"] m__law_times := by
  have sc := sc__law_times
  refine has_mk (k := 2) T.d__law_times sc__law_times rfl rfl (fun _ _ _ _ _ _ us hl => match us, hl with | [_, _], _ => rfl) fun f cdv A outer s H E hr => ?_
  exact (b_one (s_ret (e_callH h__law_part (hr.mono (by decide)) (a_cons (e_op op_mul2 opd_mul (e_ix (e_var 0) e_int) (e_ix (e_var 1) e_int)) (a_cons (e_op op_mul2 opd_mul (e_ix (e_var 0) e_int) (e_ix (e_var 1) e_int)) a_nil)))))
abbrev s__law_minus : Stmt := topS 20
theorem sc__law_minus : FnScope ["one", "other"] ["one", "other"] (defScope s__law_minus) := ⟨rfl, rfl, rfl, by decide +kernel, rfl, by decide +kernel, by decide +kernel⟩
theorem ok__law_minus (T : Txt K mg) (h__law_plus : Has Pg w K mg base "_law_plus" 3 2 ["one", "other"] m__law_plus) : Has Pg w K mg base "_law_minus" 4 2 ["one", "other"] m__law_minus := by
  have sc := sc__law_minus
  refine has_mk (k := 3) T.d__law_minus sc__law_minus rfl rfl (fun _ _ _ _ _ _ us hl => match us, hl with | [_, _], _ => rfl) fun f cdv A outer s H E hr => ?_
  exact (b_one (s_ret (e_callH h__law_plus (hr.mono (by decide)) (a_cons (e_var 0) (a_cons (e_tup (as_cons (e_un un_neg und_neg (e_ix (e_var 1) e_int)) (as_cons (e_ix (e_var 1) e_int) as_nil))) a_nil)))))
abbrev s__law_number : Stmt := topS 21
theorem sc__law_number : FnScope ["deck", "way", "small"] ["deck"] (defScope s__law_number) := ⟨rfl, rfl, rfl, by decide +kernel, rfl, by decide +kernel, by decide +kernel⟩
theorem ok__law_number (T : Txt K mg) (h__law_take : Has Pg w K mg base "_law_take" 1 2 ["deck", "many"] m__law_take) : Has Pg w K mg base "_law_number" 2 1 ["deck"] m__law_number := by
  have sc := sc__law_number
  refine has_mk (k := 1) T.d__law_number sc__law_number rfl rfl (fun _ _ _ _ _ _ us hl => match us, hl with | [_], _ => rfl) fun f cdv A outer s H E hr => ?_
  exact (b_cons (s_set 1 (e_callH h__law_take (hr.mono (by decide)) (a_mut 0 (a_cons e_int a_nil))) sc.nd)
  (b_cons (s_set 2 (e_op op_sub2 opd_sub (e_callH h__law_take (hr.mono (by decide)) (a_mut 0 (a_cons e_int a_nil))) e_int) sc.nd)
  (b_cons (s_if (t_cmp (op_eqD hr.units) opd_eq (nomark _) (e_var 1) e_int) (b_one (s_ret (e_var 2))) b_nil)
  (b_cons (s_if (t_cmp (op_eqD hr.units) opd_eq (nomark _) (e_var 1) e_int) (b_one (s_ret (e_op op_add4 opd_add (e_op op_mul2 opd_mul (e_op op_sub2 opd_sub (e_callH h__law_take (hr.mono (by decide)) (a_mut 0 (a_cons e_int a_nil))) e_int) (e_op op_pow opd_pow e_int e_int)) (e_var 2)))) b_nil)
  (b_cons (s_if (t_cmp (op_eqD hr.units) opd_eq (nomark _) (e_var 1) e_int) (b_one (s_ret (e_ifx (t_cmp op_lt opd_rel (nomark _) (e_var 2) e_int) e_int (e_op op_mul2 opd_mul e_int (e_var 2))))) b_nil)
  (b_one (s_ret (e_op op_sub2 opd_sub (e_callH h__law_take (hr.mono (by decide)) (a_mut 0 (a_cons e_int a_nil))) e_int))))))))
abbrev s__law_refused : Stmt := topS 22
theorem sc__law_refused : FnScope ["way", "one", "error"] ["way", "one"] (defScope s__law_refused) := ⟨rfl, rfl, rfl, by decide +kernel, rfl, by decide +kernel, by decide +kernel⟩
theorem ok__law_refused (T : Txt K mg) (hX_fraction : HasX Pg w K mg base "fraction" 2 2 ["above", "below"] m_fraction) (hX_over : HasX Pg w K mg base "over" 3 2 ["one", "other"] m_over) : Has Pg w K mg base "_law_refused" 4 2 ["way", "one"] m__law_refused := by
  have sc := sc__law_refused
  refine has_mk (k := 3) T.d__law_refused sc__law_refused rfl rfl (fun _ _ _ _ _ _ us hl => match us, hl with | [_, _], _ => rfl) fun f cdv A outer s H E hr => ?_
  exact (b_one (s_try (W := fun _ _ _ _ => False) rfl rfl sc.nd T.errT (by decide) takes00 (fun W' pn xe t1 t2 => (b_cons (s_if (t_cmp (op_eqD hr.units) opd_eq (nomark _) (e_var 0) e_int) (b_one (s_expr (e_callX hX_fraction t1 (hr.mono (by decide)) (a_cons (e_ix (e_var 1) e_int) (a_cons e_int a_nil))))) (b_one (s_expr (e_callX hX_over t1 (hr.mono (by decide)) (a_cons (e_var 1) (a_cons (e_tup (as_cons e_int (as_cons e_int as_nil))) a_nil))))))
  (b_one (s_ret e_non)))) (hb_ret (rest := []) (he_if (ht_val (he_is T.errT T.b_isinstance)) (he_what T.errT) he_str))).calm)
abbrev s_law : Stmt := topS 23
theorem sc_law : FnScope ["script", "deck", "found", "turn", "above", "below", "sign", "common", "due", "one", "other", "third", "ratio", "gap"] ["script"] (defScope s_law) := ⟨rfl, rfl, rfl, by decide +kernel, rfl, by decide +kernel, by decide +kernel⟩
theorem ok_law (T : Txt K mg) (h__law_deck : HasN Pg w K mg base "_law_deck" 1 3 ["script", "cells", "each"] m__law_deck) (h__law_divisor : Has Pg w K mg base "_law_divisor" 1 2 ["one", "other"] m__law_divisor) (h__law_minus : Has Pg w K mg base "_law_minus" 4 2 ["one", "other"] m__law_minus) (h__law_number : Has Pg w K mg base "_law_number" 2 1 ["deck"] m__law_number) (h__law_part : Has Pg w K mg base "_law_part" 2 2 ["above", "below"] m__law_part) (h__law_plus : Has Pg w K mg base "_law_plus" 3 2 ["one", "other"] m__law_plus) (h__law_refused : Has Pg w K mg base "_law_refused" 4 2 ["way", "one"] m__law_refused) (h__law_same : Has Pg w K mg base "_law_same" 22 2 ["told", "due"] m__law_same) (h__law_take : Has Pg w K mg base "_law_take" 1 2 ["deck", "many"] m__law_take) (h__law_times : Has Pg w K mg base "_law_times" 3 2 ["one", "other"] m__law_times) (h_compare : Has Pg w K mg base "compare" 1 2 ["one", "other"] m_compare) (h_fraction : Has Pg w K mg base "fraction" 2 2 ["above", "below"] m_fraction) (h_minus : Has Pg w K mg base "minus" 3 2 ["one", "other"] m_minus) (h_over : Has Pg w K mg base "over" 3 2 ["one", "other"] m_over) (h_plus : Has Pg w K mg base "plus" 3 2 ["one", "other"] m_plus) (h_times : Has Pg w K mg base "times" 3 2 ["one", "other"] m_times) {f : Addr} {fd : FuncData} (F : Fun K "law" "law" s_law f fd) : FnOk Pg w K mg base CX0 23 f fd ["script"] (spF K mg 1 (nox m_law)) := by
  have sc := sc_law
  refine fn_ok (k := 22) F sc_law rfl rfl fun cdv A outer s H E hr => ?_
  exact (b_cons (s_setM 1 (n_callH h__law_deck (hr.mono (by decide)) (a_cons (e_var 0) (a_cons e_int (a_cons e_int a_nil)))) sc.nd)
  (b_cons (s_setM 2 (n_lst as_nil) sc.nd)
  (b_cons (s_for PassesOwn.never rfl (i_range1 rfl T.b_range e_int) (g_name 3 sc.nd) (b_cons (s_set 4 (e_callH h__law_number (hr.mono (by decide)) (a_mut 1 a_nil)) sc.nd)
  (b_cons (s_set 5 (e_callH h__law_number (hr.mono (by decide)) (a_mut 1 a_nil)) sc.nd)
  (b_cons (s_if (t_cmp (op_eqD hr.units) opd_eq (nomark _) (e_var 5) e_int) (b_one (s_set 5 (e_op op_add4 opd_add e_int (e_callH h__law_take (hr.mono (by decide)) (a_mut 1 (a_cons e_int a_nil)))) sc.nd)) b_nil)
  (b_cons (s_set 6 (e_ifx (t_cmp op_gt opd_rel (nomark _) (e_var 5) e_int) e_int (e_un un_neg und_neg e_int)) sc.nd)
  (b_cons (s_set 7 (e_callH h__law_divisor (hr.mono (by decide)) (a_cons (e_var 4) (a_cons (e_var 5) a_nil))) sc.nd)
  (b_cons (s_set 8 (e_tup (as_cons (e_op op_fdivD opd_div (e_op op_mul2 opd_mul (e_var 6) (e_var 4)) (e_var 7)) (as_cons (e_op op_fdivD opd_div (e_abs T.b_abs (e_var 5)) (e_var 7)) as_nil))) sc.nd)
  (b_cons (s_if (t_not (t_tru (e_callH h__law_same (hr.mono (by decide)) (a_cons (e_callH0 h_fraction (hr.mono (by decide)) (a_cons (e_var 4) (a_cons (e_var 5) a_nil))) (a_cons (e_var 8) a_nil))))) (b_one (s_ret e_bl)) b_nil)
  (b_one (s_app 2 (e_var 8)))))))))))
  (b_cons (s_if (t_cmp (op_eqD hr.units) opd_eq (nomark _) (e_callH h__law_take (hr.mono (by decide)) (a_mut 1 (a_cons e_int a_nil))) e_int) (b_one (s_setIx 2 e_int (e_ixV 2 e_int))) b_nil)
  (b_cons (s_asg (e_var 2) (g_tup 3 rfl (gs_cons (g_name 9 sc.nd) (gs_cons (g_name 10 sc.nd) (gs_cons (g_name 11 sc.nd) gs_nil)))))
  (b_cons (s_if (t_not (t_tru (e_callH h__law_same (hr.mono (by decide)) (a_cons ((n_lst (as_cons (e_callH0 h_plus (hr.mono (by decide)) (a_cons (e_var 9) (a_cons (e_var 10) a_nil))) (as_cons (e_callH0 h_minus (hr.mono (by decide)) (a_cons (e_var 9) (a_cons (e_var 10) a_nil))) as_nil)))).e (a_cons ((n_lst (as_cons (e_callH h__law_plus (hr.mono (by decide)) (a_cons (e_var 9) (a_cons (e_var 10) a_nil))) (as_cons (e_callH h__law_minus (hr.mono (by decide)) (a_cons (e_var 9) (a_cons (e_var 10) a_nil))) as_nil)))).e a_nil))))) (b_one (s_ret e_bl)) b_nil)
  (b_cons (s_if (w_or (t_not (t_tru (e_callH h__law_same (hr.mono (by decide)) (a_cons (e_callH0 h_times (hr.mono (by decide)) (a_cons (e_var 9) (a_cons (e_var 10) a_nil))) (a_cons (e_callH h__law_times (hr.mono (by decide)) (a_cons (e_var 9) (a_cons (e_var 10) a_nil))) a_nil))))) (w_or1 (t_not (t_tru (e_callH h__law_same (hr.mono (by decide)) (a_cons (e_callH0 h_plus (hr.mono (by decide)) (a_cons (e_callH0 h_minus (hr.mono (by decide)) (a_cons (e_var 9) (a_cons (e_var 10) a_nil))) (a_cons (e_var 10) a_nil))) (a_cons (e_var 9) a_nil))))))).t (b_one (s_ret e_bl)) b_nil)
  (b_cons (s_if (t_cmp (op_neD hr.units) opd_ne (nomark _) (e_ix (e_var 10) e_int) e_int) (b_cons (s_set 12 (e_callH0 h_over (hr.mono (by decide)) (a_cons (e_var 9) (a_cons (e_var 10) a_nil))) sc.nd)
  (b_one (s_if (w_or (t_not (t_tru (e_callH h__law_same (hr.mono (by decide)) (a_cons (e_callH0 h_times (hr.mono (by decide)) (a_cons (e_var 12) (a_cons (e_var 10) a_nil))) (a_cons (e_var 9) a_nil))))) (w_or1 (t_not (t_tru (e_callH h__law_same (hr.mono (by decide)) (a_cons (e_var 12) (a_cons (e_callH h__law_part (hr.mono (by decide)) (a_cons (e_op op_mul2 opd_mul (e_op op_mul2 opd_mul (e_ix (e_var 9) e_int) (e_ix (e_var 10) e_int)) (e_ifx (t_cmp op_gt opd_rel (nomark _) (e_ix (e_var 10) e_int) e_int) e_int (e_un un_neg und_neg e_int))) (a_cons (e_op op_mul2 opd_mul (e_abs T.b_abs (e_ix (e_var 10) e_int)) (e_ix (e_var 9) e_int)) a_nil))) a_nil))))))).t (b_one (s_ret e_bl)) b_nil))) b_nil)
  (b_cons (s_set 13 (e_op op_sub2 opd_sub (e_op op_mul2 opd_mul (e_ix (e_var 9) e_int) (e_ix (e_var 10) e_int)) (e_op op_mul2 opd_mul (e_ix (e_var 10) e_int) (e_ix (e_var 9) e_int))) sc.nd)
  (b_cons (s_set 8 (e_op op_sub2 opd_sub (e_cmp op_gt opd_rel (nomark _) (e_var 13) e_int) (e_cmp op_lt opd_rel (nomark _) (e_var 13) e_int)) sc.nd)
  (b_cons (s_if (t_not (t_tru (e_callH h__law_same (hr.mono (by decide)) (a_cons ((n_lst (as_cons (e_callH h_compare (hr.mono (by decide)) (a_cons (e_var 9) (a_cons (e_var 10) a_nil))) (as_cons (e_callH h_compare (hr.mono (by decide)) (a_cons (e_var 10) (a_cons (e_var 9) a_nil))) (as_cons (e_callH h_compare (hr.mono (by decide)) (a_cons (e_callH0 h_plus (hr.mono (by decide)) (a_cons (e_var 9) (a_cons (e_var 11) a_nil))) (a_cons (e_callH0 h_plus (hr.mono (by decide)) (a_cons (e_var 10) (a_cons (e_var 11) a_nil))) a_nil))) as_nil))))).e (a_cons ((n_lst (as_cons (e_intOf T.b_int (e_var 8)) (as_cons (e_intOf T.b_int (e_un un_neg und_neg (e_var 8))) (as_cons (e_intOf T.b_int (e_var 8)) as_nil))))).e a_nil))))) (b_one (s_ret e_bl)) b_nil)
  (b_one (s_ret (e_and (e_cmp (op_eqD hr.units) opd_eq (nomark _) (e_callH h__law_refused (hr.mono (by decide)) (a_cons e_int (a_cons (e_var 9) a_nil))) e_str) (e_one (e_cmp (op_eqD hr.units) opd_eq (nomark _) (e_callH h__law_refused (hr.mono (by decide)) (a_cons e_int (a_cons (e_var 9) a_nil))) e_str))))))))))))))))
theorem ok_all (T : Txt K mg) {f : Addr} {fd : FuncData} (F : Fun K "law" "law" s_law f fd) : FnOk Pg w K mg base CX0 23 f fd ["script"] (spF K mg 1 (nox m_law)) := by
  have h_common_divisor := ok_common_divisor (w := w) (base := base) T 
  have h_fraction := ok_fraction (w := w) (base := base) T h_common_divisor
  have hX_fraction := okX_fraction (w := w) (base := base) T h_common_divisor
  have h_plus := ok_plus (w := w) (base := base) T h_fraction
  have h_minus := ok_minus (w := w) (base := base) T h_fraction
  have h_times := ok_times (w := w) (base := base) T h_fraction
  have h_over := ok_over (w := w) (base := base) T h_fraction
  have hX_over := okX_over (w := w) (base := base) T hX_fraction
  have h_compare := ok_compare (w := w) (base := base) T 
  have h__law_deck := ok__law_deck (w := w) (base := base) T 
  have h__law_take := ok__law_take (w := w) (base := base) T 
  have h__law_plain := ok__law_plain (w := w) (base := base) T  20
  have h__law_same := ok__law_same (w := w) (base := base) T h__law_plain
  have h__law_divisor := ok__law_divisor (w := w) (base := base) T 
  have h__law_part := ok__law_part (w := w) (base := base) T h__law_divisor
  have h__law_plus := ok__law_plus (w := w) (base := base) T h__law_part
  have h__law_times := ok__law_times (w := w) (base := base) T h__law_part
  have h__law_minus := ok__law_minus (w := w) (base := base) T h__law_plus
  have h__law_number := ok__law_number (w := w) (base := base) T h__law_take
  have h__law_refused := ok__law_refused (w := w) (base := base) T hX_fraction hX_over
  exact ok_law T h__law_deck h__law_divisor h__law_minus h__law_number h__law_part h__law_plus h__law_refused h__law_same h__law_take h__law_times h_compare h_fraction h_minus h_over h_plus h_times F
end
theorem law_end {w : World} {K : PySem.W.Frag} {mg : Str → Option Value} {fa : Addr} (T : Txt K mg) (e : mg "law" = some (.ref fa)) (h : ∀ ns : List Int, ns.length ≤ 63 → ∃ cs, m_law [.im (.scr (ns.map D.int))] = .ok (.bl true) cs) :
    ∃ fd : FuncData, (∀ (s : Shared) (u : Value), BindsTo s fd ⟨[u], []⟩ [("script", u)]) ∧ ∀ base : Heap, K.In base → base.Ns mainGlobals mg → FnOk Pg w K mg base CX0 23 fa fd ["script"] (spTrue K) := by
  obtain ⟨f, fd, F, e2⟩ := T.d_law
  have e3 := e.symm.trans e2
  cases e3
  have G : ∀ base : Heap, FnOk Pg w K mg base CX0 23 fa fd ["script"] (spF K mg 1 (nox m_law)) := fun base => ok_all (base := base) T F
  obtain ⟨oc, od, kV, doc, pm, an, cdv, ct, osl, rfl, b2, b3⟩ := F.ex
  exact ⟨PySem.W.fnOf "law" "law" (defArgs s_law) (defBody s_law) (defScope s_law) .none kV doc pm an cdv ct, fun s u => .of_eq rfl, fun base _ _ => law_fn (G base) h⟩
end K00
namespace K00
open PySem VL
theorem fmodN (a b : Nat) : Int.fmod (a : Int) (b : Int) = ((a % b : Nat) : Int) := by
  rw [Int.fmod_eq_emod_of_nonneg _ (Int.natCast_nonneg b)]; rfl
theorem cd_loop : ∀ (fuel a b : Nat), b < fuel → gWhileF (tVal (e2 dGt (eVar 1) (eC (.int 0)))) (gPar 0 1 (eVar 1) (e2 dMod (eVar 0) (eVar 1))) fuel [.im (.int a), .im (.int b)] = .nx [.im (.int (Nat.gcd a b : Nat)), .im (.int 0)]
  | 0, a, b, h => absurd h (Nat.not_lt_zero _)
  | n + 1, a, b, h => by
    by_cases hb : b = 0
    · subst hb
      refine (while_end (δ1 := [.im (.int a), .im (.int 0)]) (by simp)).trans ?_
      simp
    · have h1 : (0 : Int) < b := by omega
      refine (while_step (δ1 := [.im (.int a), .im (.int b)]) (δ2 := [.im (.int b), .im (.int ((a % b : Nat) : Int))]) (by simp [Nat.pos_of_ne_zero hb]) (by simp [p_mod (show (b : Int) ≠ 0 by omega), fmodN])).trans ?_
      rw [cd_loop n b (a % b) (by have := Nat.mod_lt a (Nat.pos_of_ne_zero hb); omega)]
      rw [Nat.gcd_comm a b, Nat.gcd_rec b a, Nat.gcd_comm]
theorem cd_ok (a b : Int) : m_common_divisor [.im (.int a), .im (.int b)] = .ok (.int (Int.gcd a b : Nat)) [.un, .un] := by
  have h := cd_loop (b.natAbs + 1) a.natAbs b.natAbs (Nat.lt_succ_self _)
  unfold m_common_divisor g_common_divisor
  rw [p_fn2]
  simp [gWhile, fuelI, h]
  exact ⟨rfl, rfl⟩
end K00
namespace K00
open PySem VL
def fr (a b : Int) : D := .tup [.int a, .int b]
/-- lowest terms, above nought -/
def red (a b : Int) : D := fr (b.sign * a / (Int.gcd a b : Int)) ((b.natAbs : Int) / (Int.gcd a b : Int))
theorem gcd_pos {a b : Int} (h : b ≠ 0) : 0 < Int.gcd a b := Nat.pos_of_ne_zero fun z => h (Int.gcd_eq_zero_iff.mp z).2
theorem gcd_leR {a b : Int} (h : b ≠ 0) : Int.gcd a b ≤ b.natAbs := by
  have := Int.natAbs_dvd_natAbs.mpr (Int.gcd_dvd_right a b)
  rw [Int.natAbs_natCast] at this
  exact Nat.le_of_dvd (by omega) this
theorem fd_dvd {a g : Int} (h : g ∣ a) : a.fdiv g = a / g := by
  rw [Int.fdiv_eq_ediv]
  simp [h]
theorem fraction_ok {a b : Int} (hb : b ≠ 0) (h : b.natAbs < 2 ^ 8000) : m_fraction [.im (.int a), .im (.int b)] = .ok (red a b) [.un, .un] := by
  have g0 := gcd_pos (a := a) hb
  have g1 := gcd_leR (a := a) hb
  have gb : bits (Int.gcd a b : Int) < 9000 := by
    have : bits (Int.gcd a b : Int) < 8000 + 1 := bits_le (by simp only [Int.natAbs_natCast]; exact Nat.lt_of_le_of_lt g1 h)
    omega
  have gn : bits (-(Int.gcd a b : Int)) < 9000 := by
    unfold bits at gb ⊢
    rwa [Int.natAbs_neg]
  have gz : (Int.gcd a b : Int) ≠ 0 := by omega
  have gz' : -(Int.gcd a b : Int) ≠ 0 := by omega
  obtain ⟨x, hx⟩ : (Int.gcd a b : Int) ∣ a := Int.gcd_dvd_left a b
  obtain ⟨y, hy⟩ : (Int.gcd a b : Int) ∣ b := Int.gcd_dvd_right a b
  unfold m_fraction g_fraction
  rw [p_fn2]
  have hc : cal 2 m_common_divisor [.im (.int a), .im (.int b)] = .ok (.int (Int.gcd a b : Nat)) [.un, .un] := cal_ok (cd_ok a b) rfl
  by_cases hn : b < 0
  · simp [hb, hn, hc, p_div gz' gn]
    refine ⟨?_, rfl⟩
    unfold red fr
    have da := Int.gcd_dvd_left a b
    have db := Int.gcd_dvd_right a b
    rw [Int.sign_eq_neg_one_of_neg hn, fd_dvd (Int.neg_dvd.mpr da), fd_dvd (Int.neg_dvd.mpr db), Int.ediv_neg, Int.ediv_neg, Int.neg_one_mul, Int.neg_ediv_of_dvd da, ← Int.neg_ediv_of_dvd db, show ((b.natAbs : Nat) : Int) = -b by omega]
  · simp [hb, hn, hc, p_div gz gb]
    refine ⟨?_, rfl⟩
    unfold red fr
    rw [Int.sign_eq_one_of_pos (by omega), fd_dvd (Int.gcd_dvd_left a b), fd_dvd (Int.gcd_dvd_right a b), Int.one_mul, show ((b.natAbs : Nat) : Int) = b by omega]
theorem fraction_zero (a : Int) : m_fraction [.im (.int a), .im (.int 0)] = .ex ⟨"InvalidNumber", [("what", .str "zero")]⟩ [.un, .un] := by
  unfold m_fraction g_fraction
  rw [p_fn2]
  simp [gRaise]
  rfl
/-! the package's four operations -/
theorem ix0 (a b : Int) : dIx (fr a b) (.int 0) = some (.int a) := p_ix0t
theorem ix1 (a b : Int) : dIx (fr a b) (.int 1) = some (.int b) := p_ix1t
/-- small enough -/
def sm (k : Nat) (a : Int) : Prop := a.natAbs < 2 ^ k
theorem sm_mul {k l : Nat} {a b : Int} (h : sm k a) (h' : sm l b) : sm (k + l) (a * b) := by
  unfold sm at *
  rw [Int.natAbs_mul, Nat.pow_add]
  exact Nat.mul_lt_mul'' h h'
theorem sm_add {k : Nat} {a b : Int} (h : sm k a) (h' : sm k b) : sm (k + 1) (a + b) := by
  unfold sm at *
  rw [Nat.pow_succ]
  omega
theorem sm_sub {k : Nat} {a b : Int} (h : sm k a) (h' : sm k b) : sm (k + 1) (a - b) := by
  unfold sm at *
  rw [Nat.pow_succ]
  omega
theorem sm_neg {k : Nat} {a : Int} (h : sm k a) : sm k (-a) := by
  unfold sm at *
  omega
theorem sm_mono {k l : Nat} {a : Int} (h : sm k a) (hl : k ≤ l) : sm l a := Nat.lt_of_lt_of_le h (Nat.pow_le_pow_right (by decide) hl)
theorem mul_sm {k l : Nat} {a b : Int} (h : sm k a) (h' : sm l b) (hk : k + l < 900000 := by decide) : dMul (.int a) (.int b) = some (.int (a * b)) :=
  p_mul (by have := bits_le h; have := bits_le h'; omega)
theorem plus_eq {k : Nat} {a b c d : Int} (ha : sm k a) (hb : sm k b) (hc : sm k c) (hd : sm k d) (hk : k ≤ 3000) (h0 : b ≠ 0) (h1 : d ≠ 0) : m_plus [.im (fr a b), .im (fr c d)] = .ok (red (a * d + c * b) (b * d)) [.un, .un] := by
  have hf := fraction_ok (a := a * d + c * b) (b := b * d) (Int.mul_ne_zero h0 h1) (sm_mono (sm_mul hb hd) (by omega))
  unfold m_plus g_plus
  rw [p_fn2]
  simp [ix0, ix1, mul_sm (sm_mono ha hk) (sm_mono hd hk), mul_sm (sm_mono hc hk) (sm_mono hb hk), mul_sm (sm_mono hb hk) (sm_mono hd hk), hf]
  rfl
theorem minus_eq {k : Nat} {a b c d : Int} (ha : sm k a) (hb : sm k b) (hc : sm k c) (hd : sm k d) (hk : k ≤ 3000) (h0 : b ≠ 0) (h1 : d ≠ 0) : m_minus [.im (fr a b), .im (fr c d)] = .ok (red (a * d - c * b) (b * d)) [.un, .un] := by
  have hf := fraction_ok (a := a * d - c * b) (b := b * d) (Int.mul_ne_zero h0 h1) (sm_mono (sm_mul hb hd) (by omega))
  unfold m_minus g_minus
  rw [p_fn2]
  simp [ix0, ix1, mul_sm (sm_mono ha hk) (sm_mono hd hk), mul_sm (sm_mono hc hk) (sm_mono hb hk), mul_sm (sm_mono hb hk) (sm_mono hd hk), hf]
  rfl
theorem times_eq {k : Nat} {a b c d : Int} (ha : sm k a) (hb : sm k b) (hc : sm k c) (hd : sm k d) (hk : k ≤ 3000) (h0 : b ≠ 0) (h1 : d ≠ 0) : m_times [.im (fr a b), .im (fr c d)] = .ok (red (a * c) (b * d)) [.un, .un] := by
  have hf := fraction_ok (a := a * c) (b := b * d) (Int.mul_ne_zero h0 h1) (sm_mono (sm_mul hb hd) (by omega))
  unfold m_times g_times
  rw [p_fn2]
  simp [ix0, ix1, mul_sm (sm_mono ha hk) (sm_mono hc hk), mul_sm (sm_mono hb hk) (sm_mono hd hk), hf]
  rfl
theorem over_eq {k : Nat} {a b c d : Int} (ha : sm k a) (hb : sm k b) (hc : sm k c) (hd : sm k d) (hk : k ≤ 3000) (h0 : b ≠ 0) (h1 : c ≠ 0) : m_over [.im (fr a b), .im (fr c d)] = .ok (red (a * d) (b * c)) [.un, .un] := by
  have hf := fraction_ok (a := a * d) (b := b * c) (Int.mul_ne_zero h0 h1) (sm_mono (sm_mul hb hc) (by omega))
  unfold m_over g_over
  rw [p_fn2]
  simp [ix0, ix1, mul_sm (sm_mono ha hk) (sm_mono hd hk), mul_sm (sm_mono hb hk) (sm_mono hc hk), hf]
  rfl
theorem over_zero {k : Nat} {a b d : Int} (ha : sm k a) (hb : sm k b) (hd : sm k d) (hk : k ≤ 3000) : m_over [.im (fr a b), .im (fr 0 d)] = .ex ⟨"InvalidNumber", [("what", .str "zero")]⟩ [.un, .un] := by
  have hf := fraction_zero (a * d)
  unfold m_over g_over
  rw [p_fn2]
  simp [ix0, ix1, mul_sm (sm_mono ha hk) (sm_mono hd hk), mul_sm (sm_mono hb hk) (show sm 3000 0 by unfold sm; exact Nat.two_pow_pos _), hf]
  rfl
theorem compare_eq {k : Nat} {a b c d : Int} (ha : sm k a) (hb : sm k b) (hc : sm k c) (hd : sm k d) (hk : k ≤ 3000) : m_compare [.im (fr a b), .im (fr c d)] = .ok (.int (a * d - c * b).sign) [.un, .un] := by
  unfold m_compare g_compare
  rw [p_fn2]
  simp [ix0, ix1, mul_sm (sm_mono ha hk) (sm_mono hd hk), mul_sm (sm_mono hc hk) (sm_mono hb hk)]
  refine ⟨?_, rfl⟩
  generalize a * d = p
  generalize c * b = q
  rcases Int.lt_trichotomy p q with h | h | h
  · rw [Int.sign_eq_neg_one_of_neg (by omega)]
    simp [h, show ¬ q < p by omega]
  · subst h
    simp
  · rw [Int.sign_eq_one_of_pos (by omega)]
    simp [h, show ¬ p - q < 0 by omega]
end K00
namespace K00
open PySem VL
/-! the law's own divisor: enough turns -/
theorem dv_loop : ∀ (ds : List D) (k a b : Nat) (x y z : Cell), b < 2 ^ k → 2 * k + 2 ≤ ds.length →
    ∃ e, gForGo (tgName 4) (gSeq (gIf (tVal (e2 dEq (eVar 3) (eC (.int 0)))) (gRet (eVar 2)) gNext) (gPar 2 3 (eVar 3) (e2 dMod (e1 dInt (eVar 2)) (eVar 3)))) ds [x, y, .im (.int a), .im (.int b), z] = .rt (.int (Nat.gcd a b : Nat)) e
  | [], k, a, b, x, y, z, _, h => by simp at h
  | [_], k, a, b, x, y, z, _, h => by simp at h
  | d :: d' :: ds, k, a, b, x, y, z, hb, h => by
    by_cases h0 : b = 0
    · subst h0
      exact ⟨_, (for_ret (δ1 := [x, y, .im (.int a), .im (.int 0), .im d]) (δ2 := [x, y, .im (.int a), .im (.int 0), .im d]) (r := .int a) rfl (by simp)).trans (by simp; rfl)⟩
    · refine Exists.imp (fun e q => (for_step (δ1 := [x, y, .im (.int a), .im (.int b), .im d]) (δ2 := [x, y, .im (.int b), .im (.int ((a % b : Nat) : Int)), .im d]) rfl (by simp [h0, p_mod (show (b : Int) ≠ 0 by omega), fmodN])).trans q) ?_
      have hm := Nat.mod_lt a (Nat.pos_of_ne_zero h0)
      by_cases h1 : a % b = 0
      · rw [h1]
        have hg : Nat.gcd a b = b := by rw [Nat.gcd_comm, Nat.gcd_rec, h1, Nat.gcd_zero_left]
        exact ⟨_, (for_ret (δ1 := [x, y, .im (.int b), .im (.int 0), .im d']) (δ2 := [x, y, .im (.int b), .im (.int 0), .im d']) (r := .int b) rfl (by simp)).trans (congrArg (fun g : Nat => RS.rt (.int (g : Int)) _) hg.symm)⟩
      · cases k with
        | zero => exact absurd hb (by simp; omega)
        | succ k =>
          refine Exists.imp (fun e q => (for_step (δ1 := [x, y, .im (.int b), .im (.int ((a % b : Nat) : Int)), .im d']) (δ2 := [x, y, .im (.int ((a % b : Nat) : Int)), .im (.int ((b % (a % b) : Nat) : Int)), .im d']) rfl (by simp [h1, p_mod (show ((a % b : Nat) : Int) ≠ 0 by omega), fmodN, -Int.natCast_emod])).trans q) ?_
          have hm2 := Nat.mod_lt b (Nat.pos_of_ne_zero h1)
          have half : 2 * (b % (a % b)) < b := by
            have := Nat.div_add_mod b (a % b)
            have q : 1 ≤ b / (a % b) := Nat.div_pos (Nat.le_of_lt hm) (Nat.pos_of_ne_zero h1)
            have : (a % b) * 1 ≤ (a % b) * (b / (a % b)) := Nat.mul_le_mul_left _ q
            omega
          obtain ⟨e, q⟩ := dv_loop ds k (a % b) (b % (a % b)) x y (.im d') (by rw [Nat.pow_succ] at hb; omega) (by simp only [List.length_cons] at h; omega)
          refine ⟨e, q.trans ?_⟩
          rw [show Nat.gcd (a % b) (b % (a % b)) = Nat.gcd a b by rw [Nat.gcd_comm, ← Nat.gcd_rec, ← Nat.gcd_rec, Nat.gcd_comm]]
theorem dv_ok {a b : Int} (h : sm 199 b) : m__law_divisor [.im (.int a), .im (.int b)] = .ok (.int (Int.gcd a b : Nat)) [.un, .un] := by
  obtain ⟨e, q⟩ := dv_loop (rangeD 0 400) 199 a.natAbs b.natAbs (.im (.int a)) (.im (.int b)) .un h (by rw [rangeD_len]; exact Nat.le_refl _)
  unfold m__law_divisor g__law_divisor
  rw [p_fn2]
  have r := p_rng (n := 400) (by decide)
  simp [List.replicate, show rng1 (.int 400) = some (rangeD 0 400) from r]
  simp [q]
  exact ⟨rfl, rfl⟩
end K00
namespace K00
open PySem VL
/-! _law_plain, _law_same -/
def pok : Nat → D → Bool
  | _, .int _ => true
  | _, .bl _ => true
  | _, .non => true
  | _, .str s => PyData.strOk s
  | n + 1, .tup xs => xs.all (pok n) && decide (xs.length < 1000000)
  | n + 1, .lst xs => xs.all (pok n) && decide (xs.length < 1000000)
  | _, _ => false
def pl : Nat → D → D
  | _, .int i => .lst [.bl false, .int i]
  | _, .str s => .lst [.bl true, .str s]
  | _, .bl b => .str (if b then "True" else "False")
  | _, .non => .str "None"
  | n + 1, .tup xs => .lst (.bl false :: xs.map (pl n))
  | n + 1, .lst xs => .lst (.bl true :: xs.map (pl n))
  | _, d => d
theorem plain_seq {n : Nat} {xs : List D} {b : Bool} {v : D} (ih : ∀ x, pok n x = true → m__law_plain (n + 1) [.im x] = .ok (pl n x) [.un]) (h : (xs.all (pok n) && decide (xs.length < 1000000)) = true) (hv : asSeq v = some xs) (hb : dIsi ["list"] v = some (.bl b)) (ht : dIsi ["tuple", "list"] v = some (.bl true)) :
    m__law_plain (n + 2) [.im v] = .ok (.lst (.bl b :: xs.map (pl n))) [.un] := by
  rw [Bool.and_eq_true, decide_eq_true_eq] at h
  obtain ⟨h, hl⟩ := h
  have comp : ∃ δ', compGo (tgName 1) (M.ret true) (eCall (cal 1 (m__law_plain (n + 1))) (aCons (eVar 1) aNil)) [1] xs [.im v, .un] = .ok (xs.map (pl n)) δ' ∧ ∃ c, δ' = [.im v, c] := by
    refine comp_map (ok := fun x => pok n x = true) (fun δ => ∃ c, δ = [.im v, c]) (fun d δ ho ⟨c, e⟩ => ?_) xs _ (fun d hd => List.all_eq_true.mp h d hd) ⟨_, rfl⟩
    subst e
    refine ⟨[.im v, .im d], ?_, _, rfl⟩
    have q : cal 1 (m__law_plain (n + 1)) [.im d] = .ok (pl n d) [.un] := cal_ok (ih d ho) rfl
    simp [VL.compTurn, wipeE, q]
  obtain ⟨δ', h1, c, rfl⟩ := comp
  have h2 := p_comp (own := [1]) (γ := tgName 1) (m := iSeq (eVar 0)) (t := M.ret true) (e := eCall (cal 1 (m__law_plain (n + 1))) (aCons (eVar 1) aNil)) (δ := [.im v, .un]) (by simp [hv]) h1 (Nat.le_of_lt (Nat.lt_of_lt_of_le hl (by show 1000000 ≤ _; decide)))
  show fnM 1 [] 1 (g__law_plain (m__law_plain (n + 1))) [.im v] = _
  rw [p_fn1]
  unfold g__law_plain
  have tr : truD (.bl true) = some true := rfl
  have cat : dAdd (.lst [.bl b]) (.lst (xs.map (pl n))) = some (.lst (.bl b :: xs.map (pl n))) := by
    show addL (.lst [.bl b]) (.lst (xs.map (pl n))) = _
    unfold addL
    dsimp only
    rw [if_pos (by rw [List.length_map]; show 1 + xs.length ≤ 16777216; omega)]
    rfl
  simp [ht, hb, tr, h2, wipeE, unwipe, cat]
  rfl
theorem plain_ok : ∀ (n : Nat) (d : D), pok n d = true → m__law_plain (n + 1) [.im d] = .ok (pl n d) [.un]
  | n, .int i, _ => by
    show fnM 1 [] 1 (g__law_plain (m__law_plain n)) [.im (.int i)] = _
    rw [p_fn1]
    unfold g__law_plain
    have t1 : dIsi ["tuple", "list"] (.int i) = some (.bl false) := rfl
    have t2 : dIsi ["bool"] (.int i) = some (.bl false) := rfl
    have t3 : dIsi ["int", "str"] (.int i) = some (.bl true) := rfl
    have t4 : dIsi ["str"] (.int i) = some (.bl false) := rfl
    have t5 : dIsN (.int i) .non = some (.bl false) := rfl
    have tr : truD (.bl true) = some true := rfl
    have fl : truD (.bl false) = some false := rfl
    simp [t1, t2, t3, t4, t5, tr, fl]
    exact ⟨by cases n <;> rfl, rfl⟩
  | n, .str s, _ => by
    show fnM 1 [] 1 (g__law_plain (m__law_plain n)) [.im (.str s)] = _
    rw [p_fn1]
    unfold g__law_plain
    have t1 : dIsi ["tuple", "list"] (.str s) = some (.bl false) := rfl
    have t2 : dIsi ["bool"] (.str s) = some (.bl false) := rfl
    have t3 : dIsi ["int", "str"] (.str s) = some (.bl true) := rfl
    have t4 : dIsi ["str"] (.str s) = some (.bl true) := rfl
    have t5 : dIsN (.str s) .non = some (.bl false) := rfl
    have tr : truD (.bl true) = some true := rfl
    have fl : truD (.bl false) = some false := rfl
    simp [t1, t2, t3, t4, t5, tr, fl]
    exact ⟨by cases n <;> rfl, rfl⟩
  | n, .bl b, _ => by cases n <;> cases b <;> rfl
  | n, .non, _ => by cases n <;> rfl
  | n + 1, .tup xs, h => plain_seq (b := false) (plain_ok n) h rfl rfl rfl
  | n + 1, .lst xs, h => plain_seq (b := true) (plain_ok n) h rfl rfl rfl
  | 0, .tup _, h => nomatch h
  | 0, .lst _, h => nomatch h
  | 0, .scr _, h => nomatch h
  | 0, .ins _ _, h => nomatch h
  | _ + 1, .scr _, h => nomatch h
  | _ + 1, .ins _ _, h => nomatch h
theorem ok_str (n : Nat) (s : Str) : D.ok n (.str s) = PyData.strOk s := by cases n <;> rfl
theorem pl_ok : ∀ (n : Nat) (d : D), pok n d = true → D.ok (n + 1) (pl n d) = true
  | n, .int i, _ => by cases n <;> rfl
  | n, .str s, h => by
    have h0 : PyData.strOk s = true := by cases n <;> exact h
    have e : pl n (.str s) = .lst [.bl true, .str s] := by cases n <;> rfl
    rw [e]
    show ([.bl true, .str s] : List D).all (D.ok n) = true
    rw [List.all_cons, List.all_cons, List.all_nil, ok_str, h0, Bool.and_true, Bool.and_true]
    cases n <;> rfl
  | n, .bl b, _ => by
    have e : pl n (.bl b) = .str (if b then "True" else "False") := by cases n <;> rfl
    rw [e, ok_str]
    cases b <;> decide +kernel
  | n, .non, _ => by
    have e : pl n .non = .str "None" := by cases n <;> rfl
    rw [e, ok_str]
    decide +kernel
  | n + 1, .tup xs, h => by
    have h := (Bool.and_eq_true_iff.mp h).1
    simp only [pl, D.ok, List.all_cons, Bool.true_and, List.all_map, List.all_eq_true] at h ⊢
    exact fun x hx => pl_ok n x (h x hx)
  | n + 1, .lst xs, h => by
    have h := (Bool.and_eq_true_iff.mp h).1
    simp only [pl, D.ok, List.all_cons, Bool.true_and, List.all_map, List.all_eq_true] at h ⊢
    exact fun x hx => pl_ok n x (h x hx)
  | 0, .tup _, h => nomatch h
  | 0, .lst _, h => nomatch h
  | 0, .scr _, h => nomatch h
  | 0, .ins _ _, h => nomatch h
  | _ + 1, .scr _, h => nomatch h
  | _ + 1, .ins _ _, h => nomatch h
theorem same_ok {d : D} (h : pok 19 d = true) : m__law_same [.im d, .im d] = .ok (.bl true) [.un, .un] := by
  have q : cal 1 (m__law_plain 20) [.im d] = .ok (pl 19 d) [.un] := cal_ok (plain_ok 19 d h) rfl
  unfold m__law_same g__law_same
  rw [p_fn2]
  simp [q, p_eq_self (D.ok_mono 20 60 _ (by decide) (pl_ok 19 d h))]
  rfl
end K00
namespace K00
open PySem VL
/-! _law_part and what stands on it -/
theorem part_ok {a b : Int} (hb : 0 < b) (h : sm 199 b) : m__law_part [.im (.int a), .im (.int b)] = .ok (red a b) [.un, .un] := by
  have hb0 : b ≠ 0 := by omega
  have q : cal 2 m__law_divisor [.im (.int a), .im (.int b)] = .ok (.int (Int.gcd a b : Nat)) [.un, .un] := cal_ok (dv_ok h) rfl
  have g0 := gcd_pos (a := a) hb0
  have g1 := gcd_leR (a := a) hb0
  have gb : bits (Int.gcd a b : Int) < 9000 := by
    have : bits (Int.gcd a b : Int) < 199 + 1 := bits_le (by simp only [Int.natAbs_natCast]; exact Nat.lt_of_le_of_lt g1 h)
    omega
  have gz : (Int.gcd a b : Int) ≠ 0 := by omega
  have mx : max (1 : Int) (Int.gcd a b : Int) = (Int.gcd a b : Int) := by omega
  unfold m__law_part g__law_part
  rw [p_fn2]
  simp [q, mx, p_div gz gb]
  refine ⟨?_, rfl⟩
  unfold red fr
  rw [Int.sign_eq_one_of_pos hb, fd_dvd (Int.gcd_dvd_left a b), fd_dvd (Int.gcd_dvd_right a b), Int.one_mul, show ((b.natAbs : Nat) : Int) = b by omega]
theorem lplus_eq {a b c d : Int} (ha : sm 99 a) (hb : sm 99 b) (hc : sm 99 c) (hd : sm 99 d) (h0 : 0 < b) (h1 : 0 < d) : m__law_plus [.im (fr a b), .im (fr c d)] = .ok (red (a * d + c * b) (b * d)) [.un, .un] := by
  have q : cal 2 m__law_part [.im (.int (a * d + c * b)), .im (.int (b * d))] = .ok (red (a * d + c * b) (b * d)) [.un, .un] := cal_ok (part_ok (Int.mul_pos h0 h1) (sm_mono (sm_mul hb hd) (by decide))) rfl
  unfold m__law_plus g__law_plus
  rw [p_fn2]
  simp [ix0, ix1, mul_sm ha hd, mul_sm hc hb, mul_sm hb hd, q]
  rfl
theorem ltimes_eq {a b c d : Int} (ha : sm 99 a) (hb : sm 99 b) (hc : sm 99 c) (hd : sm 99 d) (h0 : 0 < b) (h1 : 0 < d) : m__law_times [.im (fr a b), .im (fr c d)] = .ok (red (a * c) (b * d)) [.un, .un] := by
  have q : cal 2 m__law_part [.im (.int (a * c)), .im (.int (b * d))] = .ok (red (a * c) (b * d)) [.un, .un] := cal_ok (part_ok (Int.mul_pos h0 h1) (sm_mono (sm_mul hb hd) (by decide))) rfl
  unfold m__law_times g__law_times
  rw [p_fn2]
  simp [ix0, ix1, mul_sm ha hc, mul_sm hb hd, q]
  rfl
theorem lminus_eq {a b c d : Int} (ha : sm 99 a) (hb : sm 99 b) (hc : sm 99 c) (hd : sm 99 d) (h0 : 0 < b) (h1 : 0 < d) : m__law_minus [.im (fr a b), .im (fr c d)] = .ok (red (a * d - c * b) (b * d)) [.un, .un] := by
  have q : cal 2 m__law_plus [.im (fr a b), .im (fr (-c) d)] = .ok (red (a * d + -c * b) (b * d)) [.un, .un] := cal_ok (lplus_eq ha hb (sm_neg hc) hd h0 h1) rfl
  have e : a * d + -c * b = a * d - c * b := by rw [Int.neg_mul]; rfl
  rw [e] at q
  unfold m__law_minus g__law_minus
  rw [p_fn2]
  have q2 : cal 2 m__law_plus [.im (fr a b), .im (.tup [.int (-c), .int d])] = .ok (red (a * d - c * b) (b * d)) [.un, .un] := q
  simp [ix0, ix1, q2]
  rfl
/-! the deck -/
def dk (ds : List Int) : Cell := .ml (ds.map D.int)
theorem take_ok (ds : List Int) {m : Int} (hm : 0 < m) : ∃ r ds', 0 ≤ r ∧ r < m ∧ m__law_take [dk ds, .im (.int m)] = .ok (.int r) [dk ds', .un] := by
  rcases List.eq_nil_or_concat ds with rfl | ⟨l, x, rfl⟩
  · refine ⟨0, [], Int.le_refl _, hm, ?_⟩
    unfold m__law_take g__law_take dk
    rw [p_fn2]
    simp [eLenV]
    rfl
  · refine ⟨x.fmod m, l, Int.fmod_nonneg_of_pos _ hm, Int.fmod_lt_of_pos _ hm, ?_⟩
    unfold m__law_take g__law_take dk
    rw [p_fn2]
    simp [eLenV, ePop, p_mod (show m ≠ 0 by omega), show ¬ ((l.length : Int) + 1 = 0) by omega]
    rfl
/-- a call of it -/
theorem take_call {ds : List Int} {i : Nat} {δ : VL.Env} {m : Int} (hm : 0 < m) (h : δ[i]? = some (dk ds)) : ∃ r ds', 0 ≤ r ∧ r < m ∧ eCall (cal 2 m__law_take) (aMutV i (aCons (eC (.int m)) aNil)) δ = .ok (.int r) (δ.set i (dk ds')) := by
  obtain ⟨r, ds', h1, h2, h3⟩ := take_ok ds hm
  refine ⟨r, ds', h1, h2, ?_⟩
  have q := cal_ok h3 (n := 2) rfl
  have a : argCell δ (.inr i) = some (dk ds) := by
    unfold argCell
    dsimp only
    rw [h]
    rfl
  have h' : δ[i]? = some (.ml (ds.map D.int)) := h
  rw [p_call, p_aMutV, h']
  simp [p_callR1 a, q]
/-- a number of the law's: not too great -/
theorem number_ok (ds : List Int) : ∃ r ds', sm 99 r ∧ m__law_number [dk ds] = .ok (.int r) [dk ds'] := by
  obtain ⟨w, d1, w0, w1, hw⟩ := take_call (ds := ds) (i := 0) (δ := [dk ds, .un, .un]) (m := 4) (by decide) rfl
  obtain ⟨s, d2, s0, s1, hs⟩ := take_call (ds := d1) (i := 0) (δ := [dk d1, .im (.int w), .un]) (m := 25) (by decide) rfl
  obtain ⟨t, d3, t0, t1, ht⟩ := take_call (ds := d2) (i := 0) (δ := [dk d2, .im (.int w), .im (.int (s - 12))]) (m := 1000) (by decide) rfl
  obtain ⟨u, d4, u0, u1, hu⟩ := take_call (ds := d2) (i := 0) (δ := [dk d2, .im (.int w), .im (.int (s - 12))]) (m := 1000000) (by decide) rfl
  simp only [List.set_cons_zero] at hw hs ht hu
  unfold m__law_number g__law_number
  rw [p_fn1]
  have st : [dk ds] ++ List.replicate 2 .un = [dk ds, .un, .un] := rfl
  rw [st]
  have pw : dPow (.int 10) (.int 27) = some (.int 1000000000000000000000000000) := by
    unfold dPow
    dsimp only
    rw [if_pos (by decide)]
    rfl
  by_cases c0 : w = 0
  · subst c0
    refine ⟨s - 12, d2, by unfold sm; omega, ?_⟩
    simp [hw, hs, -p_call, -p_aMutV]
    rfl
  by_cases c1 : w = 1
  · subst c1
    refine ⟨(t - 500) * 1000000000000000000000000000 + (s - 12), d3, by unfold sm; omega, ?_⟩
    have ml : dMul (.int (t - 500)) (.int 1000000000000000000000000000) = some (.int ((t - 500) * 1000000000000000000000000000)) := mul_sm (k := 20) (l := 100) (by unfold sm; omega) (by unfold sm; decide)
    simp [hw, hs, ht, pw, ml, -p_call, -p_aMutV]
    rfl
  by_cases c2 : w = 2
  · subst c2
    refine ⟨if s < 12 then 0 else 12 * (s - 12), d2, by unfold sm; split <;> omega, ?_⟩
    have ml : dMul (.int 12) (.int (s - 12)) = some (.int (12 * (s - 12))) := mul_sm (k := 20) (l := 100) (by unfold sm; decide) (by unfold sm; omega)
    by_cases c3 : s < 12
    · have c4 : s - 12 < 0 := by omega
      simp [hw, hs, c3, c4, -p_call, -p_aMutV]
      rfl
    · have c4 : ¬ s - 12 < 0 := by omega
      simp [hw, hs, c3, c4, ml, -p_call, -p_aMutV]
      rfl
  · refine ⟨u - 500000, d4, by unfold sm; omega, ?_⟩
    simp [hw, hs, hu, c0, c1, c2, -p_call, -p_aMutV]
    rfl
end K00
namespace K00
open PySem VL
theorem app_ok {i : Nat} {m : M D} {δ : VL.Env} {ds : List Int} {x : Int} (h : δ[i]? = some (dk ds)) (hm : m δ = .ok (.int x) δ) (hl : ds.length < 1000000) : gApp i m δ = .nx (δ.set i (dk (ds ++ [x]))) := by
  have h' : δ[i]? = some (.ml (ds.map D.int)) := h
  unfold gApp
  rw [h']
  simp only [p_of, hm]
  rw [h']
  simp only [List.length_map]
  rw [if_pos (Nat.lt_trans hl (by show 1000000 < _; decide))]
  unfold dk
  rw [List.map_append]
  rfl
/-- what the deck's loops walk: small numbers from nought -/
def isK (d : D) : Prop := ∃ k : Nat, d = .int k ∧ k < 1000000
theorem range_isK {n : Nat} (h : n ≤ 1000000) : ∀ d ∈ rangeD 0 n, isK d := fun d hd => by
  unfold rangeD at hd
  obtain ⟨i, hi, rfl⟩ := List.mem_map.mp hd
  exact ⟨i, by simp, by have := List.mem_range.mp hi; omega⟩
/-- the inner loop of a great cell -/
theorem in_great {T : Nat} (a b c e f g : Cell) (hT : T ≤ 1000000) : ∀ (rest : List D) (δ : VL.Env), ((∃ (ds : List Int) (r : Int) (w : Cell), δ = [a, b, c, dk ds, e, f, g, .im (.int r), w] ∧ ds.length + rest.length ≤ T)) →
    ∃ δ', gForGo (tgName 8) (gSeq (gApp 3 (e2 dMod (e1 dInt (eVar 7)) (eC (.int 1000003)))) (gSet 7 (e2 dDiv (eVar 7) (eC (.int 1000003))))) rest δ = .nx δ' ∧ ∃ (ds : List Int) (r : Int) (w : Cell), δ' = [a, b, c, dk ds, e, f, g, .im (.int r), w] ∧ ds.length + ([] : List D).length ≤ T :=
  for_inv (fun rest δ => ∃ (ds : List Int) (r : Int) (w : Cell), δ = [a, b, c, dk ds, e, f, g, .im (.int r), w] ∧ ds.length + rest.length ≤ T) fun d rest δ ⟨ds, r, w, e1, hl⟩ => by
    subst e1
    rw [List.length_cons] at hl
    have h1 := app_ok (i := 3) (m := e2 dMod (e1 dInt (eVar 7)) (eC (.int 1000003))) (δ := [a, b, c, dk ds, e, f, g, .im (.int r), .im d]) (ds := ds) (x := r.fmod 1000003) rfl (by simp [p_mod (show (1000003 : Int) ≠ 0 by decide)]) (by omega)
    refine ⟨[a, b, c, dk ds, e, f, g, .im (.int r), .im d], [a, b, c, dk (ds ++ [r.fmod 1000003]), e, f, g, .im (.int (r.fdiv 1000003)), .im d], rfl, ?_, ds ++ [r.fmod 1000003], _, _, rfl, by rw [List.length_append, List.length_singleton]; omega⟩
    have bd : bits 1000003 < 9000 := by decide
    simp [h1, p_div (show (1000003 : Int) ≠ 0 by decide) bd]
theorem in_small {T : Nat} (a b c f g r : Cell) (hT : T ≤ 1000000) : ∀ (rest : List D) (δ : VL.Env), ((∃ (ds : List Int) (s : Int) (w : Cell), δ = [a, b, c, dk ds, .im (.int s), f, g, r, w] ∧ ds.length + rest.length ≤ T ∧ sm 40 s ∧ ∀ d ∈ rest, isK d)) →
    ∃ δ', gForGo (tgName 8) (gSeq (gSet 4 (e2 dMod (e1 dInt (e2 dAdd (e2 dAdd (e2 dMul (eVar 4) (eC (.int 69621))) (eVar 8)) (eC (.int 1)))) (eC (.int 2147483629)))) (gApp 3 (e2 dMod (e1 dInt (e2 dDiv (eVar 4) (eC (.int 7)))) (eC (.int 1000003))))) rest δ = .nx δ' ∧
      ∃ (ds : List Int) (s : Int) (w : Cell), δ' = [a, b, c, dk ds, .im (.int s), f, g, r, w] ∧ ds.length + ([] : List D).length ≤ T ∧ sm 40 s ∧ ∀ d ∈ ([] : List D), isK d :=
  for_inv (fun rest δ => ∃ (ds : List Int) (s : Int) (w : Cell), δ = [a, b, c, dk ds, .im (.int s), f, g, r, w] ∧ ds.length + rest.length ≤ T ∧ sm 40 s ∧ ∀ d ∈ rest, isK d) fun d rest δ ⟨ds, s, w, e1, hl, hs, hk⟩ => by
    subst e1
    rw [List.length_cons] at hl
    obtain ⟨k, rfl, hk1⟩ := hk d List.mem_cons_self
    have ml : dMul (.int s) (.int 69621) = some (.int (s * 69621)) := mul_sm (k := 40) (l := 20) hs (by unfold sm; decide)
    have md := p_mod (i := s * 69621 + k + 1) (show (2147483629 : Int) ≠ 0 by decide)
    have b1 : 0 ≤ (s * 69621 + k + 1).fmod 2147483629 := Int.fmod_nonneg_of_pos _ (by decide)
    have b2 : (s * 69621 + k + 1).fmod 2147483629 < 2147483629 := Int.fmod_lt_of_pos _ (by decide)
    generalize (s * 69621 + k + 1).fmod 2147483629 = s' at md b1 b2
    have bd : bits 7 < 9000 := by decide
    have h1 := app_ok (i := 3) (m := e2 dMod (e1 dInt (e2 dDiv (eVar 4) (eC (.int 7)))) (eC (.int 1000003))) (δ := [a, b, c, dk ds, .im (.int s'), f, g, r, .im (.int k)]) (ds := ds) (x := (s'.fdiv 7).fmod 1000003) rfl (by simp [p_mod (show (1000003 : Int) ≠ 0 by decide), p_div (show (7 : Int) ≠ 0 by decide) bd]) (by omega)
    refine ⟨[a, b, c, dk ds, .im (.int s), f, g, r, .im (.int k)], [a, b, c, dk (ds ++ [(s'.fdiv 7).fmod 1000003]), .im (.int s'), f, g, r, .im (.int k)], rfl, ?_, _, _, _, rfl, by rw [List.length_append, List.length_singleton]; omega, by unfold sm; omega, fun d hd => hk d (List.mem_cons_of_mem _ hd)⟩
    simp [ml, md, h1]
end K00
namespace K00
open PySem VL
def outerB : SF := (gSeq (gSet 6 (eC (.int 0)))
  (gSeq (gIf (tVal (e2 dLt (eVar 5) (e1 dLen (eVar 0)))) (gSet 6 (e2 dIx (eVar 0) (eVar 5))) gNext)
  (gSeq (gSet 7 (e1 dAbs (eVar 6)))
  (gIf (tVal (e2 dGe (eVar 7) (e2 dPow (eC (.int 10)) (eC (.int 30))))) (gFor (tgName 8) (iRange1 (eVar 2)) (gSeq (gApp 3 (e2 dMod (e1 dInt (eVar 7)) (eC (.int 1000003))))
  (gSet 7 (e2 dDiv (eVar 7) (eC (.int 1000003)))))) (gSeq (gSet 4 (e2 dMod (e1 dInt (e2 dAdd (e2 dAdd (e2 dAdd (e2 dMul (eVar 4) (eC (.int 48271))) (e2 dMul (eC (.int 3)) (eVar 7))) (e1 dInt (e2 dLt (eVar 6) (eC (.int 0))))) (eVar 5))) (eC (.int 2147483647))))
  (gFor (tgName 8) (iRange1 (eVar 2)) (gSeq (gSet 4 (e2 dMod (e1 dInt (e2 dAdd (e2 dAdd (e2 dMul (eVar 4) (eC (.int 69621))) (eVar 8)) (eC (.int 1)))) (eC (.int 2147483629))))
  (gApp 3 (e2 dMod (e1 dInt (e2 dDiv (eVar 4) (eC (.int 7)))) (eC (.int 1000003))))))))))) 
theorem scr_ix (ns : List Int) {k : Nat} (h : k < ns.length) : dIx (.scr (ns.map D.int)) (.int k) = some (.int ns[k]) := by
  unfold dIx L2.atI L2.ixN
  simp [h]
/-- what stands between two turns of the outer loop -/
def OI (ns : List Int) (cells : Cell) (each T : Nat) (rest : List D) (δ : VL.Env) : Prop := ∃ (ds : List Int) (s : Int) (c5 c6 c7 c8 : Cell), δ = [.im (.scr (ns.map D.int)), cells, .im (.int each), dk ds, .im (.int s), c5, c6, c7, c8] ∧ ds.length + each * rest.length ≤ T ∧ sm 40 s ∧ ∀ d ∈ rest, isK d
theorem outer_step {ns : List Int} {cells : Cell} {each T : Nat} (hT : T ≤ 1000000) (he : each < 1000000) (d : D) (rest : List D) (δ : VL.Env) (h : OI ns cells each T (d :: rest) δ) : ∃ δ1 δ2, tgName 5 d δ = some δ1 ∧ outerB δ1 = .nx δ2 ∧ OI ns cells each T rest δ2 := by
  obtain ⟨ds, s, c5, c6, c7, c8, rfl, hl, hs, hk⟩ := h
  obtain ⟨k, rfl, hk1⟩ := hk d List.mem_cons_self
  have hk' : ∀ d ∈ rest, isK d := fun d hd => hk d (List.mem_cons_of_mem _ hd)
  refine ⟨[.im (.scr (ns.map D.int)), cells, .im (.int each), dk ds, .im (.int s), .im (.int k), c6, c7, c8], ?_⟩
  rw [List.length_cons, Nat.mul_add, Nat.mul_one] at hl
  -- the cell
  obtain ⟨x, hx⟩ : ∃ x : Int, gSeq (gSet 6 (eC (.int 0))) (gIf (tVal (e2 dLt (eVar 5) (e1 dLen (eVar 0)))) (gSet 6 (e2 dIx (eVar 0) (eVar 5))) gNext) [.im (.scr (ns.map D.int)), cells, .im (.int each), dk ds, .im (.int s), .im (.int k), c6, c7, c8] =
      .nx [.im (.scr (ns.map D.int)), cells, .im (.int each), dk ds, .im (.int s), .im (.int k), .im (.int x), c7, c8] := by
    by_cases hkl : k < ns.length
    · refine ⟨ns[k], ?_⟩
      have l1 : dLen (.scr (ns.map D.int)) = some (.int ns.length) := by show some (D.int ((ns.map D.int).length : Nat)) = _; rw [List.length_map]
      simp [l1, scr_ix ns hkl, hkl]
    · refine ⟨0, ?_⟩
      have l1 : dLen (.scr (ns.map D.int)) = some (.int ns.length) := by show some (D.int ((ns.map D.int).length : Nat)) = _; rw [List.length_map]
      simp [l1, hkl]
  have pw : dPow (.int 10) (.int 30) = some (.int 1000000000000000000000000000000) := by
    unfold dPow
    dsimp only
    rw [if_pos (by decide)]
    rfl
  have rg : rng1 (.int each) = some (rangeD 0 each) := p_rng he
  have as1 : ∀ (h1 : SF) (δ : VL.Env) , gSeq (gSet 6 (eC (.int 0))) (gSeq (gIf (tVal (e2 dLt (eVar 5) (e1 dLen (eVar 0)))) (gSet 6 (e2 dIx (eVar 0) (eVar 5))) gNext) h1) δ = gSeq (gSeq (gSet 6 (eC (.int 0))) (gIf (tVal (e2 dLt (eVar 5) (e1 dLen (eVar 0)))) (gSet 6 (e2 dIx (eVar 0) (eVar 5))) gNext)) h1 δ := fun h1 δ => by
    unfold gSeq
    cases gSet 6 (eC (.int 0)) δ <;> rfl
  by_cases hg : x.natAbs ≥ 1000000000000000000000000000000
  · obtain ⟨δ', h1, ds', r, w, rfl, hl'⟩ := in_great (T := T - each * rest.length) (.im (.scr (ns.map D.int))) cells (.im (.int each)) (.im (.int s)) (.im (.int k)) (.im (.int x)) (by omega) (rangeD 0 each) [.im (.scr (ns.map D.int)), cells, .im (.int each), dk ds, .im (.int s), .im (.int k), .im (.int x), .im (.int x.natAbs), c8] ⟨ds, _, _, rfl, by rw [rangeD_len]; omega⟩
    refine ⟨[.im (.scr (ns.map D.int)), cells, .im (.int each), dk ds', .im (.int s), .im (.int k), .im (.int x), .im (.int r), w], rfl, ?_, ds', s, _, _, _, _, rfl, by rw [List.length_nil] at hl'; omega, hs, hk'⟩
    unfold outerB
    rw [as1]
    have hx2 := hx
    have hg' : (1000000000000000000000000000000 : Int) ≤ x.natAbs := by omega
    simp only [List.set_cons_succ, List.set_cons_zero, p_seq] at hx2 ⊢
    rw [hx2]
    simp [pw, hg', rg, h1]
  · have ml : dMul (.int s) (.int 48271) = some (.int (s * 48271)) := mul_sm (k := 40) (l := 20) hs (by unfold sm; decide)
    have m3 : dMul (.int 3) (.int x.natAbs) = some (.int (3 * x.natAbs)) := mul_sm (k := 40) (l := 100) (by unfold sm; decide) (by unfold sm; omega)
    have b1 : ∀ z : Int, 0 ≤ z.fmod 2147483647 := fun z => Int.fmod_nonneg_of_pos _ (by decide)
    have b2 : ∀ z : Int, z.fmod 2147483647 < 2147483647 := fun z => Int.fmod_lt_of_pos _ (by decide)
    have key : ∃ s', sm 40 s' ∧ gSet 4 (e2 dMod (e1 dInt (e2 dAdd (e2 dAdd (e2 dAdd (e2 dMul (eVar 4) (eC (.int 48271))) (e2 dMul (eC (.int 3)) (eVar 7))) (e1 dInt (e2 dLt (eVar 6) (eC (.int 0))))) (eVar 5))) (eC (.int 2147483647))) [.im (.scr (ns.map D.int)), cells, .im (.int each), dk ds, .im (.int s), .im (.int k), .im (.int x), .im (.int x.natAbs), c8] =
        .nx [.im (.scr (ns.map D.int)), cells, .im (.int each), dk ds, .im (.int s'), .im (.int k), .im (.int x), .im (.int x.natAbs), c8] := by
      refine ⟨(s * 48271 + 3 * x.natAbs + (if decide (x < 0) then 1 else 0) + k).fmod 2147483647, by have := b1 (s * 48271 + 3 * x.natAbs + (if decide (x < 0) then 1 else 0) + k); have := b2 (s * 48271 + 3 * x.natAbs + (if decide (x < 0) then 1 else 0) + k); unfold sm; omega, ?_⟩
      simp [ml, m3, p_mod (show (2147483647 : Int) ≠ 0 by decide)]
    obtain ⟨s', hs', hset⟩ := key
    obtain ⟨δ', h1, ds', s2, w, rfl, hl', hs2, _⟩ := in_small (T := T - each * rest.length) (.im (.scr (ns.map D.int))) cells (.im (.int each)) (.im (.int k)) (.im (.int x)) (.im (.int x.natAbs)) (by omega) (rangeD 0 each) [.im (.scr (ns.map D.int)), cells, .im (.int each), dk ds, .im (.int s'), .im (.int k), .im (.int x), .im (.int x.natAbs), c8] ⟨ds, _, _, rfl, by rw [rangeD_len]; omega, hs', range_isK (by omega)⟩
    refine ⟨[.im (.scr (ns.map D.int)), cells, .im (.int each), dk ds', .im (.int s2), .im (.int k), .im (.int x), .im (.int x.natAbs), w], rfl, ?_, ds', s2, _, _, _, _, rfl, by rw [List.length_nil] at hl'; omega, hs2, hk'⟩
    unfold outerB
    rw [as1]
    have hx2 := hx
    have hg' : ¬ (1000000000000000000000000000000 : Int) ≤ x.natAbs := by omega
    simp only [List.set_cons_succ, List.set_cons_zero, p_seq] at hx2 ⊢
    rw [hx2]
    have hab : gSet 7 (e1 dAbs (eVar 6)) [.im (.scr (ns.map D.int)), cells, .im (.int each), dk ds, .im (.int s), .im (.int k), .im (.int x), c7, c8] = .nx [.im (.scr (ns.map D.int)), cells, .im (.int each), dk ds, .im (.int s), .im (.int k), .im (.int x), .im (.int x.natAbs), c8] := by simp
    simp [pw, hg', rg, hab, hset, h1, -p_set]
end K00
namespace K00
open PySem VL
theorem deck_loop (ns : List Int) (cells each : Nat) (hc : cells < 1000000) (he : each < 1000000) (hT : each * cells ≤ 1000000) (hn : ns.length < 1000000) :
    ∃ δ', gForGo (tgName 5) outerB (rangeD 0 cells) [.im (.scr (ns.map D.int)), .im (.int cells), .im (.int each), dk [], .im (.int (11 + ns.length)), .un, .un, .un, .un] = .nx δ' ∧ OI ns (.im (.int cells)) each (each * cells) [] δ' :=
  for_inv (OI ns (.im (.int cells)) each (each * cells)) (fun d rest δ h => outer_step hT he d rest δ h) (rangeD 0 cells) [.im (.scr (ns.map D.int)), .im (.int cells), .im (.int each), dk [], .im (.int (11 + ns.length)), .un, .un, .un, .un]
    ⟨[], _, _, _, _, _, rfl, by rw [rangeD_len, List.length_nil, Nat.zero_add]; exact Nat.le_refl _, by unfold sm; omega, range_isK (by omega)⟩
theorem dk_t1 (a b c d e f g h i : Cell) : gSetM 3 (nLst asNil) [a, b, c, d, e, f, g, h, i] = .nx [a, b, c, .ml [], e, f, g, h, i] := by simp
theorem dk_t2 (ns : List Int) (b c d e f g h i : Cell) : gSet 4 (e2 dAdd (eC (.int 11)) (e1 dLen (eVar 0))) [.im (.scr (ns.map D.int)), b, c, d, e, f, g, h, i] = .nx [.im (.scr (ns.map D.int)), b, c, d, .im (.int (11 + ns.length)), f, g, h, i] := by
  have l1 : dLen (.scr (ns.map D.int)) = some (.int ns.length) := by show some (D.int ((ns.map D.int).length : Nat)) = _; rw [List.length_map]
  simp [l1]
theorem dk_t3 (ds : List Int) (a b c e f g h i : Cell) : gSeq (gRev 3) (gRetM 3) [a, b, c, .ml (ds.map D.int), e, f, g, h, i] = .rn (ds.reverse.map D.int) [a, b, c, .un, e, f, g, h, i] := by
  simp [gRev, gRetM]
theorem dk_t4 (ns : List Int) (cells each : Nat) (hc : cells < 1000000) (d e f g h i : Cell) : iRange1 (eVar 1) [.im (.scr (ns.map D.int)), .im (.int cells), .im (.int each), d, e, f, g, h, i] = .ok (rangeD 0 cells) [.im (.scr (ns.map D.int)), .im (.int cells), .im (.int each), d, e, f, g, h, i] := by
  have rg : rng1 (.int cells) = some (rangeD 0 cells) := p_rng hc
  rw [p_rng1, p_var]
  show lift (rng1 (.int cells)) _ = _
  rw [rg]
  rfl
theorem seq_nx {g h : SF} {δ δ' : VL.Env} (e : g δ = .nx δ') : gSeq g h δ = h δ' := by rw [p_seq, e]
theorem for_of {γ : GD} {m : M (List D)} {b : SF} {δ δ' : VL.Env} {ds : List D} (e : m δ = .ok ds δ') : gFor γ m b δ = gForGo γ b ds δ' := by rw [p_for, e]
theorem deck_body (ns : List Int) (cells each : Nat) (ds : List Int) (s : Int) (c5 c6 c7 c8 : Cell) (hc : cells < 1000000)
    (h1 : gForGo (tgName 5) outerB (rangeD 0 cells) [.im (.scr (ns.map D.int)), .im (.int cells), .im (.int each), .ml [], .im (.int (11 + ns.length)), .un, .un, .un, .un] = .nx [.im (.scr (ns.map D.int)), .im (.int cells), .im (.int each), .ml (ds.map D.int), .im (.int s), c5, c6, c7, c8]) :
    gSeq (gSetM 3 (nLst asNil)) (gSeq (gSet 4 (e2 dAdd (eC (.int 11)) (e1 dLen (eVar 0)))) (gSeq (gFor (tgName 5) (iRange1 (eVar 1)) outerB) (gSeq (gRev 3) (gRetM 3)))) [.im (.scr (ns.map D.int)), .im (.int cells), .im (.int each), .un, .un, .un, .un, .un, .un] = .rn (ds.reverse.map D.int) [.im (.scr (ns.map D.int)), .im (.int cells), .im (.int each), .un, .im (.int s), c5, c6, c7, c8] :=
  (seq_nx (dk_t1 _ _ _ _ _ _ _ _ _)).trans ((seq_nx (dk_t2 ns _ _ _ _ _ _ _ _)).trans ((seq_nx ((for_of (dk_t4 ns cells each hc _ _ _ _ _ _)).trans h1)).trans (dk_t3 ds _ _ _ _ _ _ _ _)))
theorem deck_is : g__law_deck = gSeq (gSetM 3 (nLst asNil)) (gSeq (gSet 4 (e2 dAdd (eC (.int 11)) (e1 dLen (eVar 0)))) (gSeq (gFor (tgName 5) (iRange1 (eVar 1)) outerB) (gSeq (gRev 3) (gRetM 3)))) := by
  unfold g__law_deck outerB
  rfl
theorem deck_g (ns : List Int) (cells each : Nat) (ds : List Int) (s : Int) (c5 c6 c7 c8 : Cell) (hc : cells < 1000000)
    (h1 : gForGo (tgName 5) outerB (rangeD 0 cells) [.im (.scr (ns.map D.int)), .im (.int cells), .im (.int each), .ml [], .im (.int (11 + ns.length)), .un, .un, .un, .un] = .nx [.im (.scr (ns.map D.int)), .im (.int cells), .im (.int each), .ml (ds.map D.int), .im (.int s), c5, c6, c7, c8]) :
    g__law_deck [.im (.scr (ns.map D.int)), .im (.int cells), .im (.int each), .un, .un, .un, .un, .un, .un] = .rn (ds.reverse.map D.int) [.im (.scr (ns.map D.int)), .im (.int cells), .im (.int each), .un, .im (.int s), c5, c6, c7, c8] := by
  rw [deck_is]
  exact deck_body ns cells each ds s c5 c6 c7 c8 hc h1
theorem deck_c1 (ns : List Int) (cells each : Nat) : ([.im (.scr (ns.map D.int)), .im (.int cells), .im (.int each)] : VL.Env).length = 3 ∧ ((List.range 3).all fun j => !isMu (([.im (.scr (ns.map D.int)), .im (.int cells), .im (.int each)] : VL.Env).getD j .un) || decide (j ∈ ([] : List Nat))) = true := ⟨rfl, rfl⟩
theorem fnN_ok {n m : Nat} {P : List Nat} {g : SF} {cs δ' : VL.Env} {xs : List D} (h : g (cs ++ List.replicate m .un) = .rn xs δ') (hl : cs.length = n ∧ ((List.range n).all fun j => !isMu (cs.getD j .un) || decide (j ∈ P)) = true) (hP : (P.all fun j => isMu (δ'.getD j .un)) = true) : fnN n P m g cs = .ok xs (outs P n δ') := by
  unfold fnN
  rw [if_pos hl, h]
  dsimp only
  rw [if_pos hP]
theorem deck_c2 (ns : List Int) (cells each : Nat) (e : VL.Env) (xs : List D) (h : g__law_deck [.im (.scr (ns.map D.int)), .im (.int cells), .im (.int each), .un, .un, .un, .un, .un, .un] = .rn xs e) : m__law_deck [.im (.scr (ns.map D.int)), .im (.int cells), .im (.int each)] = .ok xs [.un, .un, .un] :=
  fnN_ok (cs := [.im (.scr (ns.map D.int)), .im (.int cells), .im (.int each)]) h (deck_c1 ns cells each) rfl
theorem deck_c3 (ns : List Int) (cells each : Nat) (hc : cells < 1000000) (he : each < 1000000) (hT : each * cells ≤ 1000000) (hn : ns.length < 1000000) : ∃ (ds : List Int) (s : Int) (c5 c6 c7 c8 : Cell), gForGo (tgName 5) outerB (rangeD 0 cells) [.im (.scr (ns.map D.int)), .im (.int cells), .im (.int each), .ml [], .im (.int (11 + ns.length)), .un, .un, .un, .un] = .nx [.im (.scr (ns.map D.int)), .im (.int cells), .im (.int each), .ml (ds.map D.int), .im (.int s), c5, c6, c7, c8] := by
  obtain ⟨δ', h1, ds, s, c5, c6, c7, c8, rfl, _⟩ := deck_loop ns cells each hc he hT hn
  exact ⟨ds, s, c5, c6, c7, c8, h1⟩
theorem deck_ok (ns : List Int) (cells each : Nat) (hc : cells < 1000000) (he : each < 1000000) (hT : each * cells ≤ 1000000) (hn : ns.length < 1000000) : ∃ ds : List Int, m__law_deck [.im (.scr (ns.map D.int)), .im (.int cells), .im (.int each)] = .ok (ds.map D.int) [.un, .un, .un] := by
  obtain ⟨ds, s, c5, c6, c7, c8, h1⟩ := deck_c3 ns cells each hc he hT hn
  exact ⟨ds.reverse, deck_c2 ns cells each _ _ (deck_g ns cells each ds s c5 c6 c7 c8 hc h1)⟩
end K00
namespace K00
open PySem VL
/-! fractions in lowest terms -/
structure Low (a b : Int) : Prop where
  pos : 0 < b
  cop : Int.gcd a b = 1
theorem gcd_abs {u v : Int} : Int.gcd u (v.natAbs : Int) = Int.gcd u v := by
  rw [Int.gcd_eq_natAbs_gcd_natAbs, Int.gcd_eq_natAbs_gcd_natAbs, Int.natAbs_natCast]
theorem dvd_cop {a b c : Int} (h : b ∣ a * c) (g : Int.gcd b a = 1) : b ∣ c := by
  have := Int.natAbs_dvd_natAbs.mpr h
  rw [Int.natAbs_mul] at this
  exact Int.natAbs_dvd_natAbs.mp (Nat.Coprime.dvd_of_dvd_mul_left (by rw [Nat.Coprime, ← Int.gcd_eq_natAbs_gcd_natAbs]; exact g) this)
theorem red_spec {x y : Int} (hy : y ≠ 0) : ∃ p q, red x y = fr p q ∧ Low p q ∧ p * y = x * q ∧ p.natAbs ≤ x.natAbs ∧ q.natAbs ≤ y.natAbs := by
  have g0 := gcd_pos (a := x) hy
  have hd := Int.gcd_dvd_left x y
  have hd' := Int.gcd_dvd_right x y
  generalize hg : Int.gcd x y = g at *
  obtain ⟨u, hu⟩ := hd
  obtain ⟨v, hv⟩ := hd'
  have gz : (g : Int) ≠ 0 := by omega
  have vz : v ≠ 0 := fun z => hy (by rw [hv, z, Int.mul_zero])
  have c : Int.gcd u v = 1 := by
    have e : Int.gcd (g * u) (g * v) = g * Int.gcd u v := by rw [Int.gcd_mul_left, Int.natAbs_natCast]
    rw [← hu, ← hv, hg] at e
    exact Nat.eq_of_mul_eq_mul_left g0 (by rw [Nat.mul_one]; exact e.symm)
  refine ⟨y.sign * u, v.natAbs, ?_, ⟨by omega, ?_⟩, ?_, ?_, ?_⟩
  · unfold red
    rw [hg]
    congr 1
    · rw [hu, ← Int.mul_assoc, Int.mul_comm y.sign, Int.mul_assoc, Int.mul_ediv_cancel_left _ gz]
    · rw [hv, Int.natAbs_mul, Int.natAbs_natCast, Int.natCast_mul, Int.mul_ediv_cancel_left _ gz]
  · rcases Int.lt_or_lt_of_ne hy with h | h
    · rw [Int.sign_eq_neg_one_of_neg h, Int.neg_one_mul, Int.neg_gcd, gcd_abs]; exact c
    · rw [Int.sign_eq_one_of_pos h, Int.one_mul, gcd_abs]; exact c
  · have hs : y.sign = v.sign := by rw [hv, Int.sign_mul, Int.sign_eq_one_of_pos (by omega), Int.one_mul]
    have hav : v.sign * v = v.natAbs := Int.sign_mul_self v
    rw [hs, hu, hv]
    calc v.sign * u * (g * v) = g * u * (v.sign * v) := by
          rw [Int.mul_comm v.sign u, Int.mul_assoc, Int.mul_left_comm v.sign, ← Int.mul_assoc, Int.mul_comm u]
      _ = g * u * v.natAbs := by rw [hav]
  · rw [Int.natAbs_mul, hu, Int.natAbs_mul, Int.natAbs_natCast, Int.natAbs_sign_of_ne_zero hy, Nat.one_mul]
    exact Nat.le_mul_of_pos_left _ g0
  · rw [Int.natAbs_natCast, hv, Int.natAbs_mul, Int.natAbs_natCast]
    exact Nat.le_mul_of_pos_left _ g0
theorem low_unique {a b p q : Int} (h : Low a b) (h' : Low p q) (e : p * b = a * q) : p = a ∧ q = b := by
  have h1 : b ∣ a * q := ⟨p, by rw [← e, Int.mul_comm]⟩
  have h2 : q ∣ p * b := ⟨a, by rw [e, Int.mul_comm]⟩
  have d1 : b ∣ q := dvd_cop h1 (by rw [Int.gcd_comm]; exact h.cop)
  have d2 : q ∣ b := dvd_cop h2 (by rw [Int.gcd_comm]; exact h'.cop)
  have eq : q = b := Int.le_antisymm (Int.le_of_dvd h.pos d2) (Int.le_of_dvd h'.pos d1)
  subst eq
  exact ⟨Int.eq_of_mul_eq_mul_right (by have := h.pos; omega) e, rfl⟩
theorem red_unique {x y a b : Int} (hy : y ≠ 0) (h : Low a b) (e : x * b = a * y) : red x y = fr a b := by
  obtain ⟨p, q, h1, h2, h3, _⟩ := red_spec (x := x) hy
  have k : p * b = a * q := by
    apply Int.eq_of_mul_eq_mul_right hy
    calc p * b * y = p * y * b := by rw [Int.mul_assoc, Int.mul_comm b, ← Int.mul_assoc]
      _ = x * q * b := by rw [h3]
      _ = x * b * q := by rw [Int.mul_assoc, Int.mul_comm q, ← Int.mul_assoc]
      _ = a * y * q := by rw [e]
      _ = a * q * y := by rw [Int.mul_assoc, Int.mul_comm y, ← Int.mul_assoc]
  obtain ⟨rfl, rfl⟩ := low_unique h h2 k
  exact h1
theorem red_same {x y x' y' : Int} (hy : y ≠ 0) (hy' : y' ≠ 0) (e : x * y' = x' * y) : red x y = red x' y' := by
  obtain ⟨p, q, h1, h2, h3, _⟩ := red_spec (x := x') hy'
  rw [h1]
  refine red_unique hy h2 ?_
  apply Int.eq_of_mul_eq_mul_right hy'
  calc x * q * y' = x * y' * q := by rw [Int.mul_assoc, Int.mul_comm q, ← Int.mul_assoc]
    _ = x' * y * q := by rw [e]
    _ = x' * q * y := by rw [Int.mul_assoc, Int.mul_comm y, ← Int.mul_assoc]
    _ = p * y' * y := by rw [h3]
    _ = p * y * y' := by rw [Int.mul_assoc, Int.mul_comm y', ← Int.mul_assoc]
end K00
namespace K00
open PySem VL
structure Fr (x : D) (a b : Int) : Prop where
  is : x = fr a b
  low : Low a b
  sa : sm 99 a
  sb : sm 99 b
theorem pok_fr (n : Nat) (a b : Int) : pok (n + 1) (fr a b) = true := by
  cases n <;> rfl
theorem pok_red (n : Nat) (a b : Int) : pok (n + 1) (red a b) = true := pok_fr n _ _
section
variable {x y z : D} {a b c d e f : Int}
theorem plus_both (h : Fr x a b) (k : Fr y c d) : m_plus [.im x, .im y] = .ok (red (a * d + c * b) (b * d)) [.un, .un] ∧ m__law_plus [.im x, .im y] = .ok (red (a * d + c * b) (b * d)) [.un, .un] := by
  obtain ⟨rfl, h1, h2, h3⟩ := h
  obtain ⟨rfl, k1, k2, k3⟩ := k
  have hb := h1.pos
  have kb := k1.pos
  exact ⟨plus_eq h2 h3 k2 k3 (by decide) (by omega) (by omega), lplus_eq h2 h3 k2 k3 hb kb⟩
theorem minus_both (h : Fr x a b) (k : Fr y c d) : m_minus [.im x, .im y] = .ok (red (a * d - c * b) (b * d)) [.un, .un] ∧ m__law_minus [.im x, .im y] = .ok (red (a * d - c * b) (b * d)) [.un, .un] := by
  obtain ⟨rfl, h1, h2, h3⟩ := h
  obtain ⟨rfl, k1, k2, k3⟩ := k
  have hb := h1.pos
  have kb := k1.pos
  exact ⟨minus_eq h2 h3 k2 k3 (by decide) (by omega) (by omega), lminus_eq h2 h3 k2 k3 hb kb⟩
theorem times_both (h : Fr x a b) (k : Fr y c d) : m_times [.im x, .im y] = .ok (red (a * c) (b * d)) [.un, .un] ∧ m__law_times [.im x, .im y] = .ok (red (a * c) (b * d)) [.un, .un] := by
  obtain ⟨rfl, h1, h2, h3⟩ := h
  obtain ⟨rfl, k1, k2, k3⟩ := k
  have hb := h1.pos
  have kb := k1.pos
  exact ⟨times_eq h2 h3 k2 k3 (by decide) (by omega) (by omega), ltimes_eq h2 h3 k2 k3 hb kb⟩
theorem sm_of {k : Nat} {u v : Int} (h : sm k u) (l : v.natAbs ≤ u.natAbs) : sm k v := Nat.lt_of_le_of_lt l h
theorem back_ok (h : Fr x a b) (k : Fr y c d) : m_plus [.im (red (a * d - c * b) (b * d)), .im y] = .ok x [.un, .un] := by
  obtain ⟨rfl, h1, h2, h3⟩ := h
  obtain ⟨rfl, k1, k2, k3⟩ := k
  have hb := h1.pos
  have kb := k1.pos
  have nz : b * d ≠ 0 := Int.mul_ne_zero (by omega) (by omega)
  obtain ⟨p, q, e1, e2, e3, e4, e5⟩ := red_spec (x := a * d - c * b) nz
  have qp := e2.pos
  rw [e1]
  have s1 : sm 199 p := sm_of (sm_mono (sm_sub (sm_mul h2 k3) (sm_mul k2 h3)) (by decide)) e4
  have s2 : sm 199 q := sm_of (sm_mono (sm_mul h3 k3) (by decide)) e5
  rw [plus_eq s1 s2 (sm_mono k2 (by decide)) (sm_mono k3 (by decide)) (by decide) (by omega) (by omega)]
  rw [red_unique (a := a) (b := b) (Int.mul_ne_zero (by omega) (by omega)) h1 (by grind)]
theorem over_ok (h : Fr x a b) (k : Fr y c d) (hc : c ≠ 0) : m_over [.im x, .im y] = .ok (red (a * d) (b * c)) [.un, .un] ∧ m_times [.im (red (a * d) (b * c)), .im y] = .ok x [.un, .un] ∧ red (a * d * (if 0 < c then 1 else -1)) (c.natAbs * b) = red (a * d) (b * c) := by
  obtain ⟨rfl, h1, h2, h3⟩ := h
  obtain ⟨rfl, k1, k2, k3⟩ := k
  have hb := h1.pos
  have kb := k1.pos
  have nz : b * c ≠ 0 := Int.mul_ne_zero (by omega) hc
  refine ⟨over_eq h2 h3 k2 k3 (by decide) (by omega) hc, ?_, red_same (Int.mul_ne_zero (by omega) (by omega)) nz ?_⟩
  · obtain ⟨p, q, e1, e2, e3, e4, e5⟩ := red_spec (x := a * d) nz
    have qp := e2.pos
    rw [e1]
    have s1 : sm 199 p := sm_of (sm_mono (sm_mul h2 k3) (by decide)) e4
    have s2 : sm 199 q := sm_of (sm_mono (sm_mul h3 k2) (by decide)) e5
    rw [times_eq s1 s2 (sm_mono k2 (by decide)) (sm_mono k3 (by decide)) (by decide) (by omega) (by omega)]
    rw [red_unique (a := a) (b := b) (Int.mul_ne_zero (by omega) (by omega)) h1 (by grind)]
  · split
    · have : (c.natAbs : Int) = c := by omega
      rw [this]; grind
    · have : (c.natAbs : Int) = -c := by omega
      rw [this]; grind
theorem sign_mul_pos {u v : Int} (h : 0 < v) : (u * v).sign = u.sign := by
  rw [Int.sign_mul, Int.sign_eq_one_of_pos h, Int.mul_one]
theorem cmp_ok (h : Fr x a b) (k : Fr y c d) (l : Fr z e f) :
    m_compare [.im x, .im y] = .ok (.int (a * d - c * b).sign) [.un, .un] ∧ m_compare [.im y, .im x] = .ok (.int (-(a * d - c * b).sign)) [.un, .un] ∧ m_compare [.im (red (a * f + e * b) (b * f)), .im (red (c * f + e * d) (d * f))] = .ok (.int (a * d - c * b).sign) [.un, .un] := by
  obtain ⟨rfl, h1, h2, h3⟩ := h
  obtain ⟨rfl, k1, k2, k3⟩ := k
  obtain ⟨rfl, l1, l2, l3⟩ := l
  have hb := h1.pos
  have kb := k1.pos
  have lb := l1.pos
  refine ⟨compare_eq h2 h3 k2 k3 (by decide), ?_, ?_⟩
  · rw [compare_eq k2 k3 h2 h3 (by decide), ← Int.sign_neg, show -(a * d - c * b) = c * b - a * d by omega]
  · have n1 : b * f ≠ 0 := Int.mul_ne_zero (by omega) (by omega)
    have n2 : d * f ≠ 0 := Int.mul_ne_zero (by omega) (by omega)
    obtain ⟨p, q, e1, e2, e3, e4, e5⟩ := red_spec (x := a * f + e * b) n1
    obtain ⟨p', q', e1', e2', e3', e4', e5'⟩ := red_spec (x := c * f + e * d) n2
    have qp := e2.pos
    have qp' := e2'.pos
    rw [e1, e1']
    rw [compare_eq (k := 199) (sm_of (sm_mono (sm_add (sm_mul h2 l3) (sm_mul l2 h3)) (by decide)) e4) (sm_of (sm_mono (sm_mul h3 l3) (by decide)) e5) (sm_of (sm_mono (sm_add (sm_mul k2 l3) (sm_mul l2 k3)) (by decide)) e4') (sm_of (sm_mono (sm_mul k3 l3) (by decide)) e5') (by decide)]
    have key : (p * q' - p' * q) * (b * f * (d * f)) = (a * d - c * b) * (q * q' * (f * f)) := by grind
    have := sign_mul_pos (u := p * q' - p' * q) (v := b * f * (d * f)) (Int.mul_pos (Int.mul_pos hb lb) (Int.mul_pos kb lb))
    rw [← this, key, sign_mul_pos (Int.mul_pos (Int.mul_pos qp qp') (Int.mul_pos lb lb))]
theorem refused_ok (h : Fr x a b) : m__law_refused [.im (.int 0), .im x] = .ok (.str "zero") [.un, .un] ∧ m__law_refused [.im (.int 1), .im x] = .ok (.str "zero") [.un, .un] := by
  obtain ⟨rfl, h1, h2, h3⟩ := h
  have z1 := fraction_zero a
  have z2 := over_zero (d := 1) h2 h3 (by unfold sm; decide) (by decide)
  have kn : (("InvalidNumber" : Str) ∈ knT) := by decide +kernel
  have is1 : isaT "InvalidNumber" "PaceError" = true := by decide +kernel
  have is2 : isaT "InvalidNumber" "InvalidNumber" = true := by decide +kernel
  have z2' : m_over [.im (fr a b), .im (.tup [.int 0, .int 1])] = .ex ⟨"InvalidNumber", [("what", .str "zero")]⟩ [.un, .un] := z2
  constructor
  · unfold m__law_refused g__law_refused
    rw [p_fn2]
    simp [gTry, ix0, z1, kn, is1, is2, hIf, hIs, hWhat]
    rfl
  · unfold m__law_refused g__law_refused
    rw [p_fn2]
    simp [gTry, z2', kn, is1, is2, hIf, hIs, hWhat]
    rfl
end
end K00
namespace K00
open PySem VL
theorem number_call {ds : List Int} {i : Nat} {δ : VL.Env} (h : δ[i]? = some (dk ds)) : ∃ r ds', sm 99 r ∧ eCall (cal 1 m__law_number) (aMutV i aNil) δ = .ok (.int r) (δ.set i (dk ds')) := by
  obtain ⟨r, ds', h1, h3⟩ := number_ok ds
  refine ⟨r, ds', h1, ?_⟩
  have q : cal 1 m__law_number [dk ds] = .ok (.int r) [dk ds'] := cal_ok h3 rfl
  have a : argCell δ (.inr i) = some (dk ds) := by
    unfold argCell
    dsimp only
    rw [h]
    rfl
  have h' : δ[i]? = some (.ml (ds.map D.int)) := h
  rw [p_call, p_aMutV, h']
  simp [p_callR a, q]
theorem set_of {i : Nat} {m : M D} {δ δ' : VL.Env} {d : D} (h : m δ = .ok d δ') : gSet i m δ = .nx (δ'.set i (.im d)) := by rw [p_set, h]
def loopB : SF := (gSeq (gSet 4 (eCall (cal 1 m__law_number) (aMutV 1 aNil)))
  (gSeq (gSet 5 (eCall (cal 1 m__law_number) (aMutV 1 aNil)))
  (gSeq (gIf (tVal (e2 dEq (eVar 5) (eC (.int 0)))) (gSet 5 (e2 dAdd (eC (.int 1)) (eCall (cal 2 m__law_take) (aMutV 1 (aCons (eC (.int 9)) aNil))))) gNext)
  (gSeq (gSet 6 (mIf (tVal (e2 dGt (eVar 5) (eC (.int 0)))) (eC (.int 1)) (e1 dNeg (eC (.int 1)))))
  (gSeq (gSet 7 (eCall (cal 2 m__law_divisor) (aCons (eVar 4) (aCons (eVar 5) aNil))))
  (gSeq (gSet 8 (eTup (asCons (e2 dDiv (e2 dMul (eVar 6) (eVar 4)) (eVar 7)) (asCons (e2 dDiv (e1 dAbs (eVar 5)) (eVar 7)) asNil))))
  (gSeq (gIf (mNot (tTru (eCall (cal 2 m__law_same) (aCons (eCall (calX 2 m_fraction) (aCons (eVar 4) (aCons (eVar 5) aNil))) (aCons (eVar 8) aNil))))) (gRet (eC (.bl false))) gNext)
  (gApp 2 (eVar 8)))))))))
theorem app_im {i : Nat} {m : M D} {δ : VL.Env} {fs : List D} {x : D} (h : δ[i]? = some (.ml fs)) (hm : m δ = .ok x δ) (hl : fs.length < 1000000) : gApp i m δ = .nx (δ.set i (.ml (fs ++ [x]))) := by
  unfold gApp
  rw [h]
  simp only [p_of, hm]
  rw [h]
  dsimp only
  rw [if_pos (Nat.lt_trans hl (by show 1000000 < _; decide))]
theorem fr_of {a b : Int} (hb : b ≠ 0) (sa : sm 99 a) (sb : sm 99 b) : ∃ p q, Fr (red a b) p q := by
  obtain ⟨p, q, e1, e2, _, e4, e5⟩ := red_spec (x := a) hb
  exact ⟨p, q, e1, e2, sm_of sa e4, sm_of sb e5⟩
/-- from the divisor on -/
theorem tail_ok (s c1 c3 c8 c9 c10 c11 c12 c13 c6 c7 : Cell) (fs : List D) {a b : Int} (hb : b ≠ 0) (sa : sm 99 a) (sb : sm 99 b) (hl : fs.length < 1000000) :
    ∃ e6 e7 e8, (gSeq (gSet 6 (mIf (tVal (e2 dGt (eVar 5) (eC (.int 0)))) (eC (.int 1)) (e1 dNeg (eC (.int 1)))))
      (gSeq (gSet 7 (eCall (cal 2 m__law_divisor) (aCons (eVar 4) (aCons (eVar 5) aNil))))
      (gSeq (gSet 8 (eTup (asCons (e2 dDiv (e2 dMul (eVar 6) (eVar 4)) (eVar 7)) (asCons (e2 dDiv (e1 dAbs (eVar 5)) (eVar 7)) asNil))))
      (gSeq (gIf (mNot (tTru (eCall (cal 2 m__law_same) (aCons (eCall (calX 2 m_fraction) (aCons (eVar 4) (aCons (eVar 5) aNil))) (aCons (eVar 8) aNil))))) (gRet (eC (.bl false))) gNext)
      (gApp 2 (eVar 8)))))) [s, c1, .ml fs, c3, .im (.int a), .im (.int b), c6, c7, c8, c9, c10, c11, c12, c13] = .nx [s, c1, .ml (fs ++ [red a b]), c3, .im (.int a), .im (.int b), e6, e7, e8, c9, c10, c11, c12, c13] := by
  have q : cal 2 m__law_divisor [.im (.int a), .im (.int b)] = .ok (.int (Int.gcd a b : Nat)) [.un, .un] := cal_ok (dv_ok (sm_mono sb (by decide))) rfl
  have g0 := gcd_pos (a := a) hb
  have g1 := gcd_leR (a := a) hb
  have gz : (Int.gcd a b : Int) ≠ 0 := by omega
  have gb : bits (Int.gcd a b : Int) < 9000 := by
    have : bits (Int.gcd a b : Int) < 99 + 1 := bits_le (by simp only [Int.natAbs_natCast]; exact Nat.lt_of_le_of_lt g1 sb)
    omega
  have hs : b.sign = if 0 < b then 1 else -1 := by
    split
    · exact Int.sign_eq_one_of_pos (by omega)
    · exact Int.sign_eq_neg_one_of_neg (by omega)
  have s1 : gSet 6 (mIf (tVal (e2 dGt (eVar 5) (eC (.int 0)))) (eC (.int 1)) (e1 dNeg (eC (.int 1)))) [s, c1, .ml fs, c3, .im (.int a), .im (.int b), c6, c7, c8, c9, c10, c11, c12, c13] = .nx [s, c1, .ml fs, c3, .im (.int a), .im (.int b), .im (.int b.sign), c7, c8, c9, c10, c11, c12, c13] := by
    rw [hs]
    by_cases h : 0 < b <;> simp [h]
  have s2 : gSet 7 (eCall (cal 2 m__law_divisor) (aCons (eVar 4) (aCons (eVar 5) aNil))) [s, c1, .ml fs, c3, .im (.int a), .im (.int b), .im (.int b.sign), c7, c8, c9, c10, c11, c12, c13] = .nx [s, c1, .ml fs, c3, .im (.int a), .im (.int b), .im (.int b.sign), .im (.int (Int.gcd a b : Nat)), c8, c9, c10, c11, c12, c13] := by simp [q]
  have sg : sm 2 b.sign := by unfold sm; rw [Int.natAbs_sign_of_ne_zero hb]; decide
  have hd1 : (b.sign * a).fdiv (Int.gcd a b : Int) = b.sign * a / (Int.gcd a b : Int) := fd_dvd (Int.dvd_trans (Int.gcd_dvd_left a b) (Int.dvd_mul_left _ _))
  have hd2 : (b.natAbs : Int).fdiv (Int.gcd a b : Int) = (b.natAbs : Int) / (Int.gcd a b : Int) := fd_dvd (Int.dvd_natAbs.mpr (Int.gcd_dvd_right a b))
  have s3 : gSet 8 (eTup (asCons (e2 dDiv (e2 dMul (eVar 6) (eVar 4)) (eVar 7)) (asCons (e2 dDiv (e1 dAbs (eVar 5)) (eVar 7)) asNil))) [s, c1, .ml fs, c3, .im (.int a), .im (.int b), .im (.int b.sign), .im (.int (Int.gcd a b : Nat)), c8, c9, c10, c11, c12, c13] = .nx [s, c1, .ml fs, c3, .im (.int a), .im (.int b), .im (.int b.sign), .im (.int (Int.gcd a b : Nat)), .im (red a b), c9, c10, c11, c12, c13] := by
    have m1 : dMul (.int b.sign) (.int a) = some (.int (b.sign * a)) := mul_sm sg sa
    simp [m1, p_div gz gb, hd1, hd2]
    rfl
  have sm1 : cal 2 m__law_same [.im (red a b), .im (red a b)] = .ok (.bl true) [.un, .un] := cal_ok (same_ok (pok_red 18 a b)) rfl
  have fr1 : m_fraction [.im (.int a), .im (.int b)] = .ok (red a b) [.un, .un] := fraction_ok hb (sm_mono sb (by decide))
  have s4 : gIf (mNot (tTru (eCall (cal 2 m__law_same) (aCons (eCall (calX 2 m_fraction) (aCons (eVar 4) (aCons (eVar 5) aNil))) (aCons (eVar 8) aNil))))) (gRet (eC (.bl false))) gNext [s, c1, .ml fs, c3, .im (.int a), .im (.int b), .im (.int b.sign), .im (.int (Int.gcd a b : Nat)), .im (red a b), c9, c10, c11, c12, c13] = .nx [s, c1, .ml fs, c3, .im (.int a), .im (.int b), .im (.int b.sign), .im (.int (Int.gcd a b : Nat)), .im (red a b), c9, c10, c11, c12, c13] := by
    have tr : truD (.bl true) = some true := rfl
    simp [fr1, sm1, tr]
  have s5 := app_im (i := 2) (m := eVar 8) (δ := [s, c1, .ml fs, c3, .im (.int a), .im (.int b), .im (.int b.sign), .im (.int (Int.gcd a b : Nat)), .im (red a b), c9, c10, c11, c12, c13]) (fs := fs) (x := red a b) rfl rfl hl
  exact ⟨_, _, _, (seq_nx s1).trans ((seq_nx s2).trans ((seq_nx s3).trans ((seq_nx s4).trans s5)))⟩
theorem body_ok (s c3 c4 c5 c6 c7 c8 c9 c10 c11 c12 c13 : Cell) (ds : List Int) (fs : List D) (hl : fs.length < 1000000) :
    ∃ ds' x p q e4 e5 e6 e7 e8, Fr x p q ∧ loopB [s, dk ds, .ml fs, c3, c4, c5, c6, c7, c8, c9, c10, c11, c12, c13] = .nx [s, dk ds', .ml (fs ++ [x]), c3, e4, e5, e6, e7, e8, c9, c10, c11, c12, c13] := by
  obtain ⟨a, d1, sa, h1⟩ := number_call (ds := ds) (i := 1) (δ := [s, dk ds, .ml fs, c3, c4, c5, c6, c7, c8, c9, c10, c11, c12, c13]) rfl
  obtain ⟨b, d2, sb, h2⟩ := number_call (ds := d1) (i := 1) (δ := [s, dk d1, .ml fs, c3, .im (.int a), c5, c6, c7, c8, c9, c10, c11, c12, c13]) rfl
  obtain ⟨t, d3, t0, t1, h3⟩ := take_call (ds := d2) (i := 1) (δ := [s, dk d2, .ml fs, c3, .im (.int a), .im (.int b), c6, c7, c8, c9, c10, c11, c12, c13]) (m := 9) (by decide) rfl
  have s1 := set_of (i := 4) h1
  have s2 := set_of (i := 5) h2
  obtain ⟨b', d', hb', sb', s3⟩ : ∃ b' d', b' ≠ 0 ∧ sm 99 b' ∧ gIf (tVal (e2 dEq (eVar 5) (eC (.int 0)))) (gSet 5 (e2 dAdd (eC (.int 1)) (eCall (cal 2 m__law_take) (aMutV 1 (aCons (eC (.int 9)) aNil))))) gNext [s, dk d2, .ml fs, c3, .im (.int a), .im (.int b), c6, c7, c8, c9, c10, c11, c12, c13] = .nx [s, dk d', .ml fs, c3, .im (.int a), .im (.int b'), c6, c7, c8, c9, c10, c11, c12, c13] := by
    by_cases hb : b = 0
    · refine ⟨1 + t, d3, by omega, by unfold sm; omega, ?_⟩
      subst hb
      simp only [List.set_cons_succ, List.set_cons_zero] at h3
      simp [h3, -p_call, -p_aMutV]
    · refine ⟨b, d2, hb, sb, ?_⟩
      simp [hb]
  obtain ⟨e6, e7, e8, s4⟩ := tail_ok s (dk d') c3 c8 c9 c10 c11 c12 c13 c6 c7 fs hb' sa sb' hl
  obtain ⟨p, q, hf⟩ := fr_of hb' sa sb'
  exact ⟨d', _, p, q, _, _, e6, e7, e8, hf, (seq_nx s1).trans ((seq_nx s2).trans ((seq_nx s3).trans s4))⟩
end K00
namespace K00
open PySem VL
theorem same_call {d : D} (h : pok 19 d = true) : cal 2 m__law_same [.im d, .im d] = .ok (.bl true) [.un, .un] := cal_ok (same_ok h) rfl
theorem tr_ : truD (.bl true) = some true := rfl
theorem loop3 (s c3 c4 c5 c6 c7 c8 c9 c10 c11 c12 c13 : Cell) (ds : List Int) :
    ∃ ds' x y z a b c d e f e3 e4 e5 e6 e7 e8, Fr x a b ∧ Fr y c d ∧ Fr z e f ∧ gFor (tgName 3) (iRange1 (eC (.int 3))) loopB [s, dk ds, .ml [], c3, c4, c5, c6, c7, c8, c9, c10, c11, c12, c13] = .nx [s, dk ds', .ml [x, y, z], e3, e4, e5, e6, e7, e8, c9, c10, c11, c12, c13] := by
  obtain ⟨d1, x, a, b, x4, x5, x6, x7, x8, hx, h1⟩ := body_ok s (.im (.int 0)) c4 c5 c6 c7 c8 c9 c10 c11 c12 c13 ds [] (by decide)
  obtain ⟨d2, y, c, d, y4, y5, y6, y7, y8, hy, h2⟩ := body_ok s (.im (.int 1)) x4 x5 x6 x7 x8 c9 c10 c11 c12 c13 d1 [x] (by simp)
  obtain ⟨d3, z, e, f, z4, z5, z6, z7, z8, hz, h3⟩ := body_ok s (.im (.int 2)) y4 y5 y6 y7 y8 c9 c10 c11 c12 c13 d2 [x, y] (by simp)
  refine ⟨d3, x, y, z, a, b, c, d, e, f, .im (.int 2), z4, z5, z6, z7, z8, hx, hy, hz, ?_⟩
  have rg : rng1 (.int 3) = some (rangeD 0 3) := p_rng (n := 3) (by decide)
  have i0 : iRange1 (eC (.int 3)) [s, dk ds, .ml [], c3, c4, c5, c6, c7, c8, c9, c10, c11, c12, c13] = .ok [.int 0, .int 1, .int 2] [s, dk ds, .ml [], c3, c4, c5, c6, c7, c8, c9, c10, c11, c12, c13] := by
    rw [p_rng1, p_c]
    show lift (rng1 (.int 3)) _ = _
    rw [rg]
    rfl
  exact (for_of i0).trans ((for_step (by rfl) h1).trans ((for_step (by rfl) h2).trans ((for_step (by rfl) h3).trans for_nil)))
/-- the checks of the law, on three fractions -/
theorem checks (s c1 c2 c3 c4 c5 c6 c7 c8 c12 c13 : Cell) {x y z : D} {a b c d e f : Int} (hx : Fr x a b) (hy : Fr y c d) (hz : Fr z e f) : ∃ δ',
  (gSeq (gIf (mNot (tTru (eCall (cal 2 m__law_same) (aCons (asL (nLst (asCons (eCall (calX 2 m_plus) (aCons (eVar 9) (aCons (eVar 10) aNil))) (asCons (eCall (calX 2 m_minus) (aCons (eVar 9) (aCons (eVar 10) aNil))) asNil)))) (aCons (asL (nLst (asCons (eCall (cal 2 m__law_plus) (aCons (eVar 9) (aCons (eVar 10) aNil))) (asCons (eCall (cal 2 m__law_minus) (aCons (eVar 9) (aCons (eVar 10) aNil))) asNil)))) aNil))))) (gRet (eC (.bl false))) gNext)
  (gSeq (gIf (mOr (mNot (tTru (eCall (cal 2 m__law_same) (aCons (eCall (calX 2 m_times) (aCons (eVar 9) (aCons (eVar 10) aNil))) (aCons (eCall (cal 2 m__law_times) (aCons (eVar 9) (aCons (eVar 10) aNil))) aNil))))) (mNot (tTru (eCall (cal 2 m__law_same) (aCons (eCall (calX 2 m_plus) (aCons (eCall (calX 2 m_minus) (aCons (eVar 9) (aCons (eVar 10) aNil))) (aCons (eVar 10) aNil))) (aCons (eVar 9) aNil)))))) (gRet (eC (.bl false))) gNext)
  (gSeq (gIf (tVal (e2 dNe (e2 dIx (eVar 10) (eC (.int 0))) (eC (.int 0)))) (gSeq (gSet 12 (eCall (calX 2 m_over) (aCons (eVar 9) (aCons (eVar 10) aNil))))
  (gIf (mOr (mNot (tTru (eCall (cal 2 m__law_same) (aCons (eCall (calX 2 m_times) (aCons (eVar 12) (aCons (eVar 10) aNil))) (aCons (eVar 9) aNil))))) (mNot (tTru (eCall (cal 2 m__law_same) (aCons (eVar 12) (aCons (eCall (cal 2 m__law_part) (aCons (e2 dMul (e2 dMul (e2 dIx (eVar 9) (eC (.int 0))) (e2 dIx (eVar 10) (eC (.int 1)))) (mIf (tVal (e2 dGt (e2 dIx (eVar 10) (eC (.int 0))) (eC (.int 0)))) (eC (.int 1)) (e1 dNeg (eC (.int 1))))) (aCons (e2 dMul (e1 dAbs (e2 dIx (eVar 10) (eC (.int 0)))) (e2 dIx (eVar 9) (eC (.int 1)))) aNil))) aNil)))))) (gRet (eC (.bl false))) gNext)) gNext)
  (gSeq (gSet 13 (e2 dSub (e2 dMul (e2 dIx (eVar 9) (eC (.int 0))) (e2 dIx (eVar 10) (eC (.int 1)))) (e2 dMul (e2 dIx (eVar 10) (eC (.int 0))) (e2 dIx (eVar 9) (eC (.int 1))))))
  (gSeq (gSet 8 (e2 dSub (e2 dGt (eVar 13) (eC (.int 0))) (e2 dLt (eVar 13) (eC (.int 0)))))
  (gSeq (gIf (mNot (tTru (eCall (cal 2 m__law_same) (aCons (asL (nLst (asCons (eCall (cal 2 m_compare) (aCons (eVar 9) (aCons (eVar 10) aNil))) (asCons (eCall (cal 2 m_compare) (aCons (eVar 10) (aCons (eVar 9) aNil))) (asCons (eCall (cal 2 m_compare) (aCons (eCall (calX 2 m_plus) (aCons (eVar 9) (aCons (eVar 11) aNil))) (aCons (eCall (calX 2 m_plus) (aCons (eVar 10) (aCons (eVar 11) aNil))) aNil))) asNil))))) (aCons (asL (nLst (asCons (e1 dInt (eVar 8)) (asCons (e1 dInt (e1 dNeg (eVar 8))) (asCons (e1 dInt (eVar 8)) asNil))))) aNil))))) (gRet (eC (.bl false))) gNext)
  (gRet (eAnd (e2 dEq (eCall (cal 2 m__law_refused) (aCons (eC (.int 0)) (aCons (eVar 9) aNil))) (eC (.str "zero"))) (e2 dEq (eCall (cal 2 m__law_refused) (aCons (eC (.int 1)) (aCons (eVar 9) aNil))) (eC (.str "zero")))))))))))
    [s, c1, c2, c3, c4, c5, c6, c7, c8, .im x, .im y, .im z, c12, c13] = .rt (.bl true) δ' := by
  obtain ⟨p1, p2⟩ := plus_both hx hy
  obtain ⟨m1, m2⟩ := minus_both hx hy
  obtain ⟨t1, t2⟩ := times_both hx hy
  obtain ⟨q1, _⟩ := plus_both hx hz
  obtain ⟨q2, _⟩ := plus_both hy hz
  have bk := back_ok hx hy
  obtain ⟨k1, k2, k3⟩ := cmp_ok hx hy hz
  obtain ⟨r1, r2⟩ := refused_ok hx
  have p2' := cal_ok p2 (n := 2) rfl
  have m2' := cal_ok m2 (n := 2) rfl
  have t2' := cal_ok t2 (n := 2) rfl
  have k1' := cal_ok k1 (n := 2) rfl
  have k2' := cal_ok k2 (n := 2) rfl
  have k3' := cal_ok k3 (n := 2) rfl
  have r1' := cal_ok r1 (n := 2) rfl
  have r2' := cal_ok r2 (n := 2) rfl
  have px : pok 19 x = true := by rw [hx.is]; exact pok_fr 18 _ _
  have sx := same_call px
  have sA := same_call (d := .lst [red (a * d + c * b) (b * d), red (a * d - c * b) (b * d)]) rfl
  have sB := same_call (d := red (a * c) (b * d)) (pok_red 18 _ _)
  have x0 : dIx x (.int 0) = some (.int a) := by rw [hx.is]; exact ix0 a b
  have x1 : dIx x (.int 1) = some (.int b) := by rw [hx.is]; exact ix1 a b
  have y0 : dIx y (.int 0) = some (.int c) := by rw [hy.is]; exact ix0 c d
  have y1 : dIx y (.int 1) = some (.int d) := by rw [hy.is]; exact ix1 c d
  have mad := mul_sm hx.sa hy.sb
  have mcb := mul_sm hy.sa hx.sb
  -- the first three
  refine Exists.imp (fun δ' q => (seq_nx (δ' := [s, c1, c2, c3, c4, c5, c6, c7, c8, .im x, .im y, .im z, c12, c13]) (by simp [p1, m1, p2', m2', sA, tr_])).trans ((seq_nx (δ' := [s, c1, c2, c3, c4, c5, c6, c7, c8, .im x, .im y, .im z, c12, c13]) (by simp [t1, t2', m1, bk, sB, sx, tr_])).trans q)) ?_
  -- the ratio
  obtain ⟨e12, hr⟩ : ∃ e12, gIf (tVal (e2 dNe (e2 dIx (eVar 10) (eC (.int 0))) (eC (.int 0)))) (gSeq (gSet 12 (eCall (calX 2 m_over) (aCons (eVar 9) (aCons (eVar 10) aNil))))
      (gIf (mOr (mNot (tTru (eCall (cal 2 m__law_same) (aCons (eCall (calX 2 m_times) (aCons (eVar 12) (aCons (eVar 10) aNil))) (aCons (eVar 9) aNil))))) (mNot (tTru (eCall (cal 2 m__law_same) (aCons (eVar 12) (aCons (eCall (cal 2 m__law_part) (aCons (e2 dMul (e2 dMul (e2 dIx (eVar 9) (eC (.int 0))) (e2 dIx (eVar 10) (eC (.int 1)))) (mIf (tVal (e2 dGt (e2 dIx (eVar 10) (eC (.int 0))) (eC (.int 0)))) (eC (.int 1)) (e1 dNeg (eC (.int 1))))) (aCons (e2 dMul (e1 dAbs (e2 dIx (eVar 10) (eC (.int 0)))) (e2 dIx (eVar 9) (eC (.int 1)))) aNil))) aNil)))))) (gRet (eC (.bl false))) gNext)) gNext
      [s, c1, c2, c3, c4, c5, c6, c7, c8, .im x, .im y, .im z, c12, c13] = .nx [s, c1, c2, c3, c4, c5, c6, c7, c8, .im x, .im y, .im z, e12, c13] := by
    by_cases hc : c = 0
    · refine ⟨c12, ?_⟩
      subst hc
      simp [y0]
    · obtain ⟨o1, o2, o3⟩ := over_ok hx hy hc
      refine ⟨.im (red (a * d) (b * c)), ?_⟩
      have sR := same_call (d := red (a * d) (b * c)) (pok_red 18 _ _)
      have hb := hx.low.pos
      have sc : sm 99 (c.natAbs : Int) := by have := hy.sa; unfold sm at *; rwa [Int.natAbs_natCast]
      have pt := cal_ok (part_ok (a := a * d * (if 0 < c then 1 else -1)) (b := c.natAbs * b) (Int.mul_pos (by omega) hb) (sm_mono (sm_mul sc hx.sb) (by decide))) (n := 2) rfl
      rw [o3] at pt
      have mcb2 := mul_sm sc hx.sb
      have ms : ∀ g : Int, sm 2 g → dMul (.int (a * d)) (.int g) = some (.int (a * d * g)) := fun g hg => mul_sm (sm_mul hx.sa hy.sb) hg
      have ms1 := ms 1 (by unfold sm; decide)
      have ms2 := ms (-1) (by unfold sm; decide)
      by_cases hp : 0 < c
      · rw [if_pos hp] at pt
        simp [y0, y1, x0, x1, hc, hp, o1, o2, sx, tr_, mad, ms1, mcb2, -Int.mul_one]
        simp [y0, y1, x0, x1, hc, hp, o1, o2, sx, tr_, mad, ms1, mcb2, pt, sR, -Int.mul_one]
      · have en : a * d * -1 = -(a * d) := by rw [Int.mul_neg, Int.mul_one]
        rw [if_neg hp, en] at pt
        rw [en] at ms2
        simp [y0, y1, x0, x1, hc, hp, o1, o2, sx, tr_, mad, ms2, mcb2, pt, sR]
  refine Exists.imp (fun δ' q => (seq_nx hr).trans q) ?_
  -- the comparisons
  have hsg : (if decide (0 < a * d - c * b) = true then (1 : Int) else 0) - (if decide (a * d - c * b < 0) = true then 1 else 0) = (a * d - c * b).sign := by
    generalize a * d - c * b = w
    rcases Int.lt_trichotomy w 0 with h | h | h
    · rw [Int.sign_eq_neg_one_of_neg h]; simp [h, show ¬ 0 < w by omega]
    · subst h; simp
    · rw [Int.sign_eq_one_of_pos h]; simp [h, show ¬ w < 0 by omega]
  have s13 : gSet 13 (e2 dSub (e2 dMul (e2 dIx (eVar 9) (eC (.int 0))) (e2 dIx (eVar 10) (eC (.int 1)))) (e2 dMul (e2 dIx (eVar 10) (eC (.int 0))) (e2 dIx (eVar 9) (eC (.int 1))))) [s, c1, c2, c3, c4, c5, c6, c7, c8, .im x, .im y, .im z, e12, c13] = .nx [s, c1, c2, c3, c4, c5, c6, c7, c8, .im x, .im y, .im z, e12, .im (.int (a * d - c * b))] := by
    simp [x0, x1, y0, y1, mad, mcb]
  generalize a * d - c * b = w at *
  have s8 : gSet 8 (e2 dSub (e2 dGt (eVar 13) (eC (.int 0))) (e2 dLt (eVar 13) (eC (.int 0)))) [s, c1, c2, c3, c4, c5, c6, c7, c8, .im x, .im y, .im z, e12, .im (.int w)] = .nx [s, c1, c2, c3, c4, c5, c6, c7, .im (.int w.sign), .im x, .im y, .im z, e12, .im (.int w)] := by
    rw [← hsg]
    simp
  have sC := same_call (d := .lst [.int w.sign, .int (-w.sign), .int w.sign]) rfl
  have s9 : gIf (mNot (tTru (eCall (cal 2 m__law_same) (aCons (asL (nLst (asCons (eCall (cal 2 m_compare) (aCons (eVar 9) (aCons (eVar 10) aNil))) (asCons (eCall (cal 2 m_compare) (aCons (eVar 10) (aCons (eVar 9) aNil))) (asCons (eCall (cal 2 m_compare) (aCons (eCall (calX 2 m_plus) (aCons (eVar 9) (aCons (eVar 11) aNil))) (aCons (eCall (calX 2 m_plus) (aCons (eVar 10) (aCons (eVar 11) aNil))) aNil))) asNil))))) (aCons (asL (nLst (asCons (e1 dInt (eVar 8)) (asCons (e1 dInt (e1 dNeg (eVar 8))) (asCons (e1 dInt (eVar 8)) asNil))))) aNil))))) (gRet (eC (.bl false))) gNext [s, c1, c2, c3, c4, c5, c6, c7, .im (.int w.sign), .im x, .im y, .im z, e12, .im (.int w)] = .nx [s, c1, c2, c3, c4, c5, c6, c7, .im (.int w.sign), .im x, .im y, .im z, e12, .im (.int w)] := by
    simp [q1, q2, k1', k2', k3', sC, tr_]
  refine ⟨[s, c1, c2, c3, c4, c5, c6, c7, .im (.int w.sign), .im x, .im y, .im z, e12, .im (.int w)], (seq_nx s13).trans ((seq_nx s8).trans ((seq_nx s9).trans ?_))⟩
  · have ez : dEq (.str "zero") (.str "zero") = some (.bl true) := p_eq_self (by decide +kernel)
    simp [r1', r2', ez]
end K00
namespace K00
open PySem VL
theorem ncall3 {f : FN} {u v w : D} {m : M (List VL.Arg)} {δ δ' : VL.Env} {xs : List D} {e1 e2 e3 : Cell} (hm : m δ = .ok [.inl u, .inl v, .inl w] δ') (hf : f [.im u, .im v, .im w] = .ok xs [e1, e2, e3]) : nCall 3 f m δ = .ok xs δ' := by
  unfold nCall
  rw [M.bind_ok hm]
  unfold callN
  simp only [argSlots, argCells, argCell, List.nodup_nil, if_true, List.length_cons, List.length_nil, hf]
  rfl
theorem setM_of {i : Nat} {m : M (List D)} {δ δ' : VL.Env} {d : List D} (h : m δ = .ok d δ') : gSetM i m δ = .nx (δ'.set i (.ml d)) := by rw [p_setM, h]
theorem law_true : ∀ ns : List Int, ns.length ≤ 63 → ∃ cs, m_law [.im (.scr (ns.map D.int))] = .ok (.bl true) cs := by
  intro ns hn
  obtain ⟨ds, hd⟩ := deck_ok ns 50 20 (by decide) (by decide) (by decide) (by omega)
  obtain ⟨d1, x, y, z, a, b, c, d, e, f, e3, e4, e5, e6, e7, e8, hx, hy, hz, hl⟩ := loop3 (.im (.scr (ns.map D.int))) .un .un .un .un .un .un .un .un .un .un .un ds
  obtain ⟨t, d2, t0, t1, ht⟩ := take_call (ds := d1) (i := 1) (δ := [.im (.scr (ns.map D.int)), dk d1, .ml [x, y, z], e3, e4, e5, e6, e7, e8, .un, .un, .un, .un, .un]) (m := 4) (by decide) rfl
  have s1 : gSetM 1 (nCall 3 m__law_deck (aCons (eVar 0) (aCons (eC (.int 50)) (aCons (eC (.int 20)) aNil)))) [.im (.scr (ns.map D.int)), .un, .un, .un, .un, .un, .un, .un, .un, .un, .un, .un, .un, .un] = .nx [.im (.scr (ns.map D.int)), dk ds, .un, .un, .un, .un, .un, .un, .un, .un, .un, .un, .un, .un] :=
    setM_of (ncall3 (by simp; rfl) hd)
  have s2 : gSetM 2 (nLst asNil) [.im (.scr (ns.map D.int)), dk ds, .un, .un, .un, .un, .un, .un, .un, .un, .un, .un, .un, .un] = .nx [.im (.scr (ns.map D.int)), dk ds, .ml [], .un, .un, .un, .un, .un, .un, .un, .un, .un, .un, .un] := by simp
  -- found[1] = found[0]
  obtain ⟨y', c', d', hy', s4⟩ : ∃ y' c' d', Fr y' c' d' ∧ gIf (tVal (e2 dEq (eCall (cal 2 m__law_take) (aMutV 1 (aCons (eC (.int 4)) aNil))) (eC (.int 0)))) (gSetIx 2 (eC (.int 1)) (eIxV 2 (eC (.int 0)))) gNext [.im (.scr (ns.map D.int)), dk d1, .ml [x, y, z], e3, e4, e5, e6, e7, e8, .un, .un, .un, .un, .un] =
      .nx [.im (.scr (ns.map D.int)), dk d2, .ml [x, y', z], e3, e4, e5, e6, e7, e8, .un, .un, .un, .un, .un] := by
    simp only [List.set_cons_succ, List.set_cons_zero] at ht
    by_cases h0 : t = 0
    · refine ⟨x, a, b, hx, ?_⟩
      subst h0
      have i0 : dIx (.lst [x, y, z]) (.int 0) = some x := rfl
      simp [ht, -p_call, -p_aMutV, gSetIx, eIxV, i0]
      rfl
    · refine ⟨y, c, d, hy, ?_⟩
      simp [ht, h0, -p_call, -p_aMutV]
  have s5 : gAsg (tgTup (tgCons (tgName 9) (tgCons (tgName 10) (tgCons (tgName 11) tgNil))) 3) (eVar 2) [.im (.scr (ns.map D.int)), dk d2, .ml [x, y', z], e3, e4, e5, e6, e7, e8, .un, .un, .un, .un, .un] =
      .nx [.im (.scr (ns.map D.int)), dk d2, .im (.lst [x, y', z]), e3, e4, e5, e6, e7, e8, .im x, .im y', .im z, .un, .un] := rfl
  obtain ⟨δ', s6⟩ := checks (.im (.scr (ns.map D.int))) (dk d2) (.im (.lst [x, y', z])) e3 e4 e5 e6 e7 e8 .un .un hx hy' hz
  have all : g_law [.im (.scr (ns.map D.int)), .un, .un, .un, .un, .un, .un, .un, .un, .un, .un, .un, .un, .un] = .rt (.bl true) δ' := by
    unfold loopB at hl
    unfold g_law
    exact (seq_nx s1).trans ((seq_nx s2).trans ((seq_nx hl).trans ((seq_nx s4).trans ((seq_nx s5).trans s6))))
  have fm : fnM 1 [] 13 g_law [.im (.scr (ns.map D.int))] = .ok (.bl true) (outs [] 1 δ') := by
    rw [p_fn1]
    have st : [.im (.scr (ns.map D.int))] ++ List.replicate 13 Cell.un = [.im (.scr (ns.map D.int)), .un, .un, .un, .un, .un, .un, .un, .un, .un, .un, .un, .un, .un] := rfl
    rw [st, all]
  exact ⟨_, fm⟩
end K00
/-! the head -/
namespace K00
end K00
open PySem PySem.W PyProof.Rows in
set_option maxRecDepth 100000 in
set_option maxHeartbeats 0 in
theorem PySem.Challenge.cw_anypaces_k00_fractions_holds : PySem.Challenge.rw_anypaces_k00_fractions.Holds := by
  w_on; o_law; k_head; (case hw => w_witness2)
  k_fill
  refine VL.head_law (l := PySem.Challenge.rw_anypaces_k00_fractions) (k := 23) rfl rfl (fun w h Y => PySem.W.kIn_of Y) ⟨rfl, by decide, by decide⟩ ?F
  case F =>
    intro w mg fa h KX G hmg
    refine' K00.law_end (w := w) ⟨?d_common_divisor, ?d_fraction, ?d_plus, ?d_minus, ?d_times, ?d_over, ?d_compare, ?d__law_deck, ?d__law_take, ?d__law_plain, ?d__law_same, ?d__law_divisor, ?d__law_part, ?d__law_plus, ?d__law_times, ?d__law_minus, ?d__law_number, ?d__law_refused, ?d_law, ?b_abs, ?b_bool, ?b_int, ?b_isinstance, ?b_len, ?b_list, ?b_max, ?b_range, ?b_str, ?b_tuple, ?e_InvalidNumber, ?errP, ?errT⟩ hmg K00.law_true
    case d_common_divisor =>
      refine' VL.defk KX G ?a ?l ?c ?k; (case a => k_is); (case l => k_is); (case c => k_is); (case k => k_is)
    case d_fraction =>
      refine' VL.defk KX G ?a ?l ?c ?k; (case a => k_is); (case l => k_is); (case c => k_is); (case k => k_is)
    case d_plus =>
      refine' VL.defk KX G ?a ?l ?c ?k; (case a => k_is); (case l => k_is); (case c => k_is); (case k => k_is)
    case d_minus =>
      refine' VL.defk KX G ?a ?l ?c ?k; (case a => k_is); (case l => k_is); (case c => k_is); (case k => k_is)
    case d_times =>
      refine' VL.defk KX G ?a ?l ?c ?k; (case a => k_is); (case l => k_is); (case c => k_is); (case k => k_is)
    case d_over =>
      refine' VL.defk KX G ?a ?l ?c ?k; (case a => k_is); (case l => k_is); (case c => k_is); (case k => k_is)
    case d_compare =>
      refine' VL.defk KX G ?a ?l ?c ?k; (case a => k_is); (case l => k_is); (case c => k_is); (case k => k_is)
    case d__law_deck =>
      refine' VL.defk KX G ?a ?l ?c ?k; (case a => k_is); (case l => k_is); (case c => k_is); (case k => k_is)
    case d__law_take =>
      refine' VL.defk KX G ?a ?l ?c ?k; (case a => k_is); (case l => k_is); (case c => k_is); (case k => k_is)
    case d__law_plain =>
      refine' VL.defk KX G ?a ?l ?c ?k; (case a => k_is); (case l => k_is); (case c => k_is); (case k => k_is)
    case d__law_same =>
      refine' VL.defk KX G ?a ?l ?c ?k; (case a => k_is); (case l => k_is); (case c => k_is); (case k => k_is)
    case d__law_divisor =>
      refine' VL.defk KX G ?a ?l ?c ?k; (case a => k_is); (case l => k_is); (case c => k_is); (case k => k_is)
    case d__law_part =>
      refine' VL.defk KX G ?a ?l ?c ?k; (case a => k_is); (case l => k_is); (case c => k_is); (case k => k_is)
    case d__law_plus =>
      refine' VL.defk KX G ?a ?l ?c ?k; (case a => k_is); (case l => k_is); (case c => k_is); (case k => k_is)
    case d__law_times =>
      refine' VL.defk KX G ?a ?l ?c ?k; (case a => k_is); (case l => k_is); (case c => k_is); (case k => k_is)
    case d__law_minus =>
      refine' VL.defk KX G ?a ?l ?c ?k; (case a => k_is); (case l => k_is); (case c => k_is); (case k => k_is)
    case d__law_number =>
      refine' VL.defk KX G ?a ?l ?c ?k; (case a => k_is); (case l => k_is); (case c => k_is); (case k => k_is)
    case d__law_refused =>
      refine' VL.defk KX G ?a ?l ?c ?k; (case a => k_is); (case l => k_is); (case c => k_is); (case k => k_is)
    case d_law =>
      refine' VL.defk KX G ?a ?l ?c ?k; (case a => k_is); (case l => k_is); (case c => k_is); (case k => k_is)
    case b_abs =>
      refine' PySem.W.mg_none_of KX G ?a; (case a => k_is)
    case b_bool =>
      refine' PySem.W.mg_none_of KX G ?a; (case a => k_is)
    case b_int =>
      refine' PySem.W.mg_none_of KX G ?a; (case a => k_is)
    case b_isinstance =>
      refine' PySem.W.mg_none_of KX G ?a; (case a => k_is)
    case b_len =>
      refine' PySem.W.mg_none_of KX G ?a; (case a => k_is)
    case b_list =>
      refine' PySem.W.mg_none_of KX G ?a; (case a => k_is)
    case b_max =>
      refine' PySem.W.mg_none_of KX G ?a; (case a => k_is)
    case b_range =>
      refine' PySem.W.mg_none_of KX G ?a; (case a => k_is)
    case b_str =>
      refine' PySem.W.mg_none_of KX G ?a; (case a => k_is)
    case b_tuple =>
      refine' PySem.W.mg_none_of KX G ?a; (case a => k_is)
    case e_InvalidNumber =>
      refine' VL.errc KX G ?zq ?xL ?bv ?sa ?ini ?tyI ?kp ?exV ?own ?ty ?up ?tp ?sup ?lI ?cI ?ur ?lc ?lf ?lx
      (case zq => refine' VL.errq KX G ?aC ?cl ?ga ?gg ?su ?hd ?ac ?sp ?tk ?mo ?nw; (case aC => k_is); (case cl => k_is); (case ga => k_is); (case gg => k_is); (case su => k_is); (case hd => k_is); (case ac => k_is); (case sp => k_is); (case tk => k_is); (case mo => k_is); (case nw => k_is))
      (case xL => k_is)
      (case bv => decide +kernel)
      (case sa => k_is)
      (case ini => k_is)
      (case tyI => k_is)
      (case kp => k_is)
      (case exV => k_is)
      (case own => k_is)
      (case ty => k_is)
      (case up => ks_is)
      (case tp => k_is)
      (case sup => k_is)
      (case lI => k_is)
      (case cI => k_is)
      (case ur => exact fun env => ⟨_, rfl⟩)
      (case lc => k_is)
      (case lf => rfl)
      (case lx => k_is)
    case errP =>
      exact ⟨rfl, rfl⟩
    case errT =>
      refine VL.errt (VL.all_cons ?zq0 VL.all_nil) (VL.all_cons ?zg0 (VL.all_cons ?zg1 VL.all_nil)) (VL.all_cons (VL.all_cons ?zp0_0 (VL.all_cons ?zp0_1 VL.all_nil)) VL.all_nil)
      (case zq0 => refine' ⟨_, ?zz⟩; (case zz => refine' VL.errq KX G ?aC ?cl ?ga ?gg ?su ?hd ?ac ?sp ?tk ?mo ?nw; (case aC => k_is); (case cl => k_is); (case ga => k_is); (case gg => k_is); (case su => k_is); (case hd => k_is); (case ac => k_is); (case sp => k_is); (case tk => k_is); (case mo => k_is); (case nw => k_is)))
      (case zg0 => refine' VL.mgex KX G ?a; (case a => k_is))
      (case zg1 => refine' VL.mgex KX G ?a; (case a => k_is))
      (case zp0_0 => refine' VL.pairok KX G ?z1 ?z2 ?z3 ?z4 ?z5 ?z6 ?z7 ?z8; (case z1 => k_is); (case z2 => k_is); (case z3 => k_is); (case z4 => k_is); (case z5 => k_is); (case z6 => k_is); (case z7 => rfl); (case z8 => rfl))
      (case zp0_1 => refine' VL.pairok KX G ?z1 ?z2 ?z3 ?z4 ?z5 ?z6 ?z7 ?z8; (case z1 => k_is); (case z2 => k_is); (case z3 => k_is); (case z4 => k_is); (case z5 => k_is); (case z6 => k_is); (case z7 => rfl); (case z8 => rfl))
#print axioms PySem.Challenge.cw_anypaces_k00_fractions_holds
