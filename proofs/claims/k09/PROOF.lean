import PyProof.Rows.All
import Wide.All
import OpenK.AllK
import Wide.FinOn
import PyProof.EqAt
import PyProof.EqKinds
import PyProof.TupleCall
import HandS.ForMost
import HandS.Exc
import HandS.TryOnly
import HandS.ExcOwn
import HandS.WordsExc
import HandS.More
import HandS.Deep
import HandS.IsInst
import HandS.Wide
import HandS.Style
import HandS.Codes
import PySem.Challenge.RW_cardwhole_k09_chunks_of_a_text
set_option Elab.async false
set_option linter.all false
set_option maxRecDepth 100000
set_option maxHeartbeats 2000000
/-! Cw, part A: data that stands still (S), a ledger of what may change (L), names by data; the judgements. -/
namespace Cw
open PySem PySem.Spec PyProof.Rows L2

/-! ### paired lists -/
section
variable {α β : Type} {F G : α → β → Prop}
theorem pget : ∀ {xs : List α} {ys : List β} {i : Nat} {y : β}, Paired F xs ys → ys[i]? = some y → ∃ x, xs[i]? = some x ∧ F x y
  | _, _, _, _, .nil, h => by simp at h
  | _, _, 0, _, .cons r _, h => ⟨_, rfl, by have e := Option.some.inj h; subst e; exact r⟩
  | _, _, i + 1, y, .cons _ t, h => by
    obtain ⟨x, h1, h2⟩ := pget (i := i) (y := y) t (by simpa using h)
    exact ⟨x, by simpa using h1, h2⟩
theorem pgetL : ∀ {xs : List α} {ys : List β} {i : Nat} {x : α}, Paired F xs ys → xs[i]? = some x → ∃ y, ys[i]? = some y ∧ F x y
  | _, _, _, _, .nil, h => by simp at h
  | _, _, 0, _, .cons r _, h => ⟨_, rfl, by have e := Option.some.inj h; subst e; exact r⟩
  | _, _, i + 1, x, .cons _ t, h => by
    obtain ⟨y, h1, h2⟩ := pgetL (i := i) (x := x) t (by simpa using h)
    exact ⟨y, by simpa using h1, h2⟩
theorem papp : ∀ {xs xs' : List α} {ys ys' : List β}, Paired F xs ys → Paired F xs' ys' → Paired F (xs ++ xs') (ys ++ ys')
  | _, _, _, _, .nil, s => s
  | _, _, _, _, .cons r t, s => .cons r (papp t s)
theorem ptake : ∀ {xs : List α} {ys : List β} (n : Nat), Paired F xs ys → Paired F (xs.take n) (ys.take n)
  | _, _, 0, _ => .nil
  | _, _, _ + 1, .nil => .nil
  | _, _, n + 1, .cons r t => .cons r (ptake n t)
theorem pdrop : ∀ {xs : List α} {ys : List β} (n : Nat), Paired F xs ys → Paired F (xs.drop n) (ys.drop n)
  | _, _, 0, r => r
  | _, _, _ + 1, .nil => .nil
  | _, _, n + 1, .cons _ t => pdrop n t
theorem pset {x : α} {y : β} (r : F x y) : ∀ {xs : List α} {ys : List β} (i : Nat), Paired F xs ys → Paired F (xs.set i x) (ys.set i y)
  | _, _, _, .nil => .nil
  | _, _, 0, .cons _ t => .cons r t
  | _, _, i + 1, .cons q t => .cons q (pset r i t)
theorem prev : ∀ {xs : List α} {ys : List β}, Paired F xs ys → Paired F xs.reverse ys.reverse
  | _, _, .nil => .nil
  | _, _, .cons r t => by
    rw [List.reverse_cons, List.reverse_cons]
    exact papp (prev t) (.cons r .nil)
theorem pflat : ∀ {xss : List α} {ys : List β}, Paired F xss ys → (∀ a b, F a b → G a b) → Paired G xss ys
  | _, _, .nil, _ => .nil
  | _, _, .cons r t, f => .cons (f _ _ r) (pflat t f)
theorem pmap {γ δ : Type} {R : γ → δ → Prop} {f : α → γ} {g : β → δ} (h : ∀ a b, F a b → R (f a) (g b)) : ∀ {xs : List α} {ys : List β}, Paired F xs ys → Paired R (xs.map f) (ys.map g)
  | _, _, .nil => .nil
  | _, _, .cons r t => .cons (h _ _ r) (pmap h t)
end

/-! ### what stands still -/
def Sub (H H' : Hp) : Prop := ∀ a o, H a = some o → H' a = some o
theorem Sub.refl (H : Hp) : Sub H H := fun _ _ h => h
theorem Sub.trans {H H1 H2 : Hp} (a : Sub H H1) (b : Sub H1 H2) : Sub H H2 := fun c o h => b c o (a c o h)
theorem Sub.new {H : Hp} {p : Addr} {o : HO} (h : H p = none) : Sub H (upd H p o) := fun b u e => by
  rw [upd_ne (ne_of_none e h)]
  exact e
theorem Sub.both {S H : Hp} {p : Addr} {o : HO} (h : Sub S H) : Sub (upd S p o) (upd H p o) := fun b u e => by
  by_cases hb : b = p
  · subst hb
    rw [upd_same] at e ⊢
    exact e
  · rw [upd_ne hb] at e ⊢
    exact h b u e
theorem Sub.none {S H : Hp} {p : Addr} (h : Sub S H) (hp : H p = none) : S p = none := by
  cases q : S p with
  | none => rfl
  | some o =>
    rw [h p o q] at hp
    cases hp
/-- H changes where S has nothing -/
theorem Sub.mut {S H : Hp} {p : Addr} {o : HO} (h : Sub S H) (hp : S p = Option.none) : Sub S (upd H p o) := fun b u e => by
  rw [upd_ne (ne_of_none e hp)]
  exact h b u e

mutual
/-- v is the data d, all of whose parts stand in S -/
inductive Da (S : Hp) : V → PyData → Prop
  | non : Da S .non .none
  | bl (b : Bool) : Da S (.bl b) (.bool b)
  | int (i : Int) : Da S (.int i) (.int i)
  | str (x : Str) : Da S (.str x) (.str x)
  | lst {a : Addr} {xs : List V} {ds : List PyData} : S a = some (.lst xs) → DaAll S xs ds → Da S (.ref a) (.list ds)
  | tup {a : Addr} {xs : List V} {ds : List PyData} : S a = some (.tup xs) → DaAll S xs ds → Da S (.ref a) (.tuple ds)
inductive DaAll (S : Hp) : List V → List PyData → Prop
  | nil : DaAll S [] []
  | cons {v : V} {vs : List V} {d : PyData} {ds : List PyData} : Da S v d → DaAll S vs ds → DaAll S (v :: vs) (d :: ds)
end
section
variable {S S' : Hp} {K : PySem.W.Frag}
theorem DaAll.pd : ∀ {xs : List V} {ds : List PyData}, DaAll S xs ds → Paired (Da S) xs ds
  | _, _, .nil => .nil
  | _, _, .cons h t => .cons h t.pd
theorem DaAll.of : ∀ {xs : List V} {ds : List PyData}, Paired (Da S) xs ds → DaAll S xs ds
  | _, _, .nil => .nil
  | _, _, .cons h t => .cons h (DaAll.of t)
mutual
theorem Da.mono (h : Sub S S') : ∀ {v : V} {d : PyData}, Da S v d → Da S' v d
  | _, _, .non => .non
  | _, _, .bl b => .bl b
  | _, _, .int i => .int i
  | _, _, .str x => .str x
  | _, _, .lst e t => .lst (h _ _ e) (DaAll.mono h t)
  | _, _, .tup e t => .tup (h _ _ e) (DaAll.mono h t)
theorem DaAll.mono (h : Sub S S') : ∀ {xs : List V} {ds : List PyData}, DaAll S xs ds → DaAll S' xs ds
  | _, _, .nil => .nil
  | _, _, .cons a t => .cons (Da.mono h a) (DaAll.mono h t)
end
mutual
theorem Da.dp : ∀ {v : V} {d : PyData}, Da S v d → Dp K S v d
  | _, _, .non => .non
  | _, _, .bl b => .bl b
  | _, _, .int i => .int i
  | _, _, .str x => .str x
  | _, _, .lst e t => .lst (SqL.of e) (DaAll.dp t)
  | _, _, .tup e t => .tup (SqT.of e) (DaAll.dp t)
theorem DaAll.dp : ∀ {xs : List V} {ds : List PyData}, DaAll S xs ds → DpAll K S xs ds
  | _, _, .nil => .nil
  | _, _, .cons a t => .cons (Da.dp a) (DaAll.dp t)
end
end

/-! ### results, objects that may change -/
/-- a value: data, or the very value (a handle) -/
inductive Rv where
  | dt (x : PyData) | vl (x : V)
def Rv.is (S : Hp) : Rv → V → Prop
  | .dt x, u => Da S u x
  | .vl x, u => u = x
theorem Rv.is.mono {S S' : Hp} (h : Sub S S') : ∀ {r : Rv} {v : V}, r.is S v → r.is S' v
  | .dt _, _, a => Da.mono h a
  | .vl _, _, a => a
abbrev Rvs (S : Hp) (rs : List Rv) (vs : List V) : Prop := Paired (fun r v => Rv.is S r v) rs vs
theorem Rvs.mono {S S' : Hp} (h : Sub S S') {rs : List Rv} {vs : List V} (a : Rvs S rs vs) : Rvs S' rs vs := pflat a fun _ _ => Rv.is.mono h
theorem Rvs.data {S : Hp} : ∀ {ds : List PyData} {vs : List V}, Rvs S (ds.map Rv.dt) vs → DaAll S vs ds
  | [], _, .nil => .nil
  | _ :: _, _, .cons a t => .cons a (Rvs.data t)
theorem Rvs.of {S : Hp} : ∀ {ds : List PyData} {vs : List V}, DaAll S vs ds → Rvs S (ds.map Rv.dt) vs
  | _, _, .nil => .nil
  | _, _, .cons a t => .cons a (Rvs.of t)
inductive MO where
  | lst (rs : List Rv)
  | ins (C : Addr) (fs : List (Str × Rv))
  | dK (kvs : List (Key × Rv))
  | dT (kvs : List (List Key × Rv))
  /-- a list that is read alone: the script -/
  | frz (rs : List Rv)
abbrev RF (S : Hp) {κ : Type} (fs : List (κ × Rv)) (gs : List (κ × V)) : Prop := Paired (fun p q => p.1 = q.1 ∧ Rv.is S p.2 q.2) fs gs
theorem RF.mono {S S' : Hp} {κ : Type} (h : Sub S S') {rs : List (κ × Rv)} {vs : List (κ × V)} (a : RF S rs vs) : RF S' rs vs := pflat a fun _ _ r => ⟨r.1, r.2.mono h⟩
def MO.is (S : Hp) : MO → HO → Prop
  | .lst rs, o => ∃ xs, o = .lst xs ∧ Rvs S rs xs
  | .ins C fs, o => ∃ dx gs, o = .ins C dx gs ∧ RF S fs gs
  | .dK kvs, o => ∃ gs, o = .dK gs ∧ RF S kvs gs
  | .dT kvs, o => ∃ gs, o = .dT gs ∧ RF S kvs gs
  | .frz rs, o => ∃ ob xs, o = .frz ob (.lst xs) ∧ Rvs S rs xs
theorem MO.is.mono {S S' : Hp} (h : Sub S S') : ∀ {m : MO} {o : HO}, m.is S o → m.is S' o
  | .lst _, _, ⟨xs, e, r⟩ => ⟨xs, e, r.mono h⟩
  | .ins _ _, _, ⟨dx, gs, e, r⟩ => ⟨dx, gs, e, RF.mono h r⟩
  | .dK _, _, ⟨gs, e, r⟩ => ⟨gs, e, RF.mono h r⟩
  | .dT _, _, ⟨gs, e, r⟩ => ⟨gs, e, RF.mono h r⟩
  | .frz _, _, ⟨ob, xs, e, r⟩ => ⟨ob, xs, e, r.mono h⟩
abbrev Led := Addr → Option MO
def updL (L : Led) (a : Addr) (m : MO) : Led := fun b => if b = a then some m else L b
theorem updL_same {L : Led} {a : Addr} {m : MO} : updL L a m a = some m := by unfold updL; rw [if_pos rfl]
theorem updL_ne {L : Led} {a b : Addr} {m : MO} (h : b ≠ a) : updL L a m b = L b := by unfold updL; rw [if_neg h]
theorem updL_updL {L : Led} {a : Addr} {m n : MO} : updL (updL L a m) a n = updL L a n := by
  funext b; unfold updL; split <;> rfl
theorem updL_comm {L : Led} {a b : Addr} {m n : MO} (h : a ≠ b) : updL (updL L a m) b n = updL (updL L b n) a m := by
  funext c
  unfold updL
  by_cases h1 : c = a
  · subst h1
    rw [if_neg h, if_pos rfl, if_pos rfl]
  · by_cases h2 : c = b
    · subst h2
      rw [if_pos rfl, if_neg h1, if_pos rfl]
    · rw [if_neg h2, if_neg h1, if_neg h1, if_neg h2]
theorem updL_eta {L : Led} {a : Addr} {m : MO} (h : L a = some m) : updL L a m = L := by
  funext b
  unfold updL
  split
  · rename_i e
    subst e
    exact h.symm
  · rfl
def delL (L : Led) (a : Addr) : Led := fun b => if b = a then none else L b
def Le (L L' : Led) : Prop := ∀ a m, L a = some m → L' a = some m
theorem Le.refl (L : Led) : Le L L := fun _ _ h => h
theorem Le.trans {L L1 L2 : Led} (a : Le L L1) (b : Le L1 L2) : Le L L2 := fun c o h => b c o (a c o h)

structure Ok (S H : Hp) (L : Led) : Prop where
  sub : Sub S H
  led : ∀ a m, L a = some m → S a = none ∧ ∃ o, H a = some o ∧ m.is S o
section
variable {S H : Hp} {L L' : Led} {p : Addr} {o o' : HO} {m : MO}
theorem Ok.le (k : Ok S H L) (h : Le L' L) : Ok S H L' := ⟨k.sub, fun a m e => k.led a m (h a m e)⟩
theorem Ok.free (k : Ok S H L) (h : H p = none) : L p = none := by
  cases q : L p with
  | none => rfl
  | some m =>
    obtain ⟨_, o, e, _⟩ := k.led p m q
    rw [h] at e
    cases e
/-- a new object, for good -/
theorem Ok.still (k : Ok S H L) (h : H p = none) : Ok (upd S p o) (upd H p o) L := ⟨k.sub.both, fun a m e => by
  obtain ⟨s, o', e', i⟩ := k.led a m e
  have ne : a ≠ p := ne_of_none e' h
  exact ⟨by rw [upd_ne ne]; exact s, o', by rw [upd_ne ne]; exact e', i.mono (Sub.new (k.sub.none h))⟩⟩
/-- a new object that may change -/
theorem Ok.new (k : Ok S H L) (h : H p = none) (i : m.is S o) : Ok S (upd H p o) (updL L p m) := ⟨k.sub.mut (k.sub.none h), fun a m' e => by
  by_cases ha : a = p
  · subst ha
    rw [updL_same] at e
    cases e
    exact ⟨k.sub.none h, o, upd_same, i⟩
  · rw [updL_ne ha] at e
    obtain ⟨s, o', e', i'⟩ := k.led a m' e
    exact ⟨s, o', by rw [upd_ne ha]; exact e', i'⟩⟩
/-- a new object that nobody asks after -/
theorem Ok.dust (k : Ok S H L) (h : H p = none) : Ok S (upd H p o) L := ⟨k.sub.mut (k.sub.none h), fun a m' e => by
  obtain ⟨s, o', e', i'⟩ := k.led a m' e
  exact ⟨s, o', by rw [upd_ne (ne_of_none e' h)]; exact e', i'⟩⟩
/-- an object of the ledger changes -/
theorem Ok.write {m0 : MO} (k : Ok S H L) (h : L p = some m0) (i : m.is S o) : Ok S (upd H p o) (updL L p m) := by
  have sp := (k.led p m0 h).1
  exact ⟨k.sub.mut sp, fun a m' e => by
    by_cases ha : a = p
    · subst ha
      rw [updL_same] at e
      cases e
      exact ⟨sp, o, upd_same, i⟩
    · rw [updL_ne ha] at e
      obtain ⟨s, o', e', i'⟩ := k.led a m' e
      exact ⟨s, o', by rw [upd_ne ha]; exact e', i'⟩⟩
/-- a list of the ledger is data from now on -/
theorem Ok.settle {ds : List PyData} (k : Ok S H L) (h : L p = some (.lst (ds.map Rv.dt))) : ∃ S', Sub S S' ∧ Ok S' H (delL L p) ∧ Da S' (.ref p) (.list ds) ∧ ∀ a o, S' a = some o → S a = none → a = p := by
  obtain ⟨sp, o, e, xs, rfl, i⟩ := k.led p _ h
  have sub : Sub S (upd S p (.lst xs)) := Sub.new sp
  refine ⟨upd S p (.lst xs), sub, ⟨fun b u eb => ?_, fun a m' ea => ?_⟩, .lst upd_same ((Rvs.data i).mono sub), fun a o e n => ?_⟩
  · by_cases hb : b = p
    · subst hb
      rw [upd_same] at eb
      cases eb
      exact e
    · rw [upd_ne hb] at eb
      exact k.sub b u eb
  · unfold delL at ea
    split at ea
    · cases ea
    · rename_i ne
      obtain ⟨s, o', e', i'⟩ := k.led a m' ea
      exact ⟨by rw [upd_ne ne]; exact s, o', e', i'.mono sub⟩
  · by_cases ha : a = p
    · exact ha
    · rw [upd_ne ha, n] at e
      cases e
end

/-! ### steps -/
/-- from (S, H, L) to (S', H', L'): what stands stands; what no ledger knew is as it was; what is new in the ledger was nothing -/
structure Step (S H : Hp) (L : Led) (S' H' : Hp) (L' : Led) : Prop where
  sub : Sub S S'
  ok : Ok S' H' L'
  fr : ∀ a o, H a = some o → L a = none → H' a = some o
  nw : ∀ a m, L' a = some m → L a = none → H a = none
  ns : ∀ a o, S' a = some o → S a = none → L a = none → H a = none
section
variable {S H S1 H1 S2 H2 : Hp} {L L' La Lb : Led} {p : Addr} {o : HO} {m m0 : MO}
theorem Step.refl (k : Ok S H L) : Step S H L S H L := ⟨Sub.refl S, k, fun _ _ e _ => e, (fun _ _ e n => by rw [e] at n; cases n), fun _ _ e n _ => by rw [e] at n; cases n⟩
theorem Step.trans (a : Step S H L S1 H1 La) (b : Step S1 H1 La S2 H2 Lb) : Step S H L S2 H2 Lb := ⟨a.sub.trans b.sub, b.ok, fun c o e n => b.fr c o (a.fr c o e n) (by
  cases q : La c with
  | none => rfl
  | some m =>
    have z := a.nw c m q n
    rw [e] at z
    cases z), (fun c m e n => by
  cases q : La c with
  | some m' => exact a.nw c m' q n
  | none =>
    have z := b.nw c m e q
    cases r : H c with
    | none => rfl
    | some o =>
      rw [a.fr c o r n] at z
      cases z), fun c o e n nl => by
  cases q : S1 c with
  | some o' => exact a.ns c o' q n nl
  | none =>
    cases q2 : La c with
    | some m' => exact a.nw c m' q2 nl
    | none =>
      have z := b.ns c o e q q2
      cases r : H c with
      | none => rfl
      | some o =>
        rw [a.fr c o r nl] at z
        cases z⟩
theorem Step.still (k : Ok S H L) (h : H p = none) : Step S H L (upd S p o) (upd H p o) L := ⟨Sub.new (k.sub.none h), k.still h, fun a u e _ => Sub.new h a u e, (fun _ _ e n => by rw [e] at n; cases n), fun a u e n _ => by
  by_cases ha : a = p
  · subst ha
    exact h
  · rw [upd_ne ha, n] at e
    cases e⟩
theorem Step.new (k : Ok S H L) (h : H p = none) (i : m.is S o) : Step S H L S (upd H p o) (updL L p m) := ⟨Sub.refl S, k.new h i, fun a u e _ => Sub.new h a u e, (fun a m' e n => by
  by_cases ha : a = p
  · subst ha
    exact h
  · rw [updL_ne ha, n] at e
    cases e), fun _ _ e n _ => by rw [e] at n; cases n⟩
theorem Step.dust (k : Ok S H L) (h : H p = none) : Step S H L S (upd H p o) L := ⟨Sub.refl S, k.dust h, fun a u e _ => Sub.new h a u e, (fun _ _ e n => by rw [e] at n; cases n), fun _ _ e n _ => by rw [e] at n; cases n⟩
theorem Step.write (k : Ok S H L) (h : L p = some m0) (i : m.is S o) : Step S H L S (upd H p o) (updL L p m) := ⟨Sub.refl S, k.write h i, (fun a u e n => by
  have ne : a ≠ p := fun z => by rw [z, h] at n; cases n
  rw [upd_ne ne]
  exact e), (fun a m' e n => by
  have ne : a ≠ p := fun z => by rw [z, h] at n; cases n
  rw [updL_ne ne, n] at e
  cases e), fun _ _ e n _ => by rw [e] at n; cases n⟩
theorem Step.le (t : Step S H L S1 H1 La) (h : Le Lb La) : Step S H L S1 H1 Lb := ⟨t.sub, t.ok.le h, t.fr, fun a m e n => t.nw a m (h a m e) n, t.ns⟩
/-- the ledger ahead may be forgotten -/
theorem Step.pre (t : Step S H L S1 H1 La) (h : Le L L') (k : Ok S H L') : Step S H L' S1 H1 La := ⟨t.sub, t.ok, fun a o e n => t.fr a o e (by
  cases q : L a with
  | none => rfl
  | some m => rw [h a m q] at n; cases n), (fun a m e n => t.nw a m e (by
  cases q : L a with
  | none => rfl
  | some m => rw [h a m q] at n; cases n)), fun a o e n nl => t.ns a o e n (by
  cases q : L a with
  | none => rfl
  | some m => rw [h a m q] at nl; cases nl)⟩
theorem Step.settle {ds : List PyData} (k : Ok S H L) (h : L p = some (.lst (ds.map Rv.dt))) : ∃ S', Step S H L S' H (delL L p) ∧ Da S' (.ref p) (.list ds) := by
  obtain ⟨S', a, b, c, d⟩ := k.settle h
  exact ⟨S', ⟨a, b, fun _ _ e _ => e, (fun x m e n => by
    unfold delL at e
    split at e
    · cases e
    · rw [e] at n
      cases n), fun x o e n nl => by
    have z := d x o e n
    rw [z, h] at nl
    cases nl⟩, c⟩
end

/-! ### names -/
abbrev Slots := List (Option V)
abbrev Rho := List (Option Rv)
structure Es (S : Hp) (σ : Slots) (ρ : Rho) : Prop where
  len : σ.length = ρ.length
  at_ : ∀ (i : Nat) (r : Rv), ρ[i]? = some (some r) → ∃ v, σ[i]? = some (some v) ∧ r.is S v
section
variable {S S' : Hp} {σ : Slots} {ρ : Rho}
theorem Es.mono (h : Sub S S') (e : Es S σ ρ) : Es S' σ ρ := ⟨e.len, fun i r q => by
  obtain ⟨v, a, b⟩ := e.at_ i r q
  exact ⟨v, a, b.mono h⟩⟩
theorem Es.set {i : Nat} {r : Rv} {v : V} (e : Es S σ ρ) (q : r.is S v) : Es S (σ.set i (some v)) (ρ.set i (some r)) := ⟨by rw [List.length_set, List.length_set]; exact e.len, fun j r' h => by
  by_cases hj : i = j
  · subst hj
    have hl : i < ρ.length := by
      have := (List.getElem?_eq_some_iff.mp h).1
      rwa [List.length_set] at this
    rw [List.getElem?_set_self hl] at h
    cases h
    exact ⟨v, List.getElem?_set_self (by rw [e.len]; exact hl), q⟩
  · rw [List.getElem?_set_ne hj] at h ⊢
    exact e.at_ j r' h⟩
/-- slots forgotten -/
def Fg (ρ ρ' : Rho) : Prop := ρ.length = ρ'.length ∧ ∀ (i : Nat) (r : Rv), ρ[i]? = some (some r) → ρ'[i]? = some (some r)
theorem Es.fg {ρ' : Rho} (e : Es S σ ρ') (h : Fg ρ ρ') : Es S σ ρ := ⟨e.len.trans h.1.symm, fun i r q => e.at_ i r (h.2 i r q)⟩
theorem Es.wipe (e : Es S σ ρ) : ∀ (vs : List Nat), Es S (L2.wipe σ vs) (vs.foldr (fun v ρ => ρ.set v none) ρ)
  | [] => e
  | v :: vs => by
    have q := Es.wipe e vs
    refine ⟨?_, fun j r h => ?_⟩
    · show ((L2.wipe σ vs).set v none).length = ((vs.foldr (fun v ρ => ρ.set v none) ρ).set v none).length
      rw [List.length_set, List.length_set]
      exact q.len
    · have h' : ((vs.foldr (fun v ρ => ρ.set v none) ρ).set v none)[j]? = some (some r) := h
      show ∃ w, ((L2.wipe σ vs).set v none)[j]? = some (some w) ∧ _
      by_cases hj : v = j
      · subst hj
        by_cases hl : v < (vs.foldr (fun v ρ => ρ.set v none) ρ).length
        · rw [List.getElem?_set_self hl] at h'
          cases h'
        · rw [List.getElem?_eq_none (by rw [List.length_set]; omega)] at h'
          cases h'
      · rw [List.getElem?_set_ne hj] at h' ⊢
        exact q.at_ j r h'
end

/-! ### the judgements -/
structure Cm where
  X : Cx
  W : WX
  xc : Value → Rho → Led → Prop
  tk : Takes X W
  po : PassesOwn (model X.prog X.w) X.A X.env X.xe
structure At (Y : Cm) (ρ : Rho) (L : Led) (S : Hp) (σ : Slots) (H : Hp) : Prop where
  ok : Ok S H L
  es : Es S σ ρ
  lx : ∀ c ρ' L' S' H' σ', Y.xc c ρ' L' → Step S H L S' H' L' → Es S' σ' ρ' → Y.W c none σ' H'
theorem At.next {Y : Cm} {ρ : Rho} {L L' : Led} {S S' : Hp} {σ : Slots} {H H' : Hp} (a : At Y ρ L S σ H) (t : Step S H L S' H' L') : At Y ρ L' S' σ H' :=
  ⟨t.ok, a.es.mono t.sub, fun c ρ2 L2 S2 H2 σ2 x s => a.lx c ρ2 L2 S2 H2 σ2 x (t.trans s)⟩
theorem At.env {Y : Cm} {ρ ρ' : Rho} {L : Led} {S : Hp} {σ σ' : Slots} {H : Hp} (a : At Y ρ L S σ H) (e : Es S σ' ρ') : At Y ρ' L S σ' H := ⟨a.ok, e, a.lx⟩

def wE (X : Cx) (e : Expr) : TE := fun σ H Q => ∀ pins s, Inv X pins σ H s → wpAny (model X.prog X.w) X.A (eval e X.env) (EP X pins σ Q) X.xe s
def wT (X : Cx) (e : Expr) : TT := fun σ H Q => ∀ pins s, Inv X pins σ H s → wpAny (model X.prog X.w) X.A (isTrue e X.env (eval e X.env)) (TP X pins σ Q) X.xe s
def wW (X : Cx) (e : Expr) : TT := fun σ H Q => ∀ whole pins s, Inv X pins σ H s → wpAny (model X.prog X.w) X.A (isTrue e X.env whole) (TP X pins σ Q) X.xe s
def wA (X : Cx) (es : List Expr) : TA := fun σ H Q => ∀ pos pins s, Inv X pins σ H s → wpAny (model X.prog X.w) X.A (spliced (backTo pos (starEach es X.env))) (AP X pins σ Q) X.xe s
def wS (X : Cx) (st : Stmt) : TS := fun D σ H => ∀ pins s, Inv X pins σ H s → wpAny (model X.prog X.w) X.A (exec st X.env) (SP X pins D) X.xe s
def wSs (X : Cx) (st : List Stmt) : TS := fun D σ H => ∀ pins s, Inv X pins σ H s → wpAny (model X.prog X.w) X.A (execs st X.env) (SP X pins D) X.xe s
def wI (X : Cx) (tg iter : Expr) : TI := fun σ H R => ∀ pins s, Inv X pins σ H s → wpAny (model X.prog X.w) X.A (eval iter X.env) (fun v s1 => wpAny (model X.prog X.w) X.A (pyIter v) (PIE X pins σ tg R) X.xe s1) X.xe s
section
variable {X : Cx} {e : Expr} {es : List Expr} {st : Stmt} {sts : List Stmt}
theorem wE.pe : PE X e (wE X e) := ⟨fun pins s _ _ _ I h => h pins s I⟩
theorem wT.pt : PT X e (wT X e) := ⟨fun pins s _ _ _ I h => h pins s I⟩
theorem wW.pw : PW X e (wW X e) := ⟨fun wh pins s _ _ _ I h => h wh pins s I⟩
theorem wA.pa : PA X es (wA X es) := ⟨fun pos pins s _ _ _ I h => h pos pins s I⟩
theorem wS.ps : PS X st (wS X st) := ⟨fun pins s _ _ _ I h => h pins s I⟩
theorem wSs.ps : PSs X sts (wSs X sts) := ⟨fun pins s _ _ _ I h => h pins s I⟩
theorem wI.pi {tg : Expr} : PI X tg e (wI X tg e) := ⟨fun pins s _ _ _ I h => h pins s I⟩
theorem wE.of {t : TE} (h : PE X e t) {σ : Slots} {H : Hp} {Q : VK} (q : t σ H Q) : wE X e σ H Q := fun pins s I => h.run pins s σ H Q I q
theorem wT.of {t : TT} (h : PT X e t) {σ : Slots} {H : Hp} {Q : Bool → Hp → Prop} (q : t σ H Q) : wT X e σ H Q := fun pins s I => h.run pins s σ H Q I q
theorem wW.of {t : TT} (h : PW X e t) {σ : Slots} {H : Hp} {Q : Bool → Hp → Prop} (q : t σ H Q) : wW X e σ H Q := fun wh pins s I => h.run wh pins s σ H Q I q
theorem wA.of {t : TA} (h : PA X es t) {σ : Slots} {H : Hp} {Q : List V → Hp → Prop} (q : t σ H Q) : wA X es σ H Q := fun pos pins s I => h.run pos pins s σ H Q I q
theorem wS.of {t : TS} (h : PS X st t) {σ : Slots} {H : Hp} {D : Ends} (q : t D σ H) : wS X st D σ H := fun pins s I => h.run pins s σ H D I q
theorem wSs.of {t : TS} (h : PSs X sts t) {σ : Slots} {H : Hp} {D : Ends} (q : t D σ H) : wSs X sts D σ H := fun pins s I => h.run pins s σ H D I q
theorem wI.of {tg : Expr} {t : TI} (h : PI X tg e t) {σ : Slots} {H : Hp} {R : It → Hp → Prop} (q : t σ H R) : wI X tg e σ H R := fun pins s I => h.run pins s σ H R I q
end

/-- e, from (ρ, L), gives a value and a ledger that K holds of -/
structure ME (Y : Cm) (e : Expr) (ρ : Rho) (L : Led) (K : Rv → Led → Prop) : Prop where
  run : ∀ S σ H, At Y ρ L S σ H → ∀ Q : VK, (∀ r L' S' H' v, K r L' → Step S H L S' H' L' → r.is S' v → Q v H') → wE Y.X e σ H Q
structure MT (Y : Cm) (e : Expr) (ρ : Rho) (L : Led) (K : Bool → Led → Prop) : Prop where
  run : ∀ S σ H, At Y ρ L S σ H → ∀ Q : Bool → Hp → Prop, (∀ b L' S' H', K b L' → Step S H L S' H' L' → Q b H') → wT Y.X e σ H Q
structure MW (Y : Cm) (e : Expr) (ρ : Rho) (L : Led) (K : Bool → Led → Prop) : Prop where
  run : ∀ S σ H, At Y ρ L S σ H → ∀ Q : Bool → Hp → Prop, (∀ b L' S' H', K b L' → Step S H L S' H' L' → Q b H') → wW Y.X e σ H Q
structure MA (Y : Cm) (es : List Expr) (ρ : Rho) (L : Led) (K : List Rv → Led → Prop) : Prop where
  run : ∀ S σ H, At Y ρ L S σ H → ∀ Q : List V → Hp → Prop, (∀ rs L' S' H' vs, K rs L' → Step S H L S' H' L' → Rvs S' rs vs → Q vs H') → wA Y.X es σ H Q
/-- .. exactly r and L' -/
abbrev EX (Y : Cm) (e : Expr) (ρ : Rho) (L : Led) (r : Rv) (L' : Led) : Prop := ME Y e ρ L fun r1 L1 => r1 = r ∧ L1 = L'
abbrev TX (Y : Cm) (e : Expr) (ρ : Rho) (L : Led) (b : Bool) (L' : Led) : Prop := MT Y e ρ L fun r1 L1 => r1 = b ∧ L1 = L'
abbrev WX' (Y : Cm) (e : Expr) (ρ : Rho) (L : Led) (b : Bool) (L' : Led) : Prop := MW Y e ρ L fun r1 L1 => r1 = b ∧ L1 = L'
abbrev AX (Y : Cm) (es : List Expr) (ρ : Rho) (L : Led) (rs : List Rv) (L' : Led) : Prop := MA Y es ρ L fun r1 L1 => r1 = rs ∧ L1 = L'
theorem ME.imp {Y : Cm} {e : Expr} {ρ : Rho} {L : Led} {K K' : Rv → Led → Prop} (h : ME Y e ρ L K) (i : ∀ r L', K r L' → K' r L') : ME Y e ρ L K' := ⟨fun S σ H a Q q => h.run S σ H a Q fun r L' S' H' v k => q r L' S' H' v (i r L' k)⟩
theorem MT.imp {Y : Cm} {e : Expr} {ρ : Rho} {L : Led} {K K' : Bool → Led → Prop} (h : MT Y e ρ L K) (i : ∀ r L', K r L' → K' r L') : MT Y e ρ L K' := ⟨fun S σ H a Q q => h.run S σ H a Q fun r L' S' H' k => q r L' S' H' (i r L' k)⟩
theorem EX.to {Y : Cm} {e : Expr} {ρ : Rho} {L L' : Led} {r : Rv} {K : Rv → Led → Prop} (h : EX Y e ρ L r L') (k : K r L') : ME Y e ρ L K := ME.imp h fun _ _ ⟨a, b⟩ => by subst a; subst b; exact k
theorem EX.eq {Y : Cm} {e : Expr} {ρ : Rho} {L L' : Led} {r r' : Rv} (h : EX Y e ρ L r L') (k : r = r') : EX Y e ρ L r' L' := by subst k; exact h
theorem TX.eq {Y : Cm} {e : Expr} {ρ : Rho} {L L' : Led} {r r' : Bool} (h : TX Y e ρ L r L') (k : r = r') : TX Y e ρ L r' L' := by subst k; exact h

/-- what is wanted behind a statement that does not go on -/
structure Nd where
  rt : Rv → Led → Prop
  bk : Rho → Led → Prop := fun _ _ => False
  ct : Rho → Led → Prop := fun _ _ => False
structure Lift (S H : Hp) (L : Led) (N : Rho → Led → Prop) (D : Nd) (De : Ends) : Prop where
  nx : ∀ ρ L' S' H' σ, N ρ L' → Step S H L S' H' L' → Es S' σ ρ → De.nx σ H'
  rt : ∀ r L' S' H' v, D.rt r L' → Step S H L S' H' L' → r.is S' v → De.rt v H'
  bk : ∀ ρ L' S' H' σ, D.bk ρ L' → Step S H L S' H' L' → Es S' σ ρ → De.bk σ H'
  ct : ∀ ρ L' S' H' σ, D.ct ρ L' → Step S H L S' H' L' → Es S' σ ρ → De.ct σ H'
theorem Lift.mono {S S' H H' : Hp} {L L' : Led} {N : Rho → Led → Prop} {D : Nd} {De : Ends} (l : Lift S H L N D De) (t : Step S H L S' H' L') : Lift S' H' L' N D De :=
  ⟨fun ρ L S2 H σ k s => l.nx ρ L S2 H σ k (t.trans s), fun r L S2 H v k s => l.rt r L S2 H v k (t.trans s), fun ρ L S2 H σ k s => l.bk ρ L S2 H σ k (t.trans s), fun ρ L S2 H σ k s => l.ct ρ L S2 H σ k (t.trans s)⟩
structure MS (Y : Cm) (st : Stmt) (N : Rho → Led → Prop) (D : Nd) (ρ : Rho) (L : Led) : Prop where
  run : ∀ S σ H, At Y ρ L S σ H → ∀ De, Lift S H L N D De → wS Y.X st De σ H
structure MSs (Y : Cm) (sts : List Stmt) (N : Rho → Led → Prop) (D : Nd) (ρ : Rho) (L : Led) : Prop where
  run : ∀ S σ H, At Y ρ L S σ H → ∀ De, Lift S H L N D De → wSs Y.X sts De σ H
end Cw

set_option Elab.async false
set_option linter.all false
set_option maxRecDepth 100000
set_option maxHeartbeats 2000000
/-! Cw, part B: expressions. -/
namespace Cw
open PySem PySem.Spec PyProof.Rows L2

/-! ### what a list or a tuple is, by data or as a handle -/
/-- r is a list of rs: data, or an object of the ledger -/
def LR (L : Led) (r : Rv) (rs : List Rv) : Prop := (∃ ds, r = .dt (.list ds) ∧ rs = ds.map Rv.dt) ∨ ∃ p, r = .vl (.ref p) ∧ L p = some (.lst rs)
abbrev LL (L : Led) (r : Rv) (ds : List PyData) : Prop := LR L r (ds.map Rv.dt)
theorem LR.at_ {S H : Hp} {L : Led} {r : Rv} {rs : List Rv} {x : V} (h : LR L r rs) (k : Ok S H L) (i : r.is S x) : ∃ a xs, x = .ref a ∧ H a = some (.lst xs) ∧ Rvs S rs xs := by
  rcases h with ⟨ds, rfl, rfl⟩ | ⟨p, rfl, e⟩
  · cases i with
    | lst e t => exact ⟨_, _, rfl, k.sub _ _ e, Rvs.of t⟩
  · obtain ⟨_, o, e2, xs, rfl, t⟩ := k.led p _ e
    exact ⟨p, xs, i, e2, t⟩
theorem LL.at_ {S H : Hp} {L : Led} {r : Rv} {ds : List PyData} {x : V} (h : LL L r ds) (k : Ok S H L) (i : r.is S x) : ∃ a xs, x = .ref a ∧ H a = some (.lst xs) ∧ DaAll S xs ds := by
  obtain ⟨a, xs, e, e2, t⟩ := LR.at_ h k i
  exact ⟨a, xs, e, e2, Rvs.data t⟩
theorem LL.dt {L : Led} {ds : List PyData} : LL L (.dt (.list ds)) ds := .inl ⟨ds, rfl, rfl⟩
theorem LR.h {L : Led} {p : Addr} {rs : List Rv} (h : L p = some (.lst rs)) : LR L (.vl (.ref p)) rs := .inr ⟨p, rfl, h⟩
theorem LL.h {L : Led} {p : Addr} {ds : List PyData} (h : L p = some (.lst (ds.map Rv.dt))) : LL L (.vl (.ref p)) ds := .inr ⟨p, rfl, h⟩
theorem Da.tupAt {S H : Hp} {L : Led} {ds : List PyData} {x : V} (k : Ok S H L) (i : Rv.is S (.dt (.tuple ds)) x) : ∃ a xs, x = .ref a ∧ S a = some (.tup xs) ∧ H a = some (.tup xs) ∧ DaAll S xs ds := by
  cases i with
  | tup e t => exact ⟨_, _, rfl, e, k.sub _ _ e, t⟩
theorem Da.intAt {S : Hp} {n : Int} {x : V} (i : Rv.is S (.dt (.int n)) x) : x = .int n := by cases i; rfl
theorem Da.strAt {S : Hp} {z : Str} {x : V} (i : Rv.is S (.dt (.str z)) x) : x = .str z := by cases i; rfl
theorem Da.blAt {S : Hp} {z : Bool} {x : V} (i : Rv.is S (.dt (.bool z)) x) : x = .bl z := by cases i; rfl
theorem Da.nonAt {S : Hp} {x : V} (i : Rv.is S (.dt .none) x) : x = .non := by cases i; rfl
theorem DaAll.len {S : Hp} {xs : List V} {ds : List PyData} (h : DaAll S xs ds) : xs.length = ds.length := h.pd.length
theorem Rvs.len {S : Hp} {rs : List Rv} {xs : List V} (h : Rvs S rs xs) : rs.length = xs.length := Paired.length h

mutual
/-- r reads as the data d: data, or lists of the ledger all the way down -/
inductive DD (L : Led) : Rv → PyData → Prop
  | dt {d : PyData} : DD L (.dt d) d
  | lst {p : Addr} {rs : List Rv} {ds : List PyData} : L p = some (.lst rs) → DDs L rs ds → DD L (.vl (.ref p)) (.list ds)
inductive DDs (L : Led) : List Rv → List PyData → Prop
  | nil : DDs L [] []
  | cons {r : Rv} {rs : List Rv} {d : PyData} {ds : List PyData} : DD L r d → DDs L rs ds → DDs L (r :: rs) (d :: ds)
end
theorem DDs.pd {L : Led} : ∀ {rs : List Rv} {ds : List PyData}, DDs L rs ds → Paired (DD L) rs ds
  | _, _, .nil => .nil
  | _, _, .cons a t => .cons a t.pd
theorem DDs.of {L : Led} : ∀ {rs : List Rv} {ds : List PyData}, Paired (DD L) rs ds → DDs L rs ds
  | _, _, .nil => .nil
  | _, _, .cons a t => .cons a (DDs.of t)
theorem DDs.data {L : Led} : ∀ (ds : List PyData), DDs L (ds.map Rv.dt) ds
  | [] => .nil
  | _ :: ds => .cons .dt (DDs.data ds)
theorem DD.lists {L : Led} {r : Rv} {ds : List PyData} (h : DD L r (.list ds)) : ∃ rs, LR L r rs ∧ Paired (DD L) rs ds := by
  cases h with
  | dt => exact ⟨_, LL.dt, (DDs.data ds).pd⟩
  | lst e t => exact ⟨_, LR.h e, t.pd⟩
theorem DD.ofLL {L : Led} {p : Addr} {ds : List PyData} (h : L p = some (.lst (ds.map Rv.dt))) : DD L (.vl (.ref p)) (.list ds) := .lst h (DDs.data ds)
mutual
theorem DD.at_ {K : PySem.W.Frag} {S H : Hp} {L : Led} (k : Ok S H L) : ∀ {r : Rv} {d : PyData} {x : V}, DD L r d → r.is S x → Dp K H x d
  | _, _, _, .dt, i => (Da.mono k.sub i).dp
  | _, _, x, .lst (p := p) e t, i => by
    obtain ⟨_, o, e2, xs, rfl, rv⟩ := k.led p _ e
    have ex : x = .ref p := i
    subst ex
    exact .lst (SqL.of e2) (DDs.at_ k t rv)
theorem DDs.at_ {K : PySem.W.Frag} {S H : Hp} {L : Led} (k : Ok S H L) : ∀ {rs : List Rv} {ds : List PyData} {xs : List V}, DDs L rs ds → Rvs S rs xs → DpAll K H xs ds
  | _, _, _, .nil, .nil => .nil
  | _, _, _, .cons a t, .cons i is => .cons (DD.at_ k a i) (DDs.at_ k t is)
end
mutual
theorem DD.mono {L L' : Led} (h : ∀ a rs, L a = some (.lst rs) → L' a = some (.lst rs)) : ∀ {r : Rv} {d : PyData}, DD L r d → DD L' r d
  | _, _, .dt => .dt
  | _, _, .lst e t => .lst (h _ _ e) (DDs.mono h t)
theorem DDs.mono {L L' : Led} (h : ∀ a rs, L a = some (.lst rs) → L' a = some (.lst rs)) : ∀ {rs : List Rv} {ds : List PyData}, DDs L rs ds → DDs L' rs ds
  | _, _, .nil => .nil
  | _, _, .cons a t => .cons (DD.mono h a) (DDs.mono h t)
end

section
variable {Y : Cm} {ρ : Rho} {L L1 L2 L3 : Led} {r ra rb rc : Rv} {e a b c : Expr} {es : List Expr} {pos : Pos}

/-! ### names, constants -/
theorem ex_var (i : Nat) {x : Str} (h : ρ[i]? = some (some r)) (hN : Y.X.N[i]? = some x) (hv : Vis Y.X.env.scope x) (hd : (x == ("__debug__" : Str)) = false := by decide) (hcd : (x == ("__classdict__" : Str)) = false := by decide) : EX Y (.Name x pos) ρ L r L :=
  ⟨fun S σ H A Q q => wE.of (pe_var hN hv hd hcd) (by
    obtain ⟨v, e, k⟩ := A.es.at_ i r h
    exact ⟨v, e, q r L S H v ⟨rfl, rfl⟩ (Step.refl A.ok) k⟩)⟩
theorem ex_pe {v : V} (h : PE Y.X e (tC v)) (hr : ∀ S, r.is S v) : EX Y e ρ L r L := ⟨fun S σ H A Q q => wE.of h (q r L S H v ⟨rfl, rfl⟩ (Step.refl A.ok) (hr S))⟩
theorem ex_int {i : Int} {j} : EX Y (.Constant (.int i) j pos) ρ L (.dt (.int i)) L := ex_pe pe_int fun _ => .int i
theorem ex_bl {i : Bool} {j} : EX Y (.Constant (.bool i) j pos) ρ L (.dt (.bool i)) L := ex_pe pe_bl fun _ => .bl i
theorem ex_non {j} : EX Y (.Constant .none j pos) ρ L (.dt .none) L := ex_pe pe_non fun _ => .non
theorem ex_str {i : Str} {j} : EX Y (.Constant (.str i) j pos) ρ L (.dt (.str i)) L := ex_pe pe_str fun _ => .str i
theorem ex_gint {x : Str} {i : Int} {u : Value} (hg : Gl Y.X x) (hm : Y.X.mg x = some u) (hr : RelV (.int i) u) (hd : (x == ("__debug__" : Str)) = false := by decide) : EX Y (.Name x pos) ρ L (.dt (.int i)) L := ex_pe (pe_glob hg hm hr hd) fun _ => .int i
theorem ex_gstr {x : Str} {i : Str} {u : Value} (hg : Gl Y.X x) (hm : Y.X.mg x = some u) (hr : RelV (.str i) u) (hd : (x == ("__debug__" : Str)) = false := by decide) : EX Y (.Name x pos) ρ L (.dt (.str i)) L := ex_pe (pe_glob hg hm hr hd) fun _ => .str i
/-- a built-in type as a value -/
theorem ex_type {x : Str} {T : String} (hg : Gl Y.X x) (hm : Y.X.mg x = none) (hv : bootBuiltins x = some (.type T)) (hn : x ≠ "__name__" := by decide) (hd : (x == ("__debug__" : Str)) = false := by decide) : EX Y (.Name x pos) ρ L (.vl (.ty T)) L := ex_pe (pe_bltn (v := .ty T) hg hm hv rfl hn hd) fun _ => rfl

/-! ### arguments, displays -/
theorem ax_nil : AX Y [] ρ L [] L := ⟨fun S σ H A Q q => wA.of pa_nil (q [] L S H [] ⟨rfl, rfl⟩ (Step.refl A.ok) .nil)⟩
theorem ma_cons {K1 : Rv → Led → Prop} {K : List Rv → Led → Prop} (h : ME Y e ρ L K1) (t : ∀ r L1, K1 r L1 → MA Y es ρ L1 fun rs L2 => K (r :: rs) L2) (hs : starEach (e :: es) Y.X.env = (false, eval e Y.X.env) :: starEach es Y.X.env := by rfl) : MA Y (e :: es) ρ L K :=
  ⟨fun S σ H A Q q => wA.of (pa_cons wE.pe wA.pa hs) (h.run S σ H A _ fun r L1 S1 H1 v k t1 i => (t r L1 k).run S1 σ H1 (A.next t1) _ fun rs L2 S2 H2 vs kk t2 is => q (r :: rs) L2 S2 H2 (v :: vs) kk (t1.trans t2) (.cons (i.mono t2.sub) is))⟩
theorem MA.imp {K K' : List Rv → Led → Prop} (h : MA Y es ρ L K) (i : ∀ rs L', K rs L' → K' rs L') : MA Y es ρ L K' := ⟨fun S σ H a Q q => h.run S σ H a Q fun r L' S' H' v k => q r L' S' H' v (i r L' k)⟩
theorem ax_cons {rs : List Rv} (h : EX Y e ρ L r L1) (t : AX Y es ρ L1 rs L2) (hs : starEach (e :: es) Y.X.env = (false, eval e Y.X.env) :: starEach es Y.X.env := by rfl) : AX Y (e :: es) ρ L (r :: rs) L2 :=
  ma_cons h (fun r' L' ⟨e1, e2⟩ => by
    subst e1 e2
    exact t.imp fun rs' L3 ⟨e3, e4⟩ => by
      subst e3 e4
      exact ⟨rfl, rfl⟩) hs
theorem me_tup {k} {ds : List PyData} {K : Rv → Led → Prop} (h : MA Y es ρ L fun rs L' => ∃ ds : List PyData, rs = ds.map Rv.dt ∧ ds.length ≤ sizeLine ∧ K (.dt (.tuple ds)) L') : ME Y (.Tuple es k pos) ρ L K := ⟨fun S σ H A Q q => wE.of (pe_tup wA.pa) (h.run S σ H A _ fun rs L' S1 H1 vs ⟨ds, e, z, kk⟩ t1 is => by
  subst e
  have hd := Rvs.data is
  exact ⟨by rw [hd.len]; exact z, fun p hp => q _ L' (upd S1 p (.tup vs)) _ _ kk (t1.trans (Step.still t1.ok hp)) (.tup upd_same (hd.mono (Sub.new (t1.ok.sub.none hp))))⟩)⟩
theorem ex_tup {k} {ds : List PyData} (h : AX Y es ρ L (ds.map Rv.dt) L1) (hz : ds.length ≤ sizeLine) : EX Y (.Tuple es k pos) ρ L (.dt (.tuple ds)) L1 := me_tup (ds := ds) (MA.imp h fun _ _ ⟨a, b⟩ => ⟨ds, a, hz, rfl, b⟩)
theorem me_lst {K : Rv → Led → Prop} (h : MA Y es ρ L fun rs L' => rs.length ≤ sizeLine ∧ ∀ p, L' p = none → K (.vl (.ref p)) (updL L' p (.lst rs))) : ME Y (.List es pos) ρ L K := ⟨fun S σ H A Q q => wE.of (pe_lst wA.pa) (h.run S σ H A _ fun rs L' S1 H1 vs ⟨z, kk⟩ t1 is =>
  ⟨by rw [← Rvs.len is]; exact z, fun p hp => q _ _ S1 _ _ (kk p (t1.ok.free hp)) (t1.trans (Step.new t1.ok hp ⟨vs, rfl, is⟩)) rfl⟩)⟩
theorem ex_lst {ds : List PyData} (h : AX Y es ρ L (ds.map Rv.dt) L1) (hz : ds.length ≤ sizeLine) : EX Y (.List es pos) ρ L (.dt (.list ds)) L1 := ⟨fun S σ H A Q q => wE.of (pe_lst wA.pa) (h.run S σ H A _ fun rs L' S1 H1 vs ⟨e, e2⟩ t1 is => by
  subst e e2
  have hd := Rvs.data is
  exact ⟨by rw [hd.len]; exact hz, fun p hp => q _ _ (upd S1 p (.lst vs)) _ _ ⟨rfl, rfl⟩ (t1.trans (Step.still t1.ok hp)) (.lst upd_same (hd.mono (Sub.new (t1.ok.sub.none hp))))⟩)⟩

/-! ### operators by what they give on data -/
/-- a rule r of two values gives c from a and b -/
def RM (r : R2) (a b : Rv) (L : Led) (c : Rv) : Prop := ∀ S H x y, Ok S H L → a.is S x → b.is S y → ∀ Q : VK, (∀ S' H' v, Step S H L S' H' L → c.is S' v → Q v H') → r x y H Q
/-- f is binaryOp op, inplaceOp op or compareOp op -/
def Op2 (X : Cx) (f : Value → Value → Sem Value) (a b : Rv) (L : Led) (c : Rv) : Prop := ∃ r, OpR X f r ∧ RM r a b L c
theorem ex_bin {op : Operator} (ha : EX Y a ρ L ra L1) (hb : EX Y b ρ L1 rb L2) (h : Op2 Y.X (binaryOp op) ra rb L2 rc) : EX Y (.BinOp a op b pos) ρ L rc L2 := ⟨fun S σ H A Q q => by
  obtain ⟨r, ho, hr⟩ := h
  refine wE.of (pe_op ho wE.pe wE.pe) (ha.run S σ H A _ fun r1 L1' S1 H1 x ⟨e1, e2⟩ t1 i1 => ?_)
  subst e1 e2
  refine hb.run S1 σ H1 (A.next t1) _ fun r2 L2' S2 H2 y ⟨e1, e2⟩ t2 i2 => ?_
  subst e1 e2
  exact hr S2 H2 x y t2.ok (i1.mono t2.sub) i2 Q fun S' H' v t3 i3 => q _ _ S' H' v ⟨rfl, rfl⟩ ((t1.trans t2).trans t3) i3⟩
theorem ex_cmp {op : CmpOp} (ha : EX Y a ρ L ra L1) (hb : EX Y b ρ L1 rb L2) (h : Op2 Y.X (compareOp op) ra rb L2 rc) (hm : behindInMarks op b = false) : EX Y (.Compare a [op] [b] pos) ρ L rc L2 := ⟨fun S σ H A Q q => by
  obtain ⟨r, ho, hr⟩ := h
  refine wE.of (pe_cmpR ho wE.pe wE.pe hm) (ha.run S σ H A _ fun r1 L1' S1 H1 x ⟨e1, e2⟩ t1 i1 => ?_)
  subst e1 e2
  refine hb.run S1 σ H1 (A.next t1) _ fun r2 L2' S2 H2 y ⟨e1, e2⟩ t2 i2 => ?_
  subst e1 e2
  exact hr S2 H2 x y t2.ok (i1.mono t2.sub) i2 Q fun S' H' v t3 i3 => q _ _ S' H' v ⟨rfl, rfl⟩ ((t1.trans t2).trans t3) i3⟩
theorem tx_cmp {op : CmpOp} {k : Bool} (ha : EX Y a ρ L ra L1) (hb : EX Y b ρ L1 rb L2) (h : Op2 Y.X (compareOp op) ra rb L2 (.dt (.bool k))) (hm : behindInMarks op b = false) : TX Y (.Compare a [op] [b] pos) ρ L k L2 := ⟨fun S σ H A Q q => by
  obtain ⟨r, ho, hr⟩ := h
  refine wT.of (pt_cmpR ho wE.pe wE.pe hm) (ha.run S σ H A _ fun r1 L1' S1 H1 x ⟨e1, e2⟩ t1 i1 => ?_)
  subst e1 e2
  refine hb.run S1 σ H1 (A.next t1) _ fun r2 L2' S2 H2 y ⟨e1, e2⟩ t2 i2 => ?_
  subst e1 e2
  exact hr S2 H2 x y t2.ok (i1.mono t2.sub) i2 _ fun S' H' v t3 i3 => ⟨k, Da.blAt i3, q _ _ S' H' ⟨rfl, rfl⟩ ((t1.trans t2).trans t3)⟩⟩

theorem rm_I0 {g : Int → Int → V} {i j : Int} (h : ∀ S, rc.is S (g i j)) : RM (rI0 g) (.dt (.int i)) (.dt (.int j)) L rc := fun S H x y k hx hy Q q => ⟨i, j, Da.intAt hx, Da.intAt hy, q S H _ (Step.refl k) (h S)⟩
theorem rm_I {C : Int → Int → Prop} {g : Int → Int → V} {i j : Int} (hc : C i j) (h : ∀ S, rc.is S (g i j)) : RM (rI C g) (.dt (.int i)) (.dt (.int j)) L rc := fun S H x y k hx hy Q q => ⟨i, j, Da.intAt hx, Da.intAt hy, hc, q S H _ (Step.refl k) (h S)⟩
section
variable {X : Cx} {i j : Int}
theorem o_add : Op2 X (binaryOp .Add) (.dt (.int i)) (.dt (.int j)) L (.dt (.int (i + j))) := ⟨_, op_add, rm_I0 fun _ => .int _⟩
theorem o_sub : Op2 X (binaryOp .Sub) (.dt (.int i)) (.dt (.int j)) L (.dt (.int (i - j))) := ⟨_, op_sub, rm_I0 fun _ => .int _⟩
theorem o_mul (h : CMul i j) : Op2 X (binaryOp .Mult) (.dt (.int i)) (.dt (.int j)) L (.dt (.int (i * j))) := ⟨_, op_mul, rm_I h fun _ => .int _⟩
theorem o_mulW (h : CMulW i j) : Op2 X (binaryOp .Mult) (.dt (.int i)) (.dt (.int j)) L (.dt (.int (i * j))) := ⟨_, op_mulW, rm_I h fun _ => .int _⟩
theorem o_mod (h : 0 < j) : Op2 X (binaryOp .Mod) (.dt (.int i)) (.dt (.int j)) L (.dt (.int (i % j))) := ⟨_, op_mod, rm_I h fun _ => .int _⟩
theorem o_div (h : CDiv i j) : Op2 X (binaryOp .FloorDiv) (.dt (.int i)) (.dt (.int j)) L (.dt (.int (i / j))) := ⟨_, op_fdiv, rm_I h fun _ => .int _⟩
theorem o_divW (h : CDivW i j) : Op2 X (binaryOp .FloorDiv) (.dt (.int i)) (.dt (.int j)) L (.dt (.int (i / j))) := ⟨_, op_fdivW, rm_I h fun _ => .int _⟩
theorem o_pow (h : CPow i j) : Op2 X (binaryOp .Pow) (.dt (.int i)) (.dt (.int j)) L (.dt (.int (i ^ j.toNat))) := ⟨_, op_pow, rm_I h fun _ => .int _⟩
theorem o_lt : Op2 X (compareOp .Lt) (.dt (.int i)) (.dt (.int j)) L (.dt (.bool (decide (i < j)))) := ⟨_, op_lt, rm_I0 fun _ => .bl _⟩
theorem o_le : Op2 X (compareOp .LtE) (.dt (.int i)) (.dt (.int j)) L (.dt (.bool (decide (i ≤ j)))) := ⟨_, op_le, rm_I0 fun _ => .bl _⟩
theorem o_gt : Op2 X (compareOp .Gt) (.dt (.int i)) (.dt (.int j)) L (.dt (.bool (decide (j < i)))) := ⟨_, op_gt, rm_I0 fun _ => .bl _⟩
theorem o_ge : Op2 X (compareOp .GtE) (.dt (.int i)) (.dt (.int j)) L (.dt (.bool (decide (j ≤ i)))) := ⟨_, op_ge, rm_I0 fun _ => .bl _⟩
theorem o_iadd : Op2 X (inplaceOp .Add) (.dt (.int i)) (.dt (.int j)) L (.dt (.int (i + j))) := ⟨_, iop_add, rm_I0 fun _ => .int _⟩
theorem o_isub : Op2 X (inplaceOp .Sub) (.dt (.int i)) (.dt (.int j)) L (.dt (.int (i - j))) := ⟨_, iop_sub, rm_I0 fun _ => .int _⟩
end
/-- scalars, as == sees them -/
theorem rm_eq {d d' : PyData} {k : Bool} (h : ∀ S x y, Da S x d → Da S y d' → scal x y = true ∧ decide (x = y) = k) : RM rEq (.dt d) (.dt d') L (.dt (.bool k)) := fun S H x y ok hx hy Q q => by
  obtain ⟨h1, h2⟩ := h S x y hx hy
  exact ⟨h1, q S H _ (Step.refl ok) (h2 ▸ .bl _)⟩
theorem rm_ne {d d' : PyData} {k : Bool} (h : ∀ S x y, Da S x d → Da S y d' → scal x y = true ∧ (!decide (x = y)) = k) : RM rNe (.dt d) (.dt d') L (.dt (.bool k)) := fun S H x y ok hx hy Q q => by
  obtain ⟨h1, h2⟩ := h S x y hx hy
  exact ⟨h1, q S H _ (Step.refl ok) (h2 ▸ .bl _)⟩
section
variable {X : Cx}
theorem dec_v {i j : Int} : decide (V.int i = V.int j) = decide (i = j) := decide_eq_decide.mpr ⟨V.int.inj, congrArg _⟩
theorem dec_b {i j : Bool} : decide (V.bl i = V.bl j) = decide (i = j) := decide_eq_decide.mpr ⟨V.bl.inj, congrArg _⟩
theorem dec_s {i j : Str} : decide (V.str i = V.str j) = decide (i = j) := decide_eq_decide.mpr ⟨V.str.inj, congrArg _⟩
theorem o_eqI {i j : Int} : Op2 X (compareOp .Eq) (.dt (.int i)) (.dt (.int j)) L (.dt (.bool (decide (i = j)))) := ⟨_, op_eq, rm_eq fun S x y hx hy => by cases hx; cases hy; exact ⟨rfl, dec_v⟩⟩
theorem o_neI {i j : Int} : Op2 X (compareOp .NotEq) (.dt (.int i)) (.dt (.int j)) L (.dt (.bool (!decide (i = j)))) := ⟨_, op_ne, rm_ne fun S x y hx hy => by cases hx; cases hy; exact ⟨rfl, congrArg _ dec_v⟩⟩
theorem o_eqB {i j : Bool} : Op2 X (compareOp .Eq) (.dt (.bool i)) (.dt (.bool j)) L (.dt (.bool (decide (i = j)))) := ⟨_, op_eq, rm_eq fun S x y hx hy => by cases hx; cases hy; exact ⟨rfl, dec_b⟩⟩
theorem o_neB {i j : Bool} : Op2 X (compareOp .NotEq) (.dt (.bool i)) (.dt (.bool j)) L (.dt (.bool (!decide (i = j)))) := ⟨_, op_ne, rm_ne fun S x y hx hy => by cases hx; cases hy; exact ⟨rfl, congrArg _ dec_b⟩⟩
theorem o_eqS {i j : Str} : Op2 X (compareOp .Eq) (.dt (.str i)) (.dt (.str j)) L (.dt (.bool (decide (i = j)))) := ⟨_, op_eq, rm_eq fun S x y hx hy => by cases hx; cases hy; exact ⟨rfl, dec_s⟩⟩
theorem o_neS {i j : Str} : Op2 X (compareOp .NotEq) (.dt (.str i)) (.dt (.str j)) L (.dt (.bool (!decide (i = j)))) := ⟨_, op_ne, rm_ne fun S x y hx hy => by cases hx; cases hy; exact ⟨rfl, congrArg _ dec_s⟩⟩
/-- data of any depth -/
theorem o_eqD {d d' : PyData} (hu : X.A.units + 64 < cLine) (h1 : SeqAt.shaped d = true) (h2 : SeqAt.shaped d' = true) : Op2 X (compareOp .Eq) (.dt d) (.dt d') L (.dt (.bool (PyData.eqv d d'))) :=
  ⟨_, op_eqD hu, fun S H x y k hx hy Q q => ⟨d, d', (Da.mono k.sub hx).dp, (Da.mono k.sub hy).dp, h1, h2, q S H _ (Step.refl k) (.bl _)⟩⟩
theorem o_neD {d d' : PyData} (hu : X.A.units + 64 < cLine) (h1 : SeqAt.shaped d = true) (h2 : SeqAt.shaped d' = true) : Op2 X (compareOp .NotEq) (.dt d) (.dt d') L (.dt (.bool (!PyData.eqv d d'))) :=
  ⟨_, op_neD hu, fun S H x y k hx hy Q q => ⟨d, d', (Da.mono k.sub hx).dp, (Da.mono k.sub hy).dp, h1, h2, q S H _ (Step.refl k) (.bl _)⟩⟩
theorem o_eqR {r r' : Rv} {d d' : PyData} (hu : X.A.units + 64 < cLine) (a : DD L r d) (b : DD L r' d') (h1 : SeqAt.shaped d = true) (h2 : SeqAt.shaped d' = true) : Op2 X (compareOp .Eq) r r' L (.dt (.bool (PyData.eqv d d'))) :=
  ⟨_, op_eqD hu, fun S H x y k hx hy Q q => ⟨d, d', DD.at_ k a hx, DD.at_ k b hy, h1, h2, q S H _ (Step.refl k) (.bl _)⟩⟩
theorem o_neR {r r' : Rv} {d d' : PyData} (hu : X.A.units + 64 < cLine) (a : DD L r d) (b : DD L r' d') (h1 : SeqAt.shaped d = true) (h2 : SeqAt.shaped d' = true) : Op2 X (compareOp .NotEq) r r' L (.dt (.bool (!PyData.eqv d d'))) :=
  ⟨_, op_neD hu, fun S H x y k hx hy Q q => ⟨d, d', DD.at_ k a hx, DD.at_ k b hy, h1, h2, q S H _ (Step.refl k) (.bl _)⟩⟩
/-- x in l, items of any depth -/
theorem o_inR {r r' : Rv} {d : PyData} {ds : List PyData} (hu : X.A.units + 65 < cLine) (a : DD L r d) (b : DD L r' (.list ds)) (h1 : SeqAt.shaped d = true) (h2 : SeqAt.shaped (.list ds) = true) : Op2 X (compareOp .In) r r' L (.dt (.bool (ds.any fun z => PyData.eqv z d))) :=
  ⟨_, op_inD hu, fun S H x y k hx hy Q q => ⟨d, ds, DD.at_ k a hx, DD.at_ k b hy, h1, h2, q S H _ (Step.refl k) (.bl _)⟩⟩
theorem o_notInR {r r' : Rv} {d : PyData} {ds : List PyData} (hu : X.A.units + 65 < cLine) (a : DD L r d) (b : DD L r' (.list ds)) (h1 : SeqAt.shaped d = true) (h2 : SeqAt.shaped (.list ds) = true) : Op2 X (compareOp .NotIn) r r' L (.dt (.bool (!ds.any fun z => PyData.eqv z d))) :=
  ⟨_, op_notInD hu, fun S H x y k hx hy Q q => ⟨d, ds, DD.at_ k a hx, DD.at_ k b hy, h1, h2, q S H _ (Step.refl k) (.bl _)⟩⟩
/-- is None -/
def isNone : Rv → Bool
  | .dt .none => true
  | .vl .non => true
  | _ => false
theorem isNone_at {S : Hp} {x : V} (h : r.is S x) : decide (x = .non) = isNone r := by
  cases r with
  | vl y => cases (show x = y from h); cases x <;> rfl
  | dt d => cases h <;> rfl
theorem o_isN : Op2 X (compareOp .Is) r (.dt .none) L (.dt (.bool (isNone r))) := ⟨_, op_isN, fun S H x y k hx hy Q q => ⟨Da.nonAt hy, q S H _ (Step.refl k) (by rw [isNone_at hx]; exact .bl _)⟩⟩
theorem o_notN : Op2 X (compareOp .IsNot) r (.dt .none) L (.dt (.bool (!isNone r))) := ⟨_, op_notN, fun S H x y k hx hy Q q => ⟨Da.nonAt hy, q S H _ (Step.refl k) (by rw [isNone_at hx]; exact .bl _)⟩⟩
/-- texts -/
theorem o_addS {i j : Str} (h : i.length + j.length ≤ sizeLine) : Op2 X (binaryOp .Add) (.dt (.str i)) (.dt (.str j)) L (.dt (.str (i ++ j))) := ⟨_, op_add_str, fun S H x y k hx hy Q q => ⟨i, j, Da.strAt hx, Da.strAt hy, h, q S H _ (Step.refl k) (.str _)⟩⟩
/-- lists glued: a new list that nobody changes -/
theorem o_cat {r r' : Rv} {ds es : List PyData} (a : LL L r ds) (b : LL L r' es) (hz : ds.length + es.length ≤ sizeLine) : Op2 X (binaryOp .Add) r r' L (.dt (.list (ds ++ es))) := ⟨_, op_cat, fun S H x y k hx hy Q q => by
  obtain ⟨p, xs, rfl, e1, t1⟩ := LL.at_ a k hx
  obtain ⟨p', ys, rfl, e2, t2⟩ := LL.at_ b k hy
  refine ⟨p, p', xs, ys, rfl, rfl, e1, e2, by rw [t1.len, t2.len]; exact hz, fun n hn => ?_⟩
  have sn := Sub.new (o := HO.lst (xs ++ ys)) (k.sub.none hn)
  exact q (upd S n (.lst (xs ++ ys))) _ _ (Step.still k hn) (.lst upd_same (.of (papp (t1.mono sn).pd (t2.mono sn).pd)))⟩
theorem o_rep {r : Rv} {ds : List PyData} {n : Int} (a : LL L r ds) (h0 : -(2 ^ 63) ≤ n) (h1 : n < 2 ^ 63) (hz : ds.length * n.toNat ≤ sizeLine) : Op2 X (binaryOp .Mult) r (.dt (.int n)) L (.dt (.list (List.replicate n.toNat ds).flatten)) := ⟨_, op_rep, fun S H x y k hx hy Q q => by
  obtain ⟨p, xs, rfl, e1, t1⟩ := LL.at_ a k hx
  have ey := Da.intAt hy
  subst ey
  refine ⟨p, n, xs, rfl, rfl, e1, h0, h1, by rw [t1.len]; exact hz, fun m hm => ?_⟩
  have sn := fun o => Sub.new (o := o) (k.sub.none hm)
  have go : ∀ (T : Hp), Paired (Da T) xs ds → ∀ w : Nat, Paired (Da T) (List.replicate w xs).flatten (List.replicate w ds).flatten := fun T tt w => by
    induction w with
    | zero => exact .nil
    | succ w ih =>
      rw [List.replicate_succ, List.replicate_succ, List.flatten_cons, List.flatten_cons]
      exact papp tt ih
  exact q (upd S m _) _ _ (Step.still k hm) (.lst upd_same (.of (go _ (t1.mono (sn _)).pd _)))⟩
/-- tuples glued, the left one not empty, the right one not either -/
theorem o_catT {ds es : List PyData} (h : ds ≠ []) (h' : es ≠ []) (hz : ds.length + es.length ≤ sizeLine) : Op2 X (binaryOp .Add) (.dt (.tuple ds)) (.dt (.tuple es)) L (.dt (.tuple (ds ++ es))) := ⟨_, op_catT, fun S H x y k hx hy Q q => by
  obtain ⟨p, xs, rfl, _, e1, t1⟩ := Da.tupAt k hx
  obtain ⟨p', ys, rfl, _, e2, t2⟩ := Da.tupAt k hy
  have n1 : xs ≠ [] := fun z => h (List.eq_nil_of_length_eq_zero (by rw [← t1.len, z] <;> rfl))
  have n2 : ys ≠ [] := fun z => h' (List.eq_nil_of_length_eq_zero (by rw [← t2.len, z] <;> rfl))
  refine ⟨p, p', xs, ys, rfl, rfl, SqT.of e1, SqT.of e2, n1, by rw [t1.len, t2.len]; exact hz, fun z => absurd z n2, fun _ n hn => ?_⟩
  have sn := Sub.new (o := HO.tup (xs ++ ys)) (k.sub.none hn)
  exact q (upd S n (.tup (xs ++ ys))) _ _ (Step.still k hn) (.tup upd_same (.of (papp (t1.mono sn).pd (t2.mono sn).pd)))⟩
end
end
end Cw

set_option Elab.async false
set_option linter.all false
set_option maxRecDepth 100000
set_option maxHeartbeats 2000000
/-! Cw, part C: subscripts, slices, calls of built-ins, methods of lists, tests. -/
namespace Cw
open PySem PySem.Spec PyProof.Rows L2

theorem patI {α β : Type} {F : α → β → Prop} {xs : List α} {ys : List β} {i : Int} {x : α} (h : Paired F xs ys) (e : atI xs i = some x) : ∃ y, atI ys i = some y ∧ F x y := by
  have hl := Paired.length h
  unfold atI at e ⊢
  rw [← hl]
  cases q : ixN xs.length i with
  | none =>
    rw [q] at e
    cases e
  | some j =>
    rw [q] at e
    exact pgetL h e
theorem patI' {α β : Type} {F : α → β → Prop} {xs : List α} {ys : List β} {i : Int} {y : β} (h : Paired F xs ys) (e : atI ys i = some y) : ∃ x, atI xs i = some x ∧ F x y := by
  have hl := Paired.length h
  unfold atI at e ⊢
  rw [hl]
  cases q : ixN ys.length i with
  | none =>
    rw [q] at e
    cases e
  | some j =>
    rw [q] at e
    exact pget h e
def cut {α : Type} (xs : List α) (lo hi : Option Int) : List α := (xs.drop (HT.sIx xs.length 0 lo)).take (HT.sIx xs.length xs.length hi - HT.sIx xs.length 0 lo)
theorem pcut {α β : Type} {F : α → β → Prop} {xs : List α} {ys : List β} {lo hi : Option Int} (h : Paired F xs ys) : Paired F (cut xs lo hi) (cut ys lo hi) := by
  unfold cut
  rw [Paired.length h]
  exact ptake _ (pdrop _ h)

section
variable {Y : Cm} {ρ : Rho} {L L1 L2 L3 : Led} {r ra rb rc : Rv} {e a b c : Expr} {es : List Expr} {pos : Pos} {X : Cx}

/-! ### a[i] -/
def OpIx (X : Cx) (a b : Rv) (L : Led) (c : Rv) : Prop := ∃ r, IxR X r ∧ RM r a b L c
theorem ex_ix (ha : EX Y a ρ L ra L1) (hb : EX Y b ρ L1 rb L2) (h : OpIx Y.X ra rb L2 rc) (hs : PlainIx b) : EX Y (.Subscript a b pos) ρ L rc L2 := ⟨fun S σ H A Q q => by
  obtain ⟨r, ho, hr⟩ := h
  refine wE.of (pe_ix ho wE.pe wE.pe hs) (ha.run S σ H A _ fun r1 L1' S1 H1 x ⟨e1, e2⟩ t1 i1 => ?_)
  subst e1 e2
  refine hb.run S1 σ H1 (A.next t1) _ fun r2 L2' S2 H2 y ⟨e1, e2⟩ t2 i2 => ?_
  subst e1 e2
  exact hr S2 H2 x y t2.ok (i1.mono t2.sub) i2 Q fun S' H' v t3 i3 => q _ _ S' H' v ⟨rfl, rfl⟩ ((t1.trans t2).trans t3) i3⟩
theorem i_lstR {rs : List Rv} {i : Int} (a : LR L r rs) (h : atI rs i = some rc) : OpIx X r (.dt (.int i)) L rc := ⟨_, ix_list, fun S H x y k hx hy Q q => by
  obtain ⟨p, xs, rfl, e1, t1⟩ := LR.at_ a k hx
  obtain ⟨v, e2, i2⟩ := patI t1 h
  exact ⟨p, xs, i, v, rfl, Da.intAt hy, SqL.of e1, e2, q S H v (Step.refl k) i2⟩⟩
theorem i_lst {ds : List PyData} {d : PyData} {i : Int} (a : LL L r ds) (h : atI ds i = some d) : OpIx X r (.dt (.int i)) L (.dt d) := ⟨_, ix_list, fun S H x y k hx hy Q q => by
  obtain ⟨p, xs, rfl, e1, t1⟩ := LL.at_ a k hx
  obtain ⟨v, e2, i2⟩ := patI' t1.pd h
  exact ⟨p, xs, i, v, rfl, Da.intAt hy, SqL.of e1, e2, q S H v (Step.refl k) i2⟩⟩
theorem i_tup {ds : List PyData} {d : PyData} {i : Int} (h : atI ds i = some d) : OpIx X (.dt (.tuple ds)) (.dt (.int i)) L (.dt d) := ⟨_, ix_tup, fun S H x y k hx hy Q q => by
  obtain ⟨p, xs, rfl, _, e1, t1⟩ := Da.tupAt k hx
  obtain ⟨v, e2, i2⟩ := patI' t1.pd h
  exact ⟨p, xs, i, v, rfl, Da.intAt hy, SqT.of e1, e2, q S H v (Step.refl k) i2⟩⟩
theorem i_str {z : Str} {i : Int} {c : Nat} (hz : z.length ≤ sizeLine) (h : atI z.cps.toList i = some c) : OpIx X (.dt (.str z)) (.dt (.int i)) L (.dt (.str ⟨#[c]⟩)) := ⟨_, ix_str, fun S H x y k hx hy Q q =>
  ⟨z, i, c, Da.strAt hx, Da.intAt hy, hz, h, q S H _ (Step.refl k) (.str _)⟩⟩

/-! ### a[lo:hi] -/
def wP (X : Cx) (e : Option Expr) : TO := fun σ H Q => ∀ pins s, Inv X pins σ H s → wpAny (model X.prog X.w) X.A (evalPart e X.env) (fun u s' => ∃ o H', Inv X pins σ H' s' ∧ IsPart u o ∧ Q o H') X.xe s
theorem wP.po {o : Option Expr} : PO X o (wP X o) := ⟨fun pins s _ _ _ I h => h pins s I⟩
theorem wP.of {o : Option Expr} {t : TO} (h : PO X o t) {σ : Slots} {H : Hp} {Q : Option Int → Hp → Prop} (q : t σ H Q) : wP X o σ H Q := fun pins s I => h.run pins s σ H Q I q
structure PX (Y : Cm) (e : Option Expr) (ρ : Rho) (L : Led) (o : Option Int) (L' : Led) : Prop where
  run : ∀ S σ H, At Y ρ L S σ H → ∀ Q : Option Int → Hp → Prop, (∀ S' H', Step S H L S' H' L' → Q o H') → wP Y.X e σ H Q
theorem px_none : PX Y none ρ L none L := ⟨fun S σ H A Q q => wP.of po_none (q S H (Step.refl A.ok))⟩
theorem px_some {i : Int} (h : EX Y e ρ L (.dt (.int i)) L1) : PX Y (some e) ρ L (some i) L1 := ⟨fun S σ H A Q q => wP.of (po_some wE.pe) (h.run S σ H A _ fun r1 L1' S1 H1 x ⟨e1, e2⟩ t1 i1 => by
  subst e1 e2
  exact ⟨i, Da.intAt i1, q S1 H1 t1⟩)⟩
def OpSl (X : Cx) (a : Rv) (lo hi : Option Int) (L : Led) (c : Rv) : Prop := ∃ r, SlR X r ∧ ∀ S H x, Ok S H L → a.is S x → ∀ Q : VK, (∀ S' H' v, Step S H L S' H' L → c.is S' v → Q v H') → r x lo hi H Q
theorem ex_slice {elo ehi : Option Expr} {lo hi : Option Int} {p2 : Pos} (ha : EX Y a ρ L ra L1) (hl : PX Y elo ρ L1 lo L2) (hh : PX Y ehi ρ L2 hi L3) (h : OpSl Y.X ra lo hi L3 rc) : EX Y (.Subscript a (.Slice elo ehi none p2) pos) ρ L rc L3 := ⟨fun S σ H A Q q => by
  obtain ⟨r, ho, hr⟩ := h
  refine wE.of (pe_slice ho wE.pe wP.po wP.po) (ha.run S σ H A _ fun r1 L1' S1 H1 x ⟨e1, e2⟩ t1 i1 => ?_)
  subst e1 e2
  refine hl.run S1 σ H1 (A.next t1) _ fun S2 H2 t2 => ?_
  refine hh.run S2 σ H2 (A.next (t1.trans t2)) _ fun S3 H3 t3 => ?_
  exact hr S3 H3 x t3.ok (i1.mono (t2.sub.trans t3.sub)) Q fun S' H' v t4 i4 => q _ _ S' H' v ⟨rfl, rfl⟩ (((t1.trans t2).trans t3).trans t4) i4⟩
theorem s_lst {ds : List PyData} {lo hi : Option Int} (a : LL L r ds) : OpSl X r lo hi L (.dt (.list (cut ds lo hi))) := ⟨_, sl_list, fun S H x k hx Q q => by
  obtain ⟨p, xs, rfl, e1, t1⟩ := LL.at_ a k hx
  refine ⟨p, xs, rfl, SqL.of e1, fun n hn => ?_⟩
  have sn := Sub.new (o := HO.lst (cutV xs lo hi)) (k.sub.none hn)
  exact q (upd S n (.lst (cutV xs lo hi))) _ _ (Step.still k hn) (.lst upd_same (.of (pcut (t1.mono sn).pd)))⟩
theorem s_str {z : Str} {lo hi : Option Int} (hz : z.length ≤ sizeLine) : OpSl X (.dt (.str z)) lo hi L (.dt (.str (cutS z lo hi))) := ⟨_, sl_str, fun S H x k hx Q q => ⟨z, Da.strAt hx, hz, q S H _ (Step.refl k) (.str _)⟩⟩
theorem ex_rev {ds : List PyData} {k : Nat} {p1 p2 p3 : Pos} (ha : EX Y a ρ L ra L1) (h : LL L1 ra ds) : EX Y (.Subscript a (.Slice none none (some (.UnaryOp .USub (.Constant (.int 1) k p1) p2)) p3) pos) ρ L (.dt (.list ds.reverse)) L1 := ⟨fun S σ H A Q q =>
  wE.of (pe_revL wE.pe) (ha.run S σ H A _ fun r1 L1' S1 H1 x ⟨e1, e2⟩ t1 i1 => by
    subst e1 e2
    obtain ⟨p, xs, rfl, e1, d1⟩ := LL.at_ h t1.ok i1
    refine ⟨p, xs, rfl, SqL.of e1, fun n hn => ?_⟩
    have sn := Sub.new (o := HO.lst xs.reverse) (t1.ok.sub.none hn)
    exact q _ _ (upd S1 n (.lst xs.reverse)) _ _ ⟨rfl, rfl⟩ (t1.trans (Step.still t1.ok hn)) (.lst upd_same (.of (prev (d1.mono sn).pd))))⟩

/-! ### one-place operators, if as an expression -/
theorem ex_neg {i : Int} (h : EX Y e ρ L (.dt (.int i)) L1) : EX Y (.UnaryOp .USub e pos) ρ L (.dt (.int (-i))) L1 := ⟨fun S σ H A Q q => wE.of (pe_un un_neg wE.pe) (h.run S σ H A _ fun r1 L1' S1 H1 x ⟨e1, e2⟩ t1 i1 => by
  subst e1 e2
  exact ⟨i, Da.intAt i1, q _ _ S1 H1 _ ⟨rfl, rfl⟩ t1 (.int _)⟩)⟩
theorem ex_not {i : Bool} (h : EX Y e ρ L (.dt (.bool i)) L1) : EX Y (.UnaryOp .Not e pos) ρ L (.dt (.bool (!i))) L1 := ⟨fun S σ H A Q q => wE.of (pe_not wE.pe) (h.run S σ H A _ fun r1 L1' S1 H1 x ⟨e1, e2⟩ t1 i1 => by
  subst e1 e2
  exact ⟨i, Da.blAt i1, q _ _ S1 H1 _ ⟨rfl, rfl⟩ t1 (.bl _)⟩)⟩
theorem me_if {K : Rv → Led → Prop} (hc : MT Y c ρ L fun k L' => (k = true → ME Y a ρ L' K) ∧ (k = false → ME Y b ρ L' K)) : ME Y (.IfExp c a b pos) ρ L K := ⟨fun S σ H A Q q => wE.of (pe_ifExp wT.pt wE.pe wE.pe) (hc.run S σ H A _ fun k L' S1 H1 ⟨h1, h2⟩ t1 => by
  cases k with
  | true => exact iteT ((h1 rfl).run S1 σ H1 (A.next t1) Q fun r L2 S2 H2 v kk t2 => q r L2 S2 H2 v kk (t1.trans t2))
  | false => exact iteF ((h2 rfl).run S1 σ H1 (A.next t1) Q fun r L2 S2 H2 v kk t2 => q r L2 S2 H2 v kk (t1.trans t2)))⟩
theorem ex_if {k : Bool} (hc : TX Y c ρ L k L1) (h1 : k = true → EX Y a ρ L1 r L2) (h2 : k = false → EX Y b ρ L1 r L2) : EX Y (.IfExp c a b pos) ρ L r L2 := me_if (hc.imp fun _ _ ⟨e1, e2⟩ => by
  subst e1 e2
  exact ⟨h1, h2⟩)
/-- and, or as values of bools -/
theorem ex_one {op} (h : EX Y e ρ L r L1) : EX Y (.BoolOp op [e] pos) ρ L r L1 := ⟨fun S σ H A Q q => wE.of (pe_one wE.pe) (h.run S σ H A Q q)⟩
theorem ex_and {i j : Bool} {rest : List Expr} (h : EX Y a ρ L (.dt (.bool i)) L1) (t : i = true → EX Y (.BoolOp .And (b :: rest) pos) ρ L1 (.dt (.bool j)) L1) : EX Y (.BoolOp .And (a :: b :: rest) pos) ρ L (.dt (.bool (i && j))) L1 := ⟨fun S σ H A Q q => wE.of (pe_and wE.pe wE.pe) (h.run S σ H A _ fun r1 L1' S1 H1 x ⟨e1, e2⟩ t1 i1 => by
  subst e1 e2
  refine ⟨i, Da.blAt i1, ?_⟩
  cases i with
  | true => exact iteT ((t rfl).run S1 σ H1 (A.next t1) Q fun r L2 S2 H2 v ⟨e1, e2⟩ t2 i2 => q r L2 S2 H2 v ⟨by rw [e1]; rfl, e2⟩ (t1.trans t2) i2)
  | false => exact iteF (q _ _ S1 H1 _ ⟨rfl, rfl⟩ t1 (.bl false)))⟩
theorem ex_or {i j : Bool} {rest : List Expr} (h : EX Y a ρ L (.dt (.bool i)) L1) (t : i = false → EX Y (.BoolOp .Or (b :: rest) pos) ρ L1 (.dt (.bool j)) L1) : EX Y (.BoolOp .Or (a :: b :: rest) pos) ρ L (.dt (.bool (i || j))) L1 := ⟨fun S σ H A Q q => wE.of (pe_or wE.pe wE.pe) (h.run S σ H A _ fun r1 L1' S1 H1 x ⟨e1, e2⟩ t1 i1 => by
  subst e1 e2
  refine ⟨i, Da.blAt i1, ?_⟩
  cases i with
  | false => exact iteF ((t rfl).run S1 σ H1 (A.next t1) Q fun r L2 S2 H2 v ⟨e1, e2⟩ t2 i2 => q r L2 S2 H2 v ⟨by rw [e1]; rfl, e2⟩ (t1.trans t2) i2)
  | true => exact iteT (q _ _ S1 H1 _ ⟨rfl, rfl⟩ t1 (.bl true)))⟩

/-! ### calls of built-ins -/
def OpC (X : Cx) (f : Value) (rs : List Rv) (L : Led) (c : Rv) : Prop := ∃ r, CallR X f r ∧ ∀ S H xs, Ok S H L → Rvs S rs xs → ∀ Q : VK, (∀ S' H' v, Step S H L S' H' L → c.is S' v → Q v H') → r xs H Q
theorem ex_callB {x : Str} {id : String} {rs : List Rv} {p : Pos} (ha : AX Y (e :: es) ρ L rs L1) (h : OpC Y.X (.builtin id) rs L1 rc) (hg : Gl Y.X x) (hm : Y.X.mg x = none) (hv : bootBuiltins x = some (.builtin id)) (hn : x ≠ "__name__" := by decide) (hdb : (x == ("__debug__" : Str)) = false := by decide)
    (he : starEach (e :: es) Y.X.env = (false, eval e Y.X.env) :: starEach es Y.X.env := by rfl) (hpl : (backTo pos (starEach es Y.X.env)).any (·.1) = false := by rfl) : EX Y (.Call (.Name x p) (e :: es) [] pos) ρ L rc L1 := ⟨fun S σ H A Q q => by
  obtain ⟨r, ho, hr⟩ := h
  refine wE.of (pe_callB ho hg hm hv wA.pa hn hdb he hpl) (ha.run S σ H A _ fun r1 L1' S1 H1 xs ⟨e1, e2⟩ t1 i1 => ?_)
  subst e1 e2
  exact hr S1 H1 xs t1.ok i1 Q fun S' H' v t2 i2 => q _ _ S' H' v ⟨rfl, rfl⟩ (t1.trans t2) i2⟩
theorem ex_callTy {x : Str} {T : String} {rs : List Rv} {p : Pos} (ha : AX Y (e :: es) ρ L rs L1) (h : OpC Y.X (.type T) rs L1 rc) (hg : Gl Y.X x) (hm : Y.X.mg x = none) (hv : bootBuiltins x = some (.type T)) (hn : x ≠ "__name__" := by decide) (hdb : (x == ("__debug__" : Str)) = false := by decide)
    (he : starEach (e :: es) Y.X.env = (false, eval e Y.X.env) :: starEach es Y.X.env := by rfl) (hpl : (backTo pos (starEach es Y.X.env)).any (·.1) = false := by rfl) : EX Y (.Call (.Name x p) (e :: es) [] pos) ρ L rc L1 := ⟨fun S σ H A Q q => by
  obtain ⟨r, ho, hr⟩ := h
  refine wE.of (pe_callTy ho hg hm hv wA.pa hn hdb he hpl) (ha.run S σ H A _ fun r1 L1' S1 H1 xs ⟨e1, e2⟩ t1 i1 => ?_)
  subst e1 e2
  exact hr S1 H1 xs t1.ok i1 Q fun S' H' v t2 i2 => q _ _ S' H' v ⟨rfl, rfl⟩ (t1.trans t2) i2⟩
theorem rvs1 {S : Hp} {xs : List V} (h : Rvs S [r] xs) : ∃ x, xs = [x] ∧ r.is S x := by
  cases h with
  | cons a t => cases t; exact ⟨_, rfl, a⟩
theorem rvs2 {S : Hp} {xs : List V} (h : Rvs S [ra, rb] xs) : ∃ x y, xs = [x, y] ∧ ra.is S x ∧ rb.is S y := by
  cases h with
  | cons a t =>
    cases t with
    | cons b t => cases t; exact ⟨_, _, rfl, a, b⟩
theorem c_lenR {rs : List Rv} (a : LR L r rs) : OpC X (.builtin "len") [r] L (.dt (.int rs.length)) := ⟨_, call_len_seq, fun S H xs k hx Q q => by
  obtain ⟨x, rfl, i⟩ := rvs1 hx
  obtain ⟨p, ys, rfl, e1, t1⟩ := LR.at_ a k i
  exact ⟨p, ys, rfl, .inl (SqL.of e1), by rw [← Rvs.len t1]; exact q S H _ (Step.refl k) (.int _)⟩⟩
theorem c_lenL {ds : List PyData} (a : LL L r ds) : OpC X (.builtin "len") [r] L (.dt (.int ds.length)) := by
  have h := c_lenR (X := X) a
  rwa [List.length_map] at h
theorem c_lenT {ds : List PyData} : OpC X (.builtin "len") [.dt (.tuple ds)] L (.dt (.int ds.length)) := ⟨_, call_len_seq, fun S H xs k hx Q q => by
  obtain ⟨x, rfl, i⟩ := rvs1 hx
  obtain ⟨p, ys, rfl, _, e1, t1⟩ := Da.tupAt k i
  exact ⟨p, ys, rfl, .inr (SqT.of e1), by rw [t1.len]; exact q S H _ (Step.refl k) (.int _)⟩⟩
theorem c_lenS {z : Str} (hz : z.length ≤ sizeLine) : OpC X (.builtin "len") [.dt (.str z)] L (.dt (.int z.length)) := ⟨_, call_len_str, fun S H xs k hx Q q => by
  obtain ⟨x, rfl, i⟩ := rvs1 hx
  exact ⟨z, by rw [Da.strAt i], hz, q S H _ (Step.refl k) (.int _)⟩⟩
theorem c_int {i : Int} : OpC X (.type "int") [.dt (.int i)] L (.dt (.int i)) := ⟨_, call_int1, fun S H xs k hx Q q => by
  obtain ⟨x, rfl, h⟩ := rvs1 hx
  exact .inl ⟨i, by rw [Da.intAt h], q S H _ (Step.refl k) (.int _)⟩⟩
theorem c_intB {i : Bool} : OpC X (.type "int") [.dt (.bool i)] L (.dt (.int (if i then 1 else 0))) := ⟨_, call_int1, fun S H xs k hx Q q => by
  obtain ⟨x, rfl, h⟩ := rvs1 hx
  exact .inr ⟨i, by rw [Da.blAt h], q S H _ (Step.refl k) (.int _)⟩⟩
theorem c_max {i j : Int} (hc : X.calm = true) : OpC X (.builtin "max") [.dt (.int i), .dt (.int j)] L (.dt (.int (if j > i then j else i))) := ⟨_, call_max2 hc, fun S H xs k hx Q q => by
  obtain ⟨x, y, rfl, h1, h2⟩ := rvs2 hx
  exact ⟨i, j, by rw [Da.intAt h1, Da.intAt h2], q S H _ (Step.refl k) (.int _)⟩⟩
theorem c_min {i j : Int} (hc : X.calm = true) : OpC X (.builtin "min") [.dt (.int i), .dt (.int j)] L (.dt (.int (if j < i then j else i))) := ⟨_, call_min2 hc, fun S H xs k hx Q q => by
  obtain ⟨x, y, rfl, h1, h2⟩ := rvs2 hx
  exact ⟨i, j, by rw [Da.intAt h1, Da.intAt h2], q S H _ (Step.refl k) (.int _)⟩⟩
theorem c_ord {z : Str} (hz : z.length = 1) : OpC X (.builtin "ord") [.dt (.str z)] L (.dt (.int (z.cps.getD 0 0 : Nat))) := ⟨_, call_ord, fun S H xs k hx Q q => by
  obtain ⟨x, rfl, i⟩ := rvs1 hx
  exact ⟨z, by rw [Da.strAt i], hz, q S H _ (Step.refl k) (.int _)⟩⟩
/-- list(x): a new list that nobody changes -/
theorem c_list {ds : List PyData} (a : LL L r ds) : OpC X (.type "list") [r] L (.dt (.list ds)) := ⟨_, call_list_of, fun S H xs k hx Q q => by
  obtain ⟨x, rfl, i⟩ := rvs1 hx
  obtain ⟨p, ys, rfl, e1, t1⟩ := LL.at_ a k i
  refine ⟨p, ys, rfl, .inl (SqL.of e1), fun n hn => ?_⟩
  have sn := Sub.new (o := HO.lst ys) (k.sub.none hn)
  exact q _ _ _ (Step.still k hn) (.lst upd_same (t1.mono sn))⟩
theorem c_listT {ds : List PyData} : OpC X (.type "list") [.dt (.tuple ds)] L (.dt (.list ds)) := ⟨_, call_list_of, fun S H xs k hx Q q => by
  obtain ⟨x, rfl, i⟩ := rvs1 hx
  obtain ⟨p, ys, rfl, _, e1, t1⟩ := Da.tupAt k i
  refine ⟨p, ys, rfl, .inr (SqT.of e1), fun n hn => ?_⟩
  have sn := Sub.new (o := HO.lst ys) (k.sub.none hn)
  exact q _ _ _ (Step.still k hn) (.lst upd_same (t1.mono sn))⟩
theorem c_tuple {ds : List PyData} (a : LL L r ds) : OpC X (.type "tuple") [r] L (.dt (.tuple ds)) := ⟨_, call_tuple_of, fun S H xs k hx Q q => by
  obtain ⟨x, rfl, i⟩ := rvs1 hx
  obtain ⟨p, ys, rfl, e1, t1⟩ := LL.at_ a k i
  refine ⟨p, ys, rfl, .inl ⟨SqL.of e1, fun n hn => ?_⟩⟩
  have sn := Sub.new (o := HO.tup ys) (k.sub.none hn)
  exact q _ _ _ (Step.still k hn) (.tup upd_same (t1.mono sn))⟩
theorem c_tupleT {ds : List PyData} : OpC X (.type "tuple") [.dt (.tuple ds)] L (.dt (.tuple ds)) := ⟨_, call_tuple_of, fun S H xs k hx Q q => by
  obtain ⟨x, rfl, i⟩ := rvs1 hx
  obtain ⟨p, ys, rfl, e0, e1, t1⟩ := Da.tupAt k i
  exact ⟨p, ys, rfl, .inr ⟨SqT.of e1, q S H _ (Step.refl k) (.tup e0 t1)⟩⟩⟩
/-- isinstance -/
def tyName : PyData → String
  | .none => "NoneType"
  | .bool _ => "bool"
  | .int _ => "int"
  | .str _ => "str"
  | .list _ => "list"
  | .tuple _ => "tuple"
  | .dict _ => "dict"
theorem tyx {K : PySem.W.Frag} {S H : Hp} {d : PyData} {x : V} (k : Sub S H) (h : Da S x d) : TyX K H x (.type (tyName d)) := by
  cases h with
  | non => exact .base .non
  | bl b => exact .base (.bl b)
  | int b => exact .base (.int b)
  | str b => exact .base (.str b)
  | lst e t => exact .base (.lst (k _ _ e))
  | tup e t => exact .base (.tup (k _ _ e))
theorem tyxD {K : PySem.W.Frag} {S H : Hp} {d : PyData} {x : V} (k : Ok S H L) (hd : DD L r d) (h : r.is S x) : TyX K H x (.type (tyName d)) := by
  cases hd with
  | dt => exact tyx k.sub h
  | @lst p rs ds e t =>
    obtain ⟨_, o, e2, xs, rfl, rv⟩ := k.led p _ e
    have ex : x = .ref p := h
    subst ex
    exact .base (.lst e2)
def isK (a b : String) : Bool := a == b || (a == "bool" && b == "int")
abbrev TyNs : List String := ["bool", "int", "str", "list", "tuple"]
theorem kit_str : ∀ a ∈ ["NoneType", "bool", "int", "str", "list", "tuple", "dict"], ∀ b ∈ TyNs, kitB a b = some (isK a b) := by decide +kernel
theorem kit_all (d : PyData) {T : String} (hT : T ∈ TyNs) : kitB (tyName d) T = some (isK (tyName d) T) := kit_str _ (by cases d <;> simp [tyName]) T hT
theorem c_isi {d : PyData} {T : String} (hd : DD L r d) (hT : T ∈ TyNs) : OpC X (.builtin "isinstance") [r, .vl (.ty T)] L (.dt (.bool (isK (tyName d) T))) := ⟨_, call_isi, fun S H xs ok hx Q q => by
  obtain ⟨x, y, rfl, h1, h2⟩ := rvs2 hx
  cases (show y = .ty T from h2)
  exact ⟨x, .ty T, _, _, _, rfl, .ty T, tyxD ok hd h1, kit_ty (kit_all d hT), q S H _ (Step.refl ok) (.bl _)⟩⟩
/-- isinstance(x, (T1, T2)) -/
theorem ex_isi2 {d : PyData} {T1 T2 : String} {x y z : Str} {p p1 p2 p3 : Pos} {kk : Nat} (ha : EX Y e ρ L r L1) (hd : DD L1 r d) (hT1 : T1 ∈ TyNs) (hT2 : T2 ∈ TyNs)
    (hg : Gl Y.X x) (hm : Y.X.mg x = none) (hv : bootBuiltins x = some (.builtin "isinstance")) (hg1 : Gl Y.X y) (hm1 : Y.X.mg y = none) (hv1 : bootBuiltins y = some (.type T1)) (hg2 : Gl Y.X z) (hm2 : Y.X.mg z = none) (hv2 : bootBuiltins z = some (.type T2))
    (hn : x ≠ "__name__" := by decide) (hdb : (x == ("__debug__" : Str)) = false := by decide) (hn1 : y ≠ "__name__" := by decide) (hdb1 : (y == ("__debug__" : Str)) = false := by decide) (hn2 : z ≠ "__name__" := by decide) (hdb2 : (z == ("__debug__" : Str)) = false := by decide)
    (he : starEach (e :: [.Tuple [.Name y p1, .Name z p2] kk p3]) Y.X.env = (false, eval e Y.X.env) :: starEach [.Tuple [.Name y p1, .Name z p2] kk p3] Y.X.env := by rfl) (hpl : (backTo pos (starEach [.Tuple [.Name y p1, .Name z p2] kk p3] Y.X.env)).any (·.1) = false := by rfl)
    (he1 : starEach [.Tuple [.Name y p1, .Name z p2] kk p3] Y.X.env = (false, eval (.Tuple [.Name y p1, .Name z p2] kk p3) Y.X.env) :: starEach [] Y.X.env := by rfl)
    (he2 : starEach [.Name y p1, .Name z p2] Y.X.env = (false, eval (.Name y p1) Y.X.env) :: starEach [.Name z p2] Y.X.env := by rfl) (he3 : starEach [.Name z p2] Y.X.env = (false, eval (.Name z p2) Y.X.env) :: starEach [] Y.X.env := by rfl) :
    EX Y (.Call (.Name x p) [e, .Tuple [.Name y p1, .Name z p2] kk p3] [] pos) ρ L (.dt (.bool (isK (tyName d) T1 || isK (tyName d) T2))) L1 := ⟨fun S σ H A Q q => by
  refine wE.of (pe_callB call_isiT hg hm hv (pa_cons wE.pe (pa_cons (pe_tup (pa_cons (pe_bltn (v := .ty T1) hg1 hm1 hv1 rfl hn1 hdb1) (pa_cons (pe_bltn (v := .ty T2) hg2 hm2 hv2 rfl hn2 hdb2) pa_nil he3) he2)) pa_nil he1) he) hn hdb he hpl) (ha.run S σ H A _ fun r1 L1' S1 H1 v ⟨e1, e2⟩ t1 i1 => ?_)
  subst e1 e2
  refine ⟨by show 2 ≤ sizeLine; decide, fun t ht => ?_⟩
  refine ⟨v, t, [.ty T1, .ty T2], _, [.type T1, .type T2], isK (tyName d) T1 || isK (tyName d) T2, rfl, upd_same, .cons (.ty _) (.cons (.ty _) .nil), tyxD (t1.ok.dust ht) hd i1, kitAny_cons (kit_ty (kit_all d hT1)) (fun e => ?_) (fun e => by rw [e] <;> rfl), q _ _ S1 _ _ ⟨rfl, rfl⟩ (t1.trans (Step.dust t1.ok ht)) (.bl _)⟩
  rw [e]
  refine kitAny_cons (kit_ty (kit_all d hT2)) (fun e2 => ?_) (fun e2 => ?_)
  · rw [e2]
    exact kitAny_nil
  · rw [e2] <;> rfl⟩

/-! ### tests -/
theorem tx_val {k : Bool} (h : EX Y e ρ L (.dt (.bool k)) L1) (he : ∀ whole, isTrue e Y.X.env whole = (do let v ← whole; standAt e.pos; holding [v] (truthy v)) := by intro _; rfl) : TX Y e ρ L k L1 := ⟨fun S σ H A Q q => wT.of (pt_val wE.pe he) (h.run S σ H A _ fun r1 L1' S1 H1 x ⟨e1, e2⟩ t1 i1 => by
  subst e1 e2
  exact ⟨k, Da.blAt i1, q _ _ S1 H1 ⟨rfl, rfl⟩ t1⟩)⟩
theorem tx_not {k : Bool} (h : TX Y e ρ L k L1) : TX Y (.UnaryOp .Not e pos) ρ L (!k) L1 := ⟨fun S σ H A Q q => wT.of (pt_not wT.pt) (h.run S σ H A _ fun r1 L1' S1 H1 ⟨e1, e2⟩ t1 => by
  subst e1 e2
  exact q _ _ S1 H1 ⟨rfl, rfl⟩ t1)⟩
theorem tx_w {k : Bool} (h : WX' Y e ρ L k L1) : TX Y e ρ L k L1 := ⟨fun S σ H A Q q => wT.of wW.pw.pt (h.run S σ H A Q q)⟩
theorem wx_and1 {k : Bool} (h : TX Y e ρ L k L1) : WX' Y (.BoolOp .And [e] pos) ρ L k L1 := ⟨fun S σ H A Q q => wW.of (pw_and1 wT.pt) (h.run S σ H A Q q)⟩
theorem wx_or1 {k : Bool} (h : TX Y e ρ L k L1) : WX' Y (.BoolOp .Or [e] pos) ρ L k L1 := ⟨fun S σ H A Q q => wW.of (pw_or1 wT.pt) (h.run S σ H A Q q)⟩
theorem wx_and {i j : Bool} {rest : List Expr} (h : TX Y a ρ L i L1) (t : i = true → WX' Y (.BoolOp .And (b :: rest) pos) ρ L1 j L1) : WX' Y (.BoolOp .And (a :: b :: rest) pos) ρ L (i && j) L1 := ⟨fun S σ H A Q q => wW.of (pw_and wT.pt wW.pw) (h.run S σ H A _ fun r1 L1' S1 H1 ⟨e1, e2⟩ t1 => by
  subst e1 e2
  cases r1 with
  | true => exact iteT ((t rfl).run S1 σ H1 (A.next t1) Q fun r L2 S2 H2 ⟨e1, e2⟩ t2 => q r L2 S2 H2 ⟨by rw [e1]; rfl, e2⟩ (t1.trans t2))
  | false => exact iteF (q _ _ S1 H1 ⟨rfl, rfl⟩ t1))⟩
theorem wx_or {i j : Bool} {rest : List Expr} (h : TX Y a ρ L i L1) (t : i = false → WX' Y (.BoolOp .Or (b :: rest) pos) ρ L1 j L1) : WX' Y (.BoolOp .Or (a :: b :: rest) pos) ρ L (i || j) L1 := ⟨fun S σ H A Q q => wW.of (pw_or wT.pt wW.pw) (h.run S σ H A _ fun r1 L1' S1 H1 ⟨e1, e2⟩ t1 => by
  subst e1 e2
  cases r1 with
  | false => exact iteF ((t rfl).run S1 σ H1 (A.next t1) Q fun r L2 S2 H2 ⟨e1, e2⟩ t2 => q r L2 S2 H2 ⟨by rw [e1]; rfl, e2⟩ (t1.trans t2))
  | true => exact iteT (q _ _ S1 H1 ⟨rfl, rfl⟩ t1))⟩
/-- x op y op' z -/
theorem rm_bl {rr : R2} {k : Bool} (h : RM rr ra rb L (.dt (.bool k))) : ∀ S H x y, Ok S H L → ra.is S x → rb.is S y → ∀ Q : VK, (∀ S' H', Step S H L S' H' L → Q (.bl k) H') → rr x y H Q := fun S H x y ok hx hy Q q =>
  h S H x y ok hx hy Q fun S' H' v s i => by
    rw [Da.blAt i]
    exact q S' H' s
theorem ex_chain {op op' : CmpOp} {i j : Bool} (ha : EX Y a ρ L ra L1) (hb : EX Y b ρ L1 rb L2) (hc : i = true → EX Y c ρ L2 rc L2) (h : Op2 Y.X (compareOp op) ra rb L2 (.dt (.bool i))) (h' : i = true → Op2 Y.X (compareOp op') rb rc L2 (.dt (.bool j))) (h0 : ∃ r, OpR Y.X (compareOp op') r)
    (hm : lastMarks [op, op'] [b, c] = false := by rfl) : EX Y (.Compare a [op, op'] [b, c] pos) ρ L (.dt (.bool (i && j))) L2 := ⟨fun S σ H A Q q => by
  obtain ⟨r, ho, hr⟩ := h
  obtain ⟨r', ho', hr'⟩ : ∃ r', OpR Y.X (compareOp op') r' ∧ (i = true → RM r' rb rc L2 (.dt (.bool j))) := by
    cases i with
    | true =>
      obtain ⟨r', a, b⟩ := h' rfl
      exact ⟨r', a, fun _ => b⟩
    | false =>
      obtain ⟨r', a⟩ := h0
      exact ⟨r', a, fun z => by cases z⟩
  refine wE.of (pe_chain ho ho' wE.pe wE.pe wE.pe hm) (ha.run S σ H A _ fun r1 L1' S1 H1 x ⟨e1, e2⟩ t1 i1 => ?_)
  subst e1 e2
  refine hb.run S1 σ H1 (A.next t1) _ fun r2 L2' S2 H2 y ⟨e1, e2⟩ t2 i2 => ?_
  subst e1 e2
  refine rm_bl hr S2 H2 x y t2.ok (i1.mono t2.sub) i2 _ fun S3 H3 t3 => ⟨i, rfl, ?_⟩
  cases i with
  | false => exact iteF (q _ _ S3 H3 _ ⟨rfl, rfl⟩ ((t1.trans t2).trans t3) (.bl _))
  | true =>
    refine iteT ((hc rfl).run S3 σ H3 (A.next ((t1.trans t2).trans t3)) _ fun r4 L4 S4 H4 z ⟨e1, e2⟩ t4 i4 => ?_)
    subst e1 e2
    exact hr' rfl S4 H4 y z t4.ok ((i2.mono t3.sub).mono t4.sub) i4 Q fun S5 H5 v t5 i5 => q _ _ S5 H5 v ⟨rfl, rfl⟩ ((((t1.trans t2).trans t3).trans t4).trans t5) i5⟩
end
end Cw

set_option Elab.async false
set_option linter.all false
set_option maxRecDepth 100000
set_option maxHeartbeats 2000000
/-! Cw, part D: defs and their calls; statements; loops; comprehensions; lists that change; objects. -/
namespace Cw
open PySem PySem.Spec PyProof.Rows L2

/-! ### what a def promises, on data -/
abbrev Fs := List Rv → Led → (Rv → Led → Prop) → (Value → Led → Prop) → Prop
def lift (sp : Fs) : Sp := fun vs H Q E => ∃ S L as K XC, Ok S H L ∧ Rvs S as vs ∧ sp as L K XC ∧ (∀ r L' S' H' v, K r L' → Step S H L S' H' L' → r.is S' v → Q v H') ∧ (∀ c L' S' H', XC c L' → Step S H L S' H' L' → E c none H')
def noX : Value → Led → Prop := fun _ _ => False
/-- the def x lets nothing out -/
structure FnM (P : Program) (w : World) (K : PySem.W.Frag) (mg : Str → Option Value) (base : Heap) (k : Nat) (x : Str) (ps : List Str) (sp : Fs) : Prop where
  ex : ∃ f fd, mg x = some (.ref f) ∧ PySem.W.keepIn K (.ref f) = true ∧ Binds K fd ps [] ∧ FnOk P w K mg base CX0 k f fd ps (lift sp)
/-- .. may let an error out -/
structure FnX (P : Program) (w : World) (K : PySem.W.Frag) (mg : Str → Option Value) (base : Heap) (k : Nat) (x : Str) (ps : List Str) (sp : Fs) : Prop where
  ex : ∃ f fd, mg x = some (.ref f) ∧ PySem.W.keepIn K (.ref f) = true ∧ Binds K fd ps [] ∧ FnOk P w K mg base (L2.CX P w) k f fd ps (lift sp)
/-- a method m of the class at C -/
structure MtM (P : Program) (w : World) (K : PySem.W.Frag) (mg : Str → Option Value) (base : Heap) (k : Nat) (C : Addr) (m : Str) (ps : List Str) (sp : Fs) : Prop where
  ex : ∃ f fd, Meth K C m f ∧ Binds K fd ps [] ∧ FnOk P w K mg base CX0 k f fd ps (lift sp)
structure MtX (P : Program) (w : World) (K : PySem.W.Frag) (mg : Str → Option Value) (base : Heap) (k : Nat) (C : Addr) (m : Str) (ps : List Str) (sp : Fs) : Prop where
  ex : ∃ f fd, Meth K C m f ∧ Binds K fd ps [] ∧ FnOk P w K mg base (L2.CX P w) k f fd ps (lift sp)

section
variable {Y : Cm} {ρ : Rho} {L La Lb Lc : Led} {r ra rb rc : Rv} {e a b c : Expr} {es : List Expr} {pos p : Pos} {X : Cx} {sp : Fs} {k : Nat} {x m : Str} {ps : List Str} {K : Rv → Led → Prop}

theorem me_call (G : FnM Y.X.prog Y.X.w Y.X.K Y.X.mg Y.X.base k x ps sp) (hr : Room k Y.X.A) (hg : Gl Y.X x) (ha : MA Y (e :: es) ρ L fun rs L1 => sp rs L1 K noX) (hdb : (x == ("__debug__" : Str)) = false := by decide)
    (he : starEach (e :: es) Y.X.env = (false, eval e Y.X.env) :: starEach es Y.X.env := by rfl) (hpl : (backTo pos (starEach es Y.X.env)).any (·.1) = false := by rfl) : ME Y (.Call (.Name x p) (e :: es) [] pos) ρ L K := ⟨fun S σ H A Q q => by
  obtain ⟨f, fd, hm, hk, hb, F⟩ := G.ex
  refine wE.of (pe_call F hr hg hm hk hb .nil pass0 wA.pa hdb he hpl) (ha.run S σ H A _ fun rs L1 S1 H1 vs h t1 i1 => ?_)
  rw [List.append_nil]
  exact ⟨S1, L1, rs, K, noX, t1.ok, i1, h, fun r L' S' H' v kk t i => q r L' S' H' v kk (t1.trans t) i, fun _ _ _ _ z => z.elim⟩⟩
theorem me_call0 (G : FnM Y.X.prog Y.X.w Y.X.K Y.X.mg Y.X.base k x ps sp) (hr : Room k Y.X.A) (hg : Gl Y.X x) (ha : sp [] L K noX) (hdb : (x == ("__debug__" : Str)) = false := by decide) : ME Y (.Call (.Name x p) [] [] pos) ρ L K := ⟨fun S σ H A Q q => by
  obtain ⟨f, fd, hm, hk, hb, F⟩ := G.ex
  refine wE.of (pe_call0 F hr hg hm hk hb .nil pass0 hdb) ?_
  exact ⟨S, L, [], K, noX, A.ok, .nil, ha, fun r L' S' H' v kk t i => q r L' S' H' v kk t i, fun _ _ _ _ z => z.elim⟩⟩
theorem me_callX (G : FnX Y.X.prog Y.X.w Y.X.K Y.X.mg Y.X.base k x ps sp) (hr : Room k Y.X.A) (hg : Gl Y.X x) (ha : MA Y (e :: es) ρ L fun rs L1 => sp rs L1 K fun c L' => Y.xc c ρ L') (hdb : (x == ("__debug__" : Str)) = false := by decide)
    (he : starEach (e :: es) Y.X.env = (false, eval e Y.X.env) :: starEach es Y.X.env := by rfl) (hpl : (backTo pos (starEach es Y.X.env)).any (·.1) = false := by rfl) : ME Y (.Call (.Name x p) (e :: es) [] pos) ρ L K := ⟨fun S σ H A Q q => by
  obtain ⟨f, fd, hm, hk, hb, F⟩ := G.ex
  refine wE.of (pe_callS F hr hg hm hk hb (fun σ => passAt Y.tk σ) wA.pa hdb he hpl) (ha.run S σ H A _ fun rs L1 S1 H1 vs h t1 i1 => ?_)
  exact ⟨S1, L1, rs, K, _, t1.ok, i1, h, fun r L' S' H' v kk t i => q r L' S' H' v kk (t1.trans t) i, fun c L' S' H' z t => A.lx c ρ L' S' H' σ z (t1.trans t) (A.es.mono (t1.trans t).sub)⟩⟩
/-- the instance's attributes -/
theorem rf_lookup {S : Hp} {f : Str} : ∀ {fs : List (Str × Rv)} {gs : List (Str × V)}, RF S fs gs → (fs.lookup f = none → gs.lookup f = none) ∧ ∀ r, fs.lookup f = some r → ∃ v, gs.lookup f = some v ∧ r.is S v
  | _, _, .nil => ⟨fun _ => rfl, fun _ h => by cases h⟩
  | (g, r) :: fs, (g', v) :: gs, .cons ⟨e, i⟩ t => by
    have ih := rf_lookup (f := f) t
    have e' : g = g' := e
    subst e'
    cases q : (f == g) with
    | true =>
      refine ⟨fun h => ?_, fun r' h => ?_⟩
      · rw [List.lookup_cons, q] at h
        cases h
      · rw [List.lookup_cons, q] at h
        cases h
        exact ⟨v, by rw [List.lookup_cons, q], i⟩
    | false =>
      refine ⟨fun h => ?_, fun r' h => ?_⟩
      · rw [List.lookup_cons, q] at h ⊢
        exact ih.1 h
      · rw [List.lookup_cons, q] at h
        obtain ⟨v', h1, h2⟩ := ih.2 r' h
        exact ⟨v', by rw [List.lookup_cons, q]; exact h1, h2⟩
theorem Ok.ins {S H : Hp} {q : Addr} {C : Addr} {fs : List (Str × Rv)} (k : Ok S H L) (h : L q = some (.ins C fs)) : ∃ dx gs, H q = some (.ins C dx gs) ∧ RF S fs gs := by
  obtain ⟨_, o, e, dx, gs, rfl, i⟩ := k.led q _ h
  exact ⟨dx, gs, e, i⟩
/-- o.m(e, ..) -/
theorem me_meth {pl : Sem Bool} {q C : Addr} {fs : List (Str × Rv)} {apos : Pos} (ho : EX Y a ρ L (.vl (.ref q)) La) (hq : La q = some (.ins C fs)) (hn : fs.lookup m = none) (c : Cls Y.X.K C) (G : MtM Y.X.prog Y.X.w Y.X.K Y.X.mg Y.X.base k C m ps sp) (hr : Room k Y.X.A)
    (ha : MA Y (e :: es) ρ La fun rs L1 => sp (.vl (.ref q) :: rs) L1 K noX)
    (hst : starEach (e :: es) Y.X.env = (false, eval e Y.X.env) :: starEach es Y.X.env := by rfl) (hpl : (backTo pos (starEach es Y.X.env)).any (·.1) = false := by rfl)
    (ht : eval (.Call (.Attribute a m apos) (e :: es) [] pos) Y.X.env = (do
      let ov ← eval a Y.X.env
      standAt apos.atName
      let (f, first) ← holding [ov] (getMethod ov m pl)
      callWith pos f first (backTo pos (starEach (e :: es) Y.X.env)) (backToKw pos (keywordEach [] Y.X.env))) := by rfl) : ME Y (.Call (.Attribute a m apos) (e :: es) [] pos) ρ L K := ⟨fun S σ H A Q qq => by
  obtain ⟨f, fd, hm, hb, F⟩ := G.ex
  refine wE.of (pe_meth (pl := pl) wE.pe c hm F hr hb .nil pass0 wA.pa hst hpl ht) (ho.run S σ H A _ fun r1 L1' S1 H1 x ⟨e1, e2⟩ t1 i1 => ?_)
  subst e1 e2
  obtain ⟨dx, gs, hg, rf⟩ := t1.ok.ins hq
  refine ⟨q, dx, gs, i1, hg, (rf_lookup rf).1 hn, ?_⟩
  refine ha.run S1 σ H1 (A.next t1) _ fun rs L2 S2 H2 vs h t2 i2 => ?_
  rw [List.append_nil]
  exact ⟨S2, L2, _, K, noX, t2.ok, .cons (show Rv.is S2 (.vl (.ref q)) x from i1) i2, h, fun r L' S' H' v kk t i => qq r L' S' H' v kk ((t1.trans t2).trans t) i, fun _ _ _ _ z => z.elim⟩⟩
theorem me_meth0 {pl : Sem Bool} {q C : Addr} {fs : List (Str × Rv)} {apos : Pos} (ho : EX Y a ρ L (.vl (.ref q)) La) (hq : La q = some (.ins C fs)) (hn : fs.lookup m = none) (c : Cls Y.X.K C) (G : MtM Y.X.prog Y.X.w Y.X.K Y.X.mg Y.X.base k C m ps sp) (hr : Room k Y.X.A)
    (ha : sp [.vl (.ref q)] La K noX)
    (ht : eval (.Call (.Attribute a m apos) [] [] pos) Y.X.env = (do
      let ov ← eval a Y.X.env
      standAt apos.atName
      let (f, first) ← holding [ov] (getMethod ov m pl)
      callWith pos f first (backTo pos (starEach [] Y.X.env)) (backToKw pos (keywordEach [] Y.X.env))) := by rfl) : ME Y (.Call (.Attribute a m apos) [] [] pos) ρ L K := ⟨fun S σ H A Q qq => by
  obtain ⟨f, fd, hm, hb, F⟩ := G.ex
  refine wE.of (pe_meth0 (pl := pl) wE.pe c hm F hr hb .nil pass0 ht) (ho.run S σ H A _ fun r1 L1' S1 H1 x ⟨e1, e2⟩ t1 i1 => ?_)
  subst e1 e2
  obtain ⟨dx, gs, hg, rf⟩ := t1.ok.ins hq
  refine ⟨q, dx, gs, i1, hg, (rf_lookup rf).1 hn, ?_⟩
  exact ⟨S1, L1', _, K, noX, t1.ok, .cons i1 .nil, ha, fun r L' S' H' v kk t i => qq r L' S' H' v kk (t1.trans t) i, fun _ _ _ _ z => z.elim⟩⟩
/-- C(e, ..): a new instance; sp: what __init__ promises -/
theorem me_make {C : Addr} {f : Addr} {fd : FuncData} (M : Mk Y.X.K C f) (F : FnOk Y.X.prog Y.X.w Y.X.K Y.X.mg Y.X.base CX0 k f fd ps (lift sp)) (hb : Binds Y.X.K fd ps []) (hr : Room (k + 1) Y.X.A) (hg : Gl Y.X x) (hm : Y.X.mg x = some (.ref C))
    (ha : MA Y (e :: es) ρ L fun rs L1 => ∀ q, L1 q = none → sp (.vl (.ref q) :: rs) (updL L1 q (.ins C [])) (fun r L2 => r = .dt .none ∧ K (.vl (.ref q)) L2) noX) (hdb : (x == ("__debug__" : Str)) = false := by decide)
    (he : starEach (e :: es) Y.X.env = (false, eval e Y.X.env) :: starEach es Y.X.env := by rfl) (hpl : (backTo pos (starEach es Y.X.env)).any (·.1) = false := by rfl) : ME Y (.Call (.Name x p) (e :: es) [] pos) ρ L K := ⟨fun S σ H A Q q => by
  refine wE.of (pe_make M F hr hg hm hb .nil pass0 wA.pa hdb he hpl) (ha.run S σ H A _ fun rs L1 S1 H1 vs h t1 i1 => ?_)
  intro z dx hz hdx hne
  rw [List.append_nil]
  have t2 := Step.dust (o := HO.own z) t1.ok hdx
  have hz' : upd H1 dx (.own z) z = none := by rw [upd_ne (Ne.symm hne)]; exact hz
  have t3 := Step.new (o := HO.ins C dx []) (m := MO.ins C []) t2.ok hz' ⟨dx, [], rfl, .nil⟩
  refine ⟨S1, _, _, _, noX, t3.ok, .cons (show Rv.is S1 (.vl (.ref z)) (.ref z) from rfl) i1, h z (t1.ok.free hz), fun r L' S' H' v ⟨e1, kk⟩ t i => ?_, fun _ _ _ _ z => z.elim⟩
  subst e1
  exact ⟨Da.nonAt i, q _ L' S' H' _ kk (((t1.trans t2).trans t3).trans t) rfl⟩⟩
theorem me_make0 {C : Addr} {f : Addr} {fd : FuncData} (M : Mk Y.X.K C f) (F : FnOk Y.X.prog Y.X.w Y.X.K Y.X.mg Y.X.base CX0 k f fd ps (lift sp)) (hb : Binds Y.X.K fd ps []) (hr : Room (k + 1) Y.X.A) (hg : Gl Y.X x) (hm : Y.X.mg x = some (.ref C))
    (ha : ∀ q, L q = none → sp [.vl (.ref q)] (updL L q (.ins C [])) (fun r L2 => r = .dt .none ∧ K (.vl (.ref q)) L2) noX) (hdb : (x == ("__debug__" : Str)) = false := by decide) : ME Y (.Call (.Name x p) [] [] pos) ρ L K := ⟨fun S σ H A Q q => by
  refine wE.of (pe_make0 M F hr hg hm hb .nil pass0 hdb) ?_
  intro z dx hz hdx hne
  have t2 := Step.dust (o := HO.own z) A.ok hdx
  have hz' : upd H dx (.own z) z = none := by rw [upd_ne (Ne.symm hne)]; exact hz
  have t3 := Step.new (o := HO.ins C dx []) (m := MO.ins C []) t2.ok hz' ⟨dx, [], rfl, .nil⟩
  refine ⟨S, _, _, _, noX, t3.ok, .cons (show Rv.is S (.vl (.ref z)) (.ref z) from rfl) .nil, ha z (A.ok.free hz), fun r L' S' H' v ⟨e1, kk⟩ t i => ?_, fun _ _ _ _ z => z.elim⟩
  subst e1
  exact ⟨Da.nonAt i, q _ L' S' H' _ kk ((t2.trans t3).trans t) rfl⟩⟩
/-- o.f -/
theorem ex_fld {q C : Addr} {fs : List (Str × Rv)} {f : Str} (ho : EX Y a ρ L (.vl (.ref q)) La) (hq : La q = some (.ins C fs)) (hf : fs.lookup f = some r) (c : Cls Y.X.K C) (n : NoAttr Y.X.K C f) (hb : attributeBase a f Y.X.env (eval a Y.X.env) = eval a Y.X.env := by rfl) : EX Y (.Attribute a f pos) ρ L r La := ⟨fun S σ H A Q qq => by
  refine wE.of (pe_fld wE.pe hb) (ho.run S σ H A _ fun r1 L1' S1 H1 x ⟨e1, e2⟩ t1 i1 => ?_)
  subst e1 e2
  obtain ⟨dx, gs, hg, rf⟩ := t1.ok.ins hq
  obtain ⟨v, h1, h2⟩ := (rf_lookup rf).2 r hf
  exact ⟨q, C, dx, gs, v, i1, hg, c, n, h1, qq _ _ S1 H1 v ⟨rfl, rfl⟩ t1 h2⟩⟩
end

/-! ### the body of a def -/
def start (N : List Str) (as : List Rv) : Rho := as.map some ++ List.replicate (N.length - as.length) none
theorem es_start {S : Hp} {N : List Str} {as : List Rv} {vs : List V} (h : Rvs S as vs) : Es S (L2.start N vs) (start N as) := by
  have hl := Rvs.len h
  refine ⟨?_, fun i r q => ?_⟩
  · unfold L2.start start
    rw [List.length_append, List.length_append, List.length_map, List.length_map, List.length_replicate, List.length_replicate, hl]
  · unfold start at q
    by_cases hi : i < as.length
    · rw [List.getElem?_append_left (by rw [List.length_map]; exact hi), List.getElem?_map] at q
      obtain ⟨r', e⟩ : ∃ r', as[i]? = some r' := ⟨_, List.getElem?_eq_getElem hi⟩
      rw [e] at q
      cases q
      obtain ⟨v, e2, i2⟩ := pgetL h e
      refine ⟨v, ?_, i2⟩
      unfold L2.start
      rw [List.getElem?_append_left (by rw [List.length_map, ← hl]; exact hi), List.getElem?_map, e2]
      rfl
    · rw [List.getElem?_append_right (by rw [List.length_map]; omega)] at q
      rw [List.getElem?_replicate] at q
      split at q <;> cases q
/-- the context of a def's body that lets nothing out -/
abbrev y0 (P : Program) (w : World) (K : PySem.W.Frag) (mg : Str → Option Value) (base : Heap) (N : List Str) (qual : Str) (sc : Scope) (f : Addr) (cdv : Value) (A : Around) (outer : List Env) (s : Shared) (H : Hp) (E : XK) : Cm :=
  ⟨(cxOf CX0 P w K mg base N qual sc f cdv A outer s H E).nox, fun _ _ _ _ => False, fun _ _ _ => False, takes0, PassesOwn.never⟩
section
variable {P : Program} {w : World} {K : PySem.W.Frag} {mg : Str → Option Value} {base : Heap} {x qual : Str} {st : Stmt} {f : Addr} {fd : FuncData} {N ps : List Str} {k : Nat} {sp : Fs}
theorem fnok0 (F : Fun K x qual st f fd) (S : FnScope N ps (defScope st)) (len : ∀ as L Kp XC, sp as L Kp XC → as.length = ps.length)
    (body : ∀ cdv A outer s H E, Room k (A.deeper (envOfC qual (defScope st) s.heap.objs.size f cdv)) → ∀ as L Kp XC, sp as L Kp XC → MSs (y0 P w K mg base N qual (defScope st) f cdv A outer s H E) (defBody st) (fun _ L' => Kp (.dt .none) L') ⟨Kp, fun _ _ => False, fun _ _ => False⟩ (start N as) L) :
    FnOk P w K mg base CX0 (k + 1) f fd ps (lift sp) := by
  refine F.ok S (fun vs H Q E h => ?_) (fun cdv A outer s H vs Q E hr h => ?_)
  · obtain ⟨S, L, as, Kp, XC, _, i, h, _⟩ := h
    rw [← Rvs.len i]
    exact len as L Kp XC h
  · obtain ⟨S, L, as, Kp, XC, ok, i, h, q, _⟩ := h
    refine ⟨wSs _ (defBody st), wSs.ps, (body cdv A outer s H E hr as L Kp XC h).run S _ H ⟨ok, es_start i, fun _ _ _ _ _ _ z => z.elim⟩ _ ⟨fun ρ L' S' H' σ kk t _ => q _ L' S' H' _ kk t .non, fun r L' S' H' v kk t ii => q r L' S' H' v kk t ii, fun _ _ _ _ _ z => z.elim, fun _ _ _ _ _ z => z.elim⟩⟩
/-- the context of a def's body that may let an error out -/
abbrev yX (P : Program) (w : World) (K : PySem.W.Frag) (mg : Str → Option Value) (base : Heap) (N : List Str) (qual : Str) (sc : Scope) (f : Addr) (cdv : Value) (A : Around) (outer : List Env) (s : Shared) (H : Hp) (E : XK) (XC : Value → Led → Prop) : Cm :=
  ⟨cxOf (L2.CX P w) P w K mg base N qual sc f cdv A outer s H E, fun cls d _ H => E cls d H, fun c _ L => XC c L, takes_of rfl rfl rfl rfl, PassesOwn.leaving⟩
theorem fnokX (F : Fun K x qual st f fd) (S : FnScope N ps (defScope st)) (len : ∀ as L Kp XC, sp as L Kp XC → as.length = ps.length)
    (body : ∀ cdv A outer s H E, Room k (A.deeper (envOfC qual (defScope st) s.heap.objs.size f cdv)) → ∀ as L Kp XC, sp as L Kp XC → MSs (yX P w K mg base N qual (defScope st) f cdv A outer s H E XC) (defBody st) (fun _ L' => Kp (.dt .none) L') ⟨Kp, fun _ _ => False, fun _ _ => False⟩ (start N as) L) :
    FnOk P w K mg base (L2.CX P w) (k + 1) f fd ps (lift sp) := by
  refine F.okX S (fun vs H Q E h => ?_) (fun cdv A outer s H vs Q E hr h => ?_)
  · obtain ⟨S, L, as, Kp, XC, _, i, h, _⟩ := h
    rw [← Rvs.len i]
    exact len as L Kp XC h
  · obtain ⟨S, L, as, Kp, XC, ok, i, h, q, qx⟩ := h
    refine ⟨wSs _ (defBody st), wSs.ps, (body cdv A outer s H E hr as L Kp XC h).run S _ H ⟨ok, es_start i, fun c _ L' S' H' _ z t _ => qx c L' S' H' z t⟩ _ ⟨fun ρ L' S' H' σ kk t _ => q _ L' S' H' _ kk t .non, fun r L' S' H' v kk t ii => q r L' S' H' v kk t ii, fun _ _ _ _ _ z => z.elim, fun _ _ _ _ _ z => z.elim⟩⟩
end

/-! ### blocks and small statements -/
section
variable {Y : Cm} {ρ ρ' : Rho} {L L' La : Led} {r ra rb rc : Rv} {e a b c : Expr} {es : List Expr} {pos p : Pos} {st : Stmt} {sts rest sa sb : List Stmt} {N : Rho → Led → Prop} {D : Nd}
theorem mss_nil (h : N ρ L) : MSs Y [] N D ρ L := ⟨fun S σ H A De l => wSs.of pss_nil (l.nx ρ L S H σ h (Step.refl A.ok) A.es)⟩
theorem mss_cons (h : MS Y st (fun ρ L => MSs Y rest N D ρ L) D ρ L) : MSs Y (st :: rest) N D ρ L := ⟨fun S σ H A De l => wSs.of (pss_cons wS.ps wSs.ps) (h.run S σ H A { De with nx := wSs Y.X rest De } ⟨fun ρ' L' S' H' σ' k t es => k.run S' σ' H' ((A.next t).env es) De (l.mono t), l.rt, l.bk, l.ct⟩)⟩
theorem mss_one (h : MS Y st N D ρ L) : MSs Y [st] N D ρ L := mss_cons ⟨fun S σ H A De l => h.run S σ H A De ⟨fun ρ' L' S' H' σ' k t es => l.nx ρ' L' S' H' σ' (mss_nil k) t es, l.rt, l.bk, l.ct⟩⟩
/-- the ledger and the names forgotten in part -/
theorem MSs.le (h : MSs Y sts N D ρ' L') (hl : Le L' L) (hf : Fg ρ' ρ) : MSs Y sts N D ρ L := ⟨fun S σ H A De l =>
  have t : Step S H L S H L' := (Step.refl A.ok).le hl
  h.run S σ H ((A.next t).env (A.es.fg hf)) De (l.mono t)⟩
theorem MSs.settle {q : Addr} {ds : List PyData} (i : Nat) (hi : ρ[i]? = some (some (.vl (.ref q)))) (hq : L q = some (.lst (ds.map Rv.dt))) (h : MSs Y sts N D (ρ.set i (some (.dt (.list ds)))) (delL L q)) : MSs Y sts N D ρ L := ⟨fun S σ H A De l => by
  obtain ⟨S', t, da⟩ := Step.settle A.ok hq
  have es := (A.next t).es
  have hl : i < ρ.length := (List.getElem?_eq_some_iff.mp hi).1
  obtain ⟨v, e1, e2⟩ := es.at_ i _ hi
  have e3 : v = .ref q := e2
  subst e3
  refine h.run S' σ H ((A.next t).env ⟨by rw [List.length_set]; exact es.len, fun j r q' => ?_⟩) De (l.mono t)
  by_cases hj : i = j
  · subst hj
    rw [List.getElem?_set_self hl] at q'
    cases q'
    exact ⟨_, e1, da⟩
  · rw [List.getElem?_set_ne hj] at q'
    exact es.at_ j r q'⟩
theorem ms_pass (h : N ρ L) : MS Y (.Pass pos) N D ρ L := ⟨fun S σ H A De l => wS.of ps_pass (l.nx ρ L S H σ h (Step.refl A.ok) A.es)⟩
theorem ms_break (h : D.bk ρ L) : MS Y (.Break pos) N D ρ L := ⟨fun S σ H A De l => wS.of ps_break (l.bk ρ L S H σ h (Step.refl A.ok) A.es)⟩
theorem ms_cont (h : D.ct ρ L) : MS Y (.Continue pos) N D ρ L := ⟨fun S σ H A De l => wS.of ps_continue (l.ct ρ L S H σ h (Step.refl A.ok) A.es)⟩
theorem ms_expr (h : ME Y e ρ L fun _ L' => N ρ L') (hs : swapsWith e none pos.line Y.X.env = pure false := by rfl) : MS Y (.Expr e pos) N D ρ L := ⟨fun S σ H A De l => wS.of (ps_expr wE.pe hs) (h.run S σ H A _ fun r L' S' H' v k t _ => l.nx ρ L' S' H' σ k t (A.es.mono t.sub))⟩
theorem ms_ret (h : ME Y e ρ L D.rt) : MS Y (.Return (some e) pos) N D ρ L := ⟨fun S σ H A De l => wS.of (ps_ret wE.pe) (h.run S σ H A _ fun r L' S' H' v k t i => l.rt r L' S' H' v k t i)⟩
theorem ms_retN (h : D.rt (.dt .none) L) : MS Y (.Return none pos) N D ρ L := ⟨fun S σ H A De l => wS.of ps_retN (l.rt _ L S H _ h (Step.refl A.ok) .non)⟩
theorem ms_if (hc : MT Y c ρ L fun k L' => (k = true → MSs Y sa N D ρ L') ∧ (k = false → MSs Y sb N D ρ L')) : MS Y (.If c sa sb pos) N D ρ L := ⟨fun S σ H A De l => wS.of (ps_if wT.pt wSs.ps wSs.ps) (hc.run S σ H A _ fun k L' S1 H1 ⟨h1, h2⟩ t1 => by
  cases k with
  | true => exact iteT ((h1 rfl).run S1 σ H1 (A.next t1) De (l.mono t1))
  | false => exact iteF ((h2 rfl).run S1 σ H1 (A.next t1) De (l.mono t1)))⟩
theorem ms_ifx {k : Bool} (hc : TX Y c ρ L k La) (h1 : k = true → MSs Y sa N D ρ La) (h2 : k = false → MSs Y sb N D ρ La) : MS Y (.If c sa sb pos) N D ρ L := ms_if (hc.imp fun _ _ ⟨e1, e2⟩ => by
  subst e1 e2
  exact ⟨h1, h2⟩)
/-- x = e -/
theorem ms_set (i : Nat) {x : Str} {pos' : Pos} (hN : Y.X.N.Nodup) (hi : Y.X.N[i]? = some x) (hx : Loc Y.X.env.scope x) (h : ME Y e ρ L fun r L' => N (ρ.set i (some r)) L') (hs : swapsWith e (some (.Name x pos')) pos.line Y.X.env = pure false := by rfl) (hf : Y.X.fn x = true ∨ Y.X.env.scope.names.lookup x = some .local := by first | exact .inl rfl | exact .inr rfl) :
    MS Y (.Assign [.Name x pos'] e pos) N D ρ L := ⟨fun S σ H A De l => wS.of (ps_set hN hi hx wE.pe hs hf) (h.run S σ H A _ fun r L' S' H' v k t ii => l.nx _ L' S' H' _ k t ((A.es.mono t.sub).set ii))⟩
/-- x op= e -/
theorem ms_aug (i : Nat) {x : Str} {op : Operator} {pos' : Pos} (hN : Y.X.N.Nodup) (hi : Y.X.N[i]? = some x) (hx : Loc Y.X.env.scope x) (h0 : ρ[i]? = some (some ra)) (he : EX Y e ρ L rb La) (h : Op2 Y.X (inplaceOp op) ra rb La rc) (k : N (ρ.set i (some rc)) La)
    (hf : Y.X.fn x = true ∨ Y.X.env.scope.names.lookup x = some .local := by first | exact .inl rfl | exact .inr rfl) : MS Y (.AugAssign (.Name x pos') op e pos) N D ρ L := ⟨fun S σ H A De l => by
  obtain ⟨rr, ho, hr⟩ := h
  refine wS.of (ps_aug (ti := fun x y H Q => rr x y H Q) hN hi hx wE.pe (fun pins s σ H x y v u Q I rx ry q => ho pins s σ H x y v u Q I rx ry q) hf) ?_
  obtain ⟨v, e1, i1⟩ := A.es.at_ i ra h0
  refine ⟨v, e1, he.run S σ H A _ fun r1 L1' S1 H1 y ⟨e2, e3⟩ t1 i2 => ?_⟩
  subst e2 e3
  exact hr S1 H1 v y t1.ok (i1.mono t1.sub) i2 _ fun S2 H2 z t2 i3 => l.nx _ _ S2 H2 _ k (t1.trans t2) ((A.es.mono (t1.trans t2).sub).set i3)⟩

/-! ### targets -/
inductive Tg where
  | n (i : Nat) | t (is : List Nat)
def gNs : List Nat → TGs
  | [] => gNil
  | i :: is => gCons (gName i) (gNs is)
def gTg (K : PySem.W.Frag) : Tg → TG
  | .n i => gName i
  | .t is => gTup K is.length (gNs is)
def Tg.slots : Tg → List Nat
  | .n i => [i]
  | .t is => is
inductive Yd where
  | r (x : Rv) | t (xs : List Rv)
def Yd.is (S H : Hp) : Yd → V → Prop
  | .r x, u => x.is S u
  | .t xs, u => ∃ p vs, u = .ref p ∧ H p = some (.tup vs) ∧ Rvs S xs vs
def setAll : List Nat → List Rv → Rho → Rho
  | i :: is, r :: rs, ρ => setAll is rs (ρ.set i (some r))
  | _, _, ρ => ρ
def setT : Tg → Yd → Rho → Option Rho
  | .n i, .r x, ρ => some (ρ.set i (some x))
  | .t is, .r (.dt (.tuple ds)), ρ => if ds.length = is.length then some (setAll is (ds.map Rv.dt) ρ) else none
  | .t is, .t xs, ρ => if xs.length = is.length then some (setAll is xs ρ) else none
  | _, _, _ => none
/-- σ and σ' are alike but at vs -/
def But (vs : List Nat) (σ σ' : Slots) : Prop := σ.length = σ'.length ∧ ∀ i, i ∉ vs → σ[i]? = σ'[i]?
theorem wipe_at (σ : Slots) (i : Nat) : ∀ vs : List Nat, (wipe σ vs)[i]? = if i ∈ vs ∧ i < σ.length then some none else σ[i]?
  | [] => by simp [wipe]
  | v :: vs => by
    unfold wipe
    by_cases hi : v = i
    · subst hi
      by_cases hl : v < σ.length
      · rw [List.getElem?_set_self (by rw [wipe_length]; exact hl), if_pos ⟨List.mem_cons_self, hl⟩]
      · rw [if_neg (fun z => hl z.2), List.getElem?_eq_none (by rw [List.length_set, wipe_length]; omega), List.getElem?_eq_none (by omega)]
    · rw [List.getElem?_set_ne hi, wipe_at σ i vs]
      have e : (i ∈ v :: vs) ↔ (i ∈ vs) := by
        rw [List.mem_cons]
        exact ⟨fun z => z.elim (fun q => absurd q.symm hi) id, .inr⟩
      simp only [e]
theorem But.wipe {vs : List Nat} {σ σ' : Slots} (h : But vs σ σ') : L2.wipe σ' vs = L2.wipe σ vs := by
  apply List.ext_getElem?
  intro i
  rw [wipe_at, wipe_at, h.1]
  by_cases hi : i ∈ vs
  · by_cases hl : i < σ'.length
    · rw [if_pos ⟨hi, hl⟩, if_pos ⟨hi, hl⟩]
    · rw [if_neg (fun z => hl z.2), if_neg (fun z => hl z.2), List.getElem?_eq_none (by omega), List.getElem?_eq_none (by rw [h.1]; omega)]
  · rw [if_neg (fun z => hi z.1), if_neg (fun z => hi z.1), h.2 i hi]
theorem But.wipeL {vs : List Nat} {σ σ' : Slots} (h : But vs (L2.wipe σ vs) σ') : L2.wipe σ' vs = L2.wipe σ vs := by
  rw [But.wipe h]
  apply List.ext_getElem?
  intro i
  rw [wipe_at, wipe_at, wipe_length]
  by_cases hi : i ∈ vs ∧ i < σ.length
  · rw [if_pos hi, if_pos hi]
  · rw [if_neg hi, if_neg hi]
theorem gNs_ok {S : Hp} : ∀ {is : List Nat} {xs : List Rv} {vs : List V} {σ : Slots} {ρ : Rho} {H : Hp} {Q : Slots → Hp → Prop}, Rvs S xs vs → xs.length = is.length → Es S σ ρ → (∀ σ', Es S σ' (setAll is xs ρ) → But is σ σ' → Q σ' H) → gNs is vs σ H Q
  | [], [], _, σ, ρ, H, Q, .nil, _, es, q => ⟨rfl, q σ es ⟨rfl, fun _ _ => rfl⟩⟩
  | i :: is, x :: xs, _, σ, ρ, H, Q, .cons a t, hl, es, q => ⟨_, _, rfl, gNs_ok t (Nat.succ.inj hl) (es.set a) fun σ' es' b => q σ' es' ⟨by rw [← b.1, List.length_set], fun j hj => by
      rw [← b.2 j fun z => hj (List.mem_cons_of_mem _ z), List.getElem?_set_ne fun z => hj (by rw [z]; exact List.mem_cons_self)]⟩⟩
theorem gTg_ok {K : PySem.W.Frag} {S H : Hp} {tg : Tg} {y : Yd} {u : V} {σ : Slots} {ρ ρ' : Rho} {Q : Slots → Hp → Prop} (sub : Sub S H) (h : y.is S H u) (e : setT tg y ρ = some ρ') (es : Es S σ ρ) (q : ∀ σ', Es S σ' ρ' → But tg.slots σ σ' → Q σ' H) : gTg K tg u σ H Q := by
  cases tg with
  | n i =>
    cases y with
    | t xs => cases e
    | r x =>
      cases e
      exact q _ (es.set h) ⟨by rw [List.length_set], fun j hj => by
        rw [List.getElem?_set_ne fun z => hj (by rw [z]; exact List.mem_cons_self)]⟩
  | t is =>
    cases y with
    | r x =>
      cases x with
      | vl v => cases e
      | dt d =>
        cases d with
        | tuple ds =>
          have e' : (if ds.length = is.length then some (setAll is (ds.map Rv.dt) ρ) else none) = some ρ' := e
          split at e'
          · rename_i hl
            cases e'
            cases h with
            | tup e0 t => exact ⟨_, _, rfl, SqT.of (sub _ _ e0), by rw [t.len]; exact hl, gNs_ok (Rvs.of t) (by rw [List.length_map]; exact hl) es q⟩
          · cases e'
        | _ => cases e
    | t xs =>
      have e' : (if xs.length = is.length then some (setAll is xs ρ) else none) = some ρ' := e
      split at e'
      · rename_i hl
        cases e'
        obtain ⟨p, vs, rfl, hp, i⟩ := h
        exact ⟨p, vs, rfl, SqT.of hp, by rw [← Rvs.len i]; exact hl, gNs_ok i hl es q⟩
      · cases e'
theorem pgn_name {X : Cx} (i : Nat) {x : Str} {pos : Pos} (hN : X.N.Nodup) (hi : X.N[i]? = some x) (hx : Loc X.env.scope x) (hf : X.fn x = true ∨ X.env.scope.names.lookup x = some .local := by first | exact .inl rfl | exact .inr rfl) : PG X (.Name x pos) (gTg X.K (.n i)) := pg_name hN hi hx hf
theorem pgn_nil {X : Cx} : PGs X [] (gNs []) := pgs_nil
theorem pgn_cons {X : Cx} (i : Nat) {is : List Nat} {x : Str} {pos : Pos} {es : List Expr} (hN : X.N.Nodup) (hi : X.N[i]? = some x) (hx : Loc X.env.scope x) (t : PGs X es (gNs is)) (hf : X.fn x = true ∨ X.env.scope.names.lookup x = some .local := by first | exact .inl rfl | exact .inr rfl)
    (hs : (assignEach (.Name x pos :: es) X.env).map (·.2) = assign (.Name x pos) X.env :: (assignEach es X.env).map (·.2) := by rfl) : PGs X (.Name x pos :: es) (gNs (i :: is)) := pgs_cons (pg_name hN hi hx hf) t hs
theorem pgn_tup {X : Cx} {is : List Nat} {es : List Expr} {k : Nat} {pos : Pos} (hc : X.calm = true) (t : PGs X es (gNs is)) (hn : (assignEach es X.env).length = is.length := by rfl) (hst : (assignEach es X.env).findIdx? (·.1) = none := by rfl) : PG X (.Tuple es k pos) (gTg X.K (.t is)) := pg_tup hc t hn hst
/-- a, b, .. = e -/
theorem ms_tup {tg : Expr} {is : List Nat} (hg : PG Y.X tg (gTg Y.X.K (.t is))) (h : ME Y e ρ L fun r L' => ∃ ρ', setT (.t is) (.r r) ρ = some ρ' ∧ N ρ' L') (hs : swapsWithSole [tg] e pos.line Y.X.env = pure false := by rfl) (hw : swappedStores [tg] e Y.X.env = pure none := by rfl)
    (h1 : (assignEach [tg] Y.X.env).map (·.2) = [assign tg Y.X.env] := by rfl) : MS Y (.Assign [tg] e pos) N D ρ L := ⟨fun S σ H A De l => wS.of (ps_asg wE.pe hg hs hw h1) (h.run S σ H A _ fun r L' S' H' v ⟨ρ', e1, k⟩ t i =>
  gTg_ok (y := .r r) t.ok.sub i e1 (A.es.mono t.sub) fun σ' es _ => l.nx ρ' L' S' H' σ' k t es)⟩

/-! ### what is walked -/
/-- an iterator gives ys, one after another, as long as P holds of the ledger -/
structure Yl (J : It) (S : Hp) (P : Led → Prop) (ys : List Yd) : Prop where
  go : ∀ (i : Nat) S' H L, Sub S S' → Ok S' H L → P L → i < ys.length → J.go i H
  stop : ∀ (i : Nat) S' H L, Sub S S' → Ok S' H L → P L → i = ys.length → J.stop i H
  yld : ∀ (i : Nat) S' H L u H' y, Sub S S' → Ok S' H L → P L → ys[i]? = some y → J.yld i H u H' → Step S' H L S' H' L ∧ y.is S' H' u
structure MI (Y : Cm) (tg iter : Expr) (ρ : Rho) (L : Led) (K : List Yd → (Led → Prop) → Led → Prop) : Prop where
  run : ∀ S σ H, At Y ρ L S σ H → ∀ R : It → Hp → Prop, (∀ ys P L' S' H' J, K ys P L' → Step S H L S' H' L' → Yl J S' P ys → R J H') → wI Y.X tg iter σ H R
abbrev IX (Y : Cm) (tg iter : Expr) (ρ : Rho) (L : Led) (ys : List Yd) (P : Led → Prop) (L' : Led) : Prop := MI Y tg iter ρ L fun ys' P' L1 => ys' = ys ∧ P' = P ∧ L1 = L'
theorem MI.imp {tg iter : Expr} {K K' : List Yd → (Led → Prop) → Led → Prop} (h : MI Y tg iter ρ L K) (i : ∀ ys P L', K ys P L' → K' ys P L') : MI Y tg iter ρ L K' := ⟨fun S σ H A R q => h.run S σ H A R fun ys P L' S' H' J k => q ys P L' S' H' J (i ys P L' k)⟩
def anyL : Led → Prop := fun _ => True
/-- a list of data -/
theorem ix_data {tg : Expr} {ds : List PyData} (h : EX Y e ρ L (.dt (.list ds)) La) : IX Y tg e ρ L (ds.map fun d => .r (.dt d)) anyL La := ⟨fun S σ H A R q => wI.of (pi_list wE.pe) (h.run S σ H A _ fun r L' S1 H1 v ⟨e1, e2⟩ t i => by
  subst e1 e2
  cases i with
  | @lst a xs ds e0 d0 =>
    refine ⟨a, rfl, ⟨xs, SqL.of (t.ok.sub _ _ e0)⟩, q _ _ _ S1 H1 _ ⟨rfl, rfl, rfl⟩ t ⟨fun i S' H L s k _ hl => ?_, fun i S' H L s k _ hl => ?_, fun i S' H L u H' y s k _ hy ⟨e1, e2⟩ => ?_⟩⟩
    · rw [List.length_map] at hl
      obtain ⟨x, hx, _⟩ := pget d0.pd (List.getElem?_eq_getElem hl)
      exact ⟨xs, x, SqL.of (k.sub _ _ (s _ _ e0)), hx⟩
    · rw [List.length_map] at hl
      exact ⟨xs, SqL.of (k.sub _ _ (s _ _ e0)), by rw [d0.len]; omega⟩
    · subst e1
      refine ⟨Step.refl k, ?_⟩
      rw [List.getElem?_map] at hy
      cases hd : ds[i]? with
      | none => rw [hd] at hy; cases hy
      | some d =>
        rw [hd] at hy
        cases hy
        obtain ⟨x, hx, dx⟩ := pget d0.pd hd
        have eu := Option.some.inj ((e2 _ (SqL.of (k.sub _ _ (s _ _ e0)))).symm.trans hx)
        subst eu
        exact dx.mono s)⟩
/-- a list of the ledger -/
theorem ix_led {tg : Expr} {rs : List Rv} {q : Addr} (h : EX Y e ρ L (.vl (.ref q)) La) (hq : La q = some (.lst rs)) : IX Y tg e ρ L (rs.map Yd.r) (fun L => L q = some (.lst rs)) La := ⟨fun S σ H A R qq => wI.of (pi_list wE.pe) (h.run S σ H A _ fun r L' S1 H1 v ⟨e1, e2⟩ t i => by
  subst e1 e2
  have ei : v = .ref q := i
  subst ei
  obtain ⟨_, _, e0, xs, rfl, d0⟩ := t.ok.led q _ hq
  have at_ : ∀ {S' H L}, Ok S' H L → L q = some (.lst rs) → ∃ xs, H q = some (.lst xs) ∧ Rvs S' rs xs := fun k hL => by
    obtain ⟨_, _, e0, xs, rfl, d0⟩ := k.led q _ hL
    exact ⟨xs, e0, d0⟩
  refine ⟨q, rfl, ⟨xs, SqL.of e0⟩, qq _ _ _ S1 H1 _ ⟨rfl, rfl, rfl⟩ t ⟨fun i S' H L s k hL hl => ?_, fun i S' H L s k hL hl => ?_, fun i S' H L u H' y s k hL hy ⟨e1, e2⟩ => ?_⟩⟩
  · rw [List.length_map] at hl
    obtain ⟨xs, e0, d0⟩ := at_ k hL
    obtain ⟨x, hx, _⟩ := pgetL d0 (List.getElem?_eq_getElem hl)
    exact ⟨xs, x, SqL.of e0, hx⟩
  · rw [List.length_map] at hl
    obtain ⟨xs, e0, d0⟩ := at_ k hL
    exact ⟨xs, SqL.of e0, by rw [← Rvs.len d0]; omega⟩
  · subst e1
    refine ⟨Step.refl k, ?_⟩
    rw [List.getElem?_map] at hy
    cases hd : rs[i]? with
    | none => rw [hd] at hy; cases hy
    | some d =>
      rw [hd] at hy
      cases hy
      obtain ⟨xs, e0, d0⟩ := at_ k hL
      obtain ⟨x, hx, dx⟩ := pgetL d0 hd
      have eu := Option.some.inj ((e2 _ (SqL.of e0)).symm.trans hx)
      subst eu
      exact dx)⟩
def rgY (lo : Int) (n : Nat) : List Yd := (List.range n).map fun i => .r (.dt (.int (lo + (i : Nat))))
theorem rgY_len {lo : Int} {n : Nat} : (rgY lo n).length = n := by unfold rgY; rw [List.length_map, List.length_range]
theorem rgY_at {lo : Int} {n i : Nat} {y : Yd} (h : (rgY lo n)[i]? = some y) : i < n ∧ y = .r (.dt (.int (lo + (i : Nat)))) := by
  unfold rgY at h
  rw [List.getElem?_map] at h
  by_cases hi : i < n
  · rw [List.getElem?_range hi] at h
    exact ⟨hi, (Option.some.inj h).symm⟩
  · rw [List.getElem?_eq_none (by rw [List.length_range]; omega)] at h
    cases h
theorem yl_range {lo : Int} {n : Nat} {S : Hp} : Yl (Itr lo n) S anyL (rgY lo n) := ⟨fun i S' H L s k _ hl => by rw [rgY_len] at hl; exact hl, fun i S' H L s k _ hl => by rw [rgY_len] at hl; exact Nat.le_of_eq hl.symm, fun i S' H L u H' y s k _ hy ⟨e1, e2⟩ => by
  subst e1 e2
  obtain ⟨_, rfl⟩ := rgY_at hy
  exact ⟨Step.refl k, .int _⟩⟩
theorem ix_range1 {tg : Expr} {j : Int} (h : AX Y [a] ρ L [.dt (.int j)] La) (h1 : -(2 ^ 62) ≤ j) (h2 : j < 2 ^ 62) (hg : Gl Y.X "range") (hm : Y.X.mg "range" = none) (hs : starEach [a] Y.X.env = [(false, eval a Y.X.env)] := by rfl) : IX Y tg (.Call (.Name "range" p) [a] [] pos) ρ L (rgY 0 j.toNat) anyL La := ⟨fun S σ H A R q => wI.of (pi_range1 hg hm wA.pa hs) (h.run S σ H A _ fun rs L' S1 H1 vs ⟨e1, e2⟩ t i => by
  subst e1 e2
  obtain ⟨x, rfl, i0⟩ := rvs1 i
  exact ⟨j, by rw [Da.intAt i0], h1, h2, q _ _ _ S1 H1 _ ⟨rfl, rfl, rfl⟩ t yl_range⟩)⟩
theorem ix_range2 {tg : Expr} {i j : Int} (h : AX Y [a, b] ρ L [.dt (.int i), .dt (.int j)] La) (hb : -(2 ^ 62) ≤ i ∧ i < 2 ^ 62 ∧ -(2 ^ 62) ≤ j ∧ j < 2 ^ 62) (hg : Gl Y.X "range") (hm : Y.X.mg "range" = none) (hs : starEach [a, b] Y.X.env = [(false, eval a Y.X.env), (false, eval b Y.X.env)] := by rfl) (hs2 : starEach [b] Y.X.env = [(false, eval b Y.X.env)] := by rfl) :
    IX Y tg (.Call (.Name "range" p) [a, b] [] pos) ρ L (rgY i (j - i).toNat) anyL La := ⟨fun S σ H A R q => wI.of (pi_range2 hg hm wA.pa hs hs2) (h.run S σ H A _ fun rs L' S1 H1 vs ⟨e1, e2⟩ t ii => by
  subst e1 e2
  obtain ⟨x, y, rfl, i1, i2⟩ := rvs2 ii
  exact ⟨i, j, by rw [Da.intAt i1, Da.intAt i2], hb, q _ _ _ S1 H1 _ ⟨rfl, rfl, rfl⟩ t yl_range⟩)⟩

/-! ### for -/
theorem ms_for {tg iter : Expr} {body : List Stmt} {ys : List Yd} {P : Led → Prop} {tgt : Tg} (hc : Y.X.calm = true) (hi : IX Y tg iter ρ L ys P La) (hg : PG Y.X tg (gTg Y.X.K tgt)) (I : Nat → Rho → Led → Prop) (h0 : I 0 ρ La) (hP : ∀ (i : Nat) ρ L, i ≤ ys.length → I i ρ L → P L)
    (hs : ∀ (i : Nat) y ρ L, ys[i]? = some y → I i ρ L → ∃ ρ', setT tgt y ρ = some ρ' ∧ MSs Y body (I (i + 1)) { D with ct := I (i + 1), bk := N } ρ' L) (hd : ∀ ρ L, I ys.length ρ L → N ρ L)
    (hf : ∀ x, foldedSetIterable iter Y.X.env x = pure x := by intro _; rfl) : MS Y (.For tg iter body [] pos) N D ρ L := ⟨fun S σ H A De l => by
  refine wS.of (ps_for Y.po hc wI.pi hg wSs.ps hf) (hi.run S σ H A _ fun ys' P' L' S1 H1 J ⟨e1, e2, e3⟩ t1 yl => ?_)
  subst e1 e2 e3
  refine ⟨fun i m σ' H' => m = ys'.length - i ∧ i ≤ ys'.length ∧ ∃ S' ρ' L2, Step S H L S' H' L2 ∧ Sub S1 S' ∧ Es S' σ' ρ' ∧ I i ρ' L2, ⟨_, rfl, Nat.zero_le _, S1, ρ, L', t1, Sub.refl _, A.es.mono t1.sub, h0⟩, ?_⟩
  rintro i m σ2 H2 ⟨rfl, hle, S2, ρ2, L2, t2, s2, es2, i2⟩
  have p2 := hP i ρ2 L2 hle i2
  by_cases hlt : i < ys'.length
  · refine .inr ⟨yl.go i S2 H2 L2 s2 t2.ok p2 hlt, fun σ' H' => ∃ S' ρ' L2, Step S H L S' H' L2 ∧ Sub S1 S' ∧ Es S' σ' ρ' ∧ I (i + 1) ρ' L2, fun σ' H' n => ⟨_, by omega, rfl, hlt, n⟩, fun u H3 hy => ?_⟩
    obtain ⟨y, ey⟩ : ∃ y, ys'[i]? = some y := ⟨_, List.getElem?_eq_getElem hlt⟩
    obtain ⟨t3, iy⟩ := yl.yld i S2 H2 L2 u H3 y s2 t2.ok p2 ey hy
    obtain ⟨ρ3, e3, hb⟩ := hs i y ρ2 L2 ey i2
    have t23 := t2.trans t3
    refine gTg_ok t3.ok.sub iy e3 es2 fun σ4 es4 _ => ?_
    exact hb.run S2 σ4 H3 ((A.next t23).env es4) _ ⟨fun ρ' L' S' H' σ' k t es => ⟨S', ρ', L', t23.trans t, s2.trans t.sub, es, k⟩, fun r L' S' H' v k t ii => l.rt r L' S' H' v k (t23.trans t) ii, fun ρ' L' S' H' σ' k t es => l.nx ρ' L' S' H' σ' k (t23.trans t) es, fun ρ' L' S' H' σ' k t es => ⟨S', ρ', L', t23.trans t, s2.trans t.sub, es, k⟩⟩
  · have e : i = ys'.length := by omega
    subst e
    exact .inl ⟨yl.stop _ S2 H2 L2 s2 t2.ok p2 rfl, l.nx ρ2 L2 S2 H2 σ2 (hd ρ2 L2 i2) t2 es2⟩⟩
/-- while -/
theorem ms_while {body : List Stmt} (W : Nat → Rho → Led → Prop) (m0 : Nat) (h0 : W m0 ρ L) (hs : ∀ m ρ L, W m ρ L → MT Y c ρ L fun k L' => (k = true → MSs Y body (fun ρ L => ∃ m', m' < m ∧ W m' ρ L) { D with ct := fun ρ L => ∃ m', m' < m ∧ W m' ρ L, bk := N } ρ L') ∧ (k = false → N ρ L')) :
    MS Y (.While c body [] pos) N D ρ L := ⟨fun S σ H A De l => by
  refine wS.of (ps_while Y.po wT.pt wSs.ps) ⟨fun m σ' H' => ∃ S' ρ' L2, Step S H L S' H' L2 ∧ Es S' σ' ρ' ∧ W m ρ' L2, ⟨m0, S, ρ, L, Step.refl A.ok, A.es, h0⟩, ?_⟩
  rintro m σ2 H2 ⟨S2, ρ2, L2, t2, es2, w2⟩
  refine (hs m ρ2 L2 w2).run S2 σ2 H2 ((A.next t2).env es2) _ fun k L3 S3 H3 ⟨h1, h2⟩ t3 => ?_
  have t23 := t2.trans t3
  cases k with
  | true =>
    refine iteT ⟨fun σ' H' => ∃ m', m' < m ∧ ∃ S' ρ' L2, Step S H L S' H' L2 ∧ Es S' σ' ρ' ∧ W m' ρ' L2, fun _ _ n => n, ?_⟩
    exact (h1 rfl).run S3 σ2 H3 ((A.next t23).env (es2.mono t3.sub)) _ ⟨fun ρ' L' S' H' σ' ⟨m', hm, k⟩ t es => ⟨m', hm, S', ρ', L', t23.trans t, es, k⟩, fun r L' S' H' v k t ii => l.rt r L' S' H' v k (t23.trans t) ii, fun ρ' L' S' H' σ' k t es => l.nx ρ' L' S' H' σ' k (t23.trans t) es, fun ρ' L' S' H' σ' ⟨m', hm, k⟩ t es => ⟨m', hm, S', ρ', L', t23.trans t, es, k⟩⟩
  | false => exact iteF (l.nx ρ2 L3 S3 H3 σ2 (h2 rfl) t23 (es2.mono t3.sub))⟩
end
end Cw

set_option Elab.async false
set_option linter.all false
set_option maxRecDepth 100000
set_option maxHeartbeats 2000000
/-! Cw, part E: comprehensions; lists that change; stores; more iterators; errors. -/
namespace Cw
open PySem PySem.Spec PyProof.Rows L2

/-! ### comprehensions -/
abbrev yB (Y : Cm) (s : Shared) (H : Hp) (scope : Scope) (cl : List (Str × Addr)) (C : Addr) (fp : List Addr) : Cm :=
  ⟨Y.X.blk s H scope (compEnvC scope cl C Y.X.env) fp, fun _ _ _ _ => False, fun _ _ _ => False, takes0, PassesOwn.never⟩
def wipeR (ρ : Rho) (vs : List Nat) : Rho := vs.foldr (fun v ρ => ρ.set v none) ρ
def wTs (X : Cx) (ifs : List Expr) : TT := fun σ H Q => ∀ pins s, Inv X pins σ H s →
  wpAny (model X.prog X.w) X.A (forIn ifs true fun c r => if r = true then do let ok ← isTrue c X.env (eval c X.env); pure (ForInStep.yield ok) else pure (ForInStep.yield r)) (TP X pins σ Q) X.xe s
structure MTs (Y : Cm) (ifs : List Expr) (ρ : Rho) (L : Led) (K : Bool → Led → Prop) : Prop where
  run : ∀ S σ H, At Y ρ L S σ H → ∀ Q : Bool → Hp → Prop, (∀ b L' S' H', K b L' → Step S H L S' H' L' → Q b H') → wTs Y.X ifs σ H Q
theorem mts_nil {Y : Cm} {ρ : Rho} {L : Led} {K : Bool → Led → Prop} (h : K true L) : MTs Y [] ρ L K := ⟨fun S σ H A Q q pins s I => pts_nil.run pins s σ H Q I (q true L S H h (Step.refl A.ok))⟩
theorem mts_one {Y : Cm} {c : Expr} {ρ : Rho} {L : Led} {K : Bool → Led → Prop} (h : MT Y c ρ L K) : MTs Y [c] ρ L K := ⟨fun S σ H A Q q pins s I => (pts_one wT.pt).run pins s σ H Q I (h.run S σ H A Q q)⟩
section
variable {Y : Cm} {ρ : Rho} {L La : Led} {elt tg iter : Expr} {ifs : List Expr} {scope : Scope} {own : List (Str × Nat)} {pos : Pos} {ys : List Yd} {P : Led → Prop} {tgt : Tg} {K : Rv → Led → Prop}
/-- the readings that serve at every block -/
def uT (Y : Cm) (scope : Scope) (ifs : List Expr) : TT := fun σ H Q => ∀ s H0 C cl fp, wTs (Y.X.blk s H0 scope (compEnvC scope cl C Y.X.env) fp) ifs σ H Q
def uE (Y : Cm) (scope : Scope) (elt : Expr) : TE := fun σ H Q => ∀ s H0 C cl fp, wE (Y.X.blk s H0 scope (compEnvC scope cl C Y.X.env) fp) elt σ H Q
theorem lc_read {S : Hp} {σ : Slots} {H : Hp} {Q : VK} (A : At Y ρ L S σ H) (hi : IX Y tg iter ρ L ys P La) (hsl : tgt.slots = own.map (·.2)) (hz : ys.length ≤ sizeLine)
    (I : Nat → List Rv → Led → Prop) (h0 : I 0 [] La) (hP : ∀ (i : Nat) acc L, i ≤ ys.length → I i acc L → P L)
    (hs : ∀ (i : Nat) y acc L, ys[i]? = some y → I i acc L → ∃ ρ', setT tgt y (wipeR ρ (own.map (·.2))) = some ρ' ∧ ∃ Kt : Bool → Led → Prop, (∀ s H C cl fp, MTs (yB Y s H scope cl C fp) ifs ρ' L Kt) ∧ ∀ b L2, Kt b L2 → (b = true → ∀ s H C cl fp, ME (yB Y s H scope cl C fp) elt ρ' L2 fun r L3 => I (i + 1) (acc ++ [r]) L3) ∧ (b = false → I (i + 1) acc L2))
    (hd : ∀ acc L, I ys.length acc L → ∀ D, L D = none → (∃ ds, acc = ds.map Rv.dt ∧ K (.dt (.list ds)) L) ∨ K (.vl (.ref D)) (updL L D (.lst acc)))
    (q : ∀ r L' S' H' v, K r L' → Step S H L S' H' L' → r.is S' v → Q v H') : tLc (wI Y.X tg iter) (gTg Y.X.K tgt) (uT Y scope ifs) (uE Y scope elt) (own.map (·.2)) σ H Q := by
  refine hi.run S σ H A _ fun ys' P' L1 S1 H1 J ⟨e1, e2, e3⟩ t1 yl => ?_
  subst e1 e2 e3
  intro D hD
  have sD : S1 D = none := t1.ok.sub.none hD
  have lD : L1 D = none := t1.ok.free hD
  -- what holds between two turns
  refine ⟨fun i m H' => m = ys'.length - i ∧ i ≤ ys'.length ∧ ∃ S' L2 acc vs, Step S1 H1 L1 S' H' L2 ∧ H' D = some (.lst vs) ∧ S' D = none ∧ L2 D = none ∧ Rvs S' acc vs ∧ acc.length ≤ i ∧ I i acc L2,
    ⟨_, rfl, Nat.zero_le _, S1, L1, [], [], Step.dust t1.ok hD, upd_same, sD, lD, .nil, Nat.le_refl _, h0⟩, ?_⟩
  rintro i m H2 ⟨rfl, hle, S2, L2, acc, vs, t2, d2, s2, l2, rv, hacc, inv⟩
  have p2 := hP i acc L2 hle inv
  -- all of it behind the entry
  have tE : Step S H L S2 H2 L2 := t1.trans t2
  have hD0 : L D = none → H D = none := fun n => by
    cases z : H D with
    | none => rfl
    | some o =>
      have := t1.fr D o z n
      rw [hD] at this
      cases this
  by_cases hlt : i < ys'.length
  · refine .inr ⟨yl.go i S2 H2 L2 t2.sub t2.ok p2 hlt, fun H' => ∃ S' L2 acc vs, Step S1 H1 L1 S' H' L2 ∧ H' D = some (.lst vs) ∧ S' D = none ∧ L2 D = none ∧ Rvs S' acc vs ∧ acc.length ≤ i + 1 ∧ I (i + 1) acc L2, fun H' n => ⟨_, by omega, rfl, hlt, n⟩, fun u H3 hy => ?_⟩
    obtain ⟨y, ey⟩ : ∃ y, ys'[i]? = some y := ⟨_, List.getElem?_eq_getElem hlt⟩
    obtain ⟨t3, iy⟩ := yl.yld i S2 H2 L2 u H3 y t2.sub t2.ok p2 ey hy
    obtain ⟨ρ3, e3, Kt, hb, hk⟩ := hs i y acc L2 ey inv
    have es2 : Es S2 (wipe σ (own.map (·.2))) (wipeR ρ (own.map (·.2))) := (A.es.mono tE.sub).wipe _
    refine gTg_ok t3.ok.sub iy e3 es2 fun σ4 es4 bt => ⟨?_, ?_⟩
    · rw [hsl] at bt
      exact But.wipeL bt
    · intro s0 H0 C cl fp
      have keep : ∀ {S5 H5 L5}, Step S2 H3 L2 S5 H5 L5 → H5 D = some (.lst vs) ∧ S5 D = none ∧ L5 D = none := fun {S5 H5 L5} t5 => by
        have d3 := t3.fr D _ d2 l2
        refine ⟨t5.fr D _ d3 l2, ?_, ?_⟩
        · cases z : S5 D with
          | none => rfl
          | some o =>
            have := t5.ns D o z s2 l2
            rw [d3] at this
            cases this
        · cases z : L5 D with
          | none => rfl
          | some m =>
            have := t5.nw D m z l2
            rw [d3] at this
            cases this
      refine (hb s0 H0 C cl fp).run S2 σ4 H3 ⟨t3.ok, es4, fun _ _ _ _ _ _ z => z.elim⟩ _ fun b L5 S5 H5 kt t5 => ?_
      obtain ⟨k1, k2⟩ := hk b L5 kt
      obtain ⟨d5, s5, l5⟩ := keep t5
      have t25 := (t2.trans t3).trans t5
      cases b with
      | false => exact iteF ⟨S5, L5, acc, vs, t25, d5, s5, l5, rv.mono (t3.sub.trans t5.sub), by omega, k2 rfl⟩
      | true =>
        refine iteT fun s0' H0' C' cl' fp' => ?_
        refine (k1 rfl s0' H0' C' cl' fp').run S5 σ4 H5 ⟨t5.ok, es4.mono t5.sub, fun _ _ _ _ _ _ z => z.elim⟩ _ fun r L6 S6 H6 v k6 t6 i6 => ?_
        obtain ⟨d6, s6, l6⟩ := keep (t5.trans t6)
        have rl := Rvs.len rv
        refine ⟨vs, d6, by omega, S6, L6, acc ++ [r], vs ++ [v], ?_, upd_same, s6, l6, papp (rv.mono ((t3.sub.trans t5.sub).trans t6.sub)) (.cons i6 .nil), by rw [List.length_append, List.length_singleton]; omega, k6⟩
        have t26 := t25.trans t6
        refine ⟨t26.sub, ⟨t26.ok.sub.mut s6, fun a m e => ?_⟩, fun a o e n => ?_, t26.nw, t26.ns⟩
        · obtain ⟨h1, o, h2, h3⟩ := t26.ok.led a m e
          have ne : a ≠ D := fun z => by rw [z, l6] at e; cases e
          exact ⟨h1, o, by rw [upd_ne ne]; exact h2, h3⟩
        · rw [upd_ne (ne_of_none e hD)]
          exact t26.fr a o e n
  · have e : i = ys'.length := by omega
    subst e
    refine .inl ⟨yl.stop _ S2 H2 L2 t2.sub t2.ok p2 rfl, ?_⟩
    rcases hd acc L2 inv D l2 with ⟨ds, rfl, k⟩ | k
    · have sn : Sub S2 (upd S2 D (.lst vs)) := Sub.new s2
      refine q _ L2 (upd S2 D (.lst vs)) H2 _ k ⟨tE.sub.trans sn, ⟨fun b u eb => ?_, fun a m ea => ?_⟩, tE.fr, tE.nw, fun a o ea n nl => ?_⟩ (.lst upd_same ((Rvs.data rv).mono sn))
      · by_cases hb : b = D
        · subst hb
          rw [upd_same] at eb
          cases eb
          exact d2
        · rw [upd_ne hb] at eb
          exact t2.ok.sub b u eb
      · obtain ⟨h1, o, h2, h3⟩ := t2.ok.led a m ea
        have ne : a ≠ D := fun z => by rw [z, l2] at ea; cases ea
        exact ⟨by rw [upd_ne ne]; exact h1, o, h2, h3.mono sn⟩
      · by_cases ha : a = D
        · subst ha
          exact hD0 nl
        · rw [upd_ne ha] at ea
          exact tE.ns a o ea n nl
    · refine q _ _ S2 H2 _ k ⟨tE.sub, ⟨t2.ok.sub, fun a m ea => ?_⟩, tE.fr, fun a m ea n => ?_, tE.ns⟩ rfl
      · by_cases ha : a = D
        · subst ha
          rw [updL_same] at ea
          cases ea
          exact ⟨s2, _, d2, vs, rfl, rv⟩
        · rw [updL_ne ha] at ea
          exact t2.ok.led a m ea
      · by_cases ha : a = D
        · subst ha
          exact hD0 n
        · rw [updL_ne ha] at ea
          exact tE.nw a m ea n
/-- [elt for tg in iter if ..] as a value -/
theorem me_lc (hc : Y.X.calm = true) (hN : Y.X.N.Nodup) (hi : IX Y tg iter ρ L ys P La) (ok : BlkOk Y.X.N Y.X.env.scope scope own) (hsl : tgt.slots = own.map (·.2)) (hg : ∀ s H C cl fp, PG (Y.X.blk s H scope (compEnvC scope cl C Y.X.env) fp) tg (gTg Y.X.K tgt)) (hz : ys.length ≤ sizeLine)
    (I : Nat → List Rv → Led → Prop) (h0 : I 0 [] La) (hP : ∀ (i : Nat) acc L, i ≤ ys.length → I i acc L → P L)
    (hs : ∀ (i : Nat) y acc L, ys[i]? = some y → I i acc L → ∃ ρ', setT tgt y (wipeR ρ (own.map (·.2))) = some ρ' ∧ ∃ Kt : Bool → Led → Prop, (∀ s H C cl fp, MTs (yB Y s H scope cl C fp) ifs ρ' L Kt) ∧ ∀ b L2, Kt b L2 → (b = true → ∀ s H C cl fp, ME (yB Y s H scope cl C fp) elt ρ' L2 fun r L3 => I (i + 1) (acc ++ [r]) L3) ∧ (b = false → I (i + 1) acc L2))
    (hd : ∀ acc L, I ys.length acc L → ∀ D, L D = none → (∃ ds, acc = ds.map Rv.dt ∧ K (.dt (.list ds)) L) ∨ K (.vl (.ref D)) (updL L D (.lst acc)))
    (hf : ∀ x, foldedSetIterable iter Y.X.env x = pure x := by intro _; rfl) : ME Y (.ListComp elt [⟨tg, iter, ifs, 0⟩] scope pos) ρ L K := ⟨fun S σ H A Q q =>
  wE.of (pe_lc (tt := uT Y scope ifs) (te := uE Y scope elt) hc hN wI.pi ok hg (fun s H C cl fp => ⟨fun pins s' σ H' Q I h => h s H C cl fp pins s' I⟩) (fun s H C cl fp => ⟨fun pins s' σ H' Q I h => h s H C cl fp pins s' I⟩) hf) (lc_read A hi hsl hz I h0 hP hs hd q)⟩
/-- y = [..] -/
theorem ms_setlc {N : Rho → Led → Prop} {D : Nd} {i : Nat} {y : Str} {py spos : Pos} (hc : Y.X.calm = true) (hN : Y.X.N.Nodup) (hy : Y.X.N[i]? = some y) (hyl : Y.X.env.scope.names.lookup y = some .local) (hsw : swapsWith (.ListComp elt [⟨tg, iter, ifs, 0⟩] scope pos) (some (.Name y py)) spos.line Y.X.env = pure true)
    (hi : IX Y tg iter ρ L ys P La) (ok : BlkOk Y.X.N Y.X.env.scope scope own) (hsl : tgt.slots = own.map (·.2)) (hg : ∀ s H C cl fp, PG (Y.X.blk s H scope (compEnvC scope cl C Y.X.env) fp) tg (gTg Y.X.K tgt)) (hz : ys.length ≤ sizeLine)
    (I : Nat → List Rv → Led → Prop) (h0 : I 0 [] La) (hP : ∀ (i : Nat) acc L, i ≤ ys.length → I i acc L → P L)
    (hs : ∀ (i : Nat) y acc L, ys[i]? = some y → I i acc L → ∃ ρ', setT tgt y (wipeR ρ (own.map (·.2))) = some ρ' ∧ ∃ Kt : Bool → Led → Prop, (∀ s H C cl fp, MTs (yB Y s H scope cl C fp) ifs ρ' L Kt) ∧ ∀ b L2, Kt b L2 → (b = true → ∀ s H C cl fp, ME (yB Y s H scope cl C fp) elt ρ' L2 fun r L3 => I (i + 1) (acc ++ [r]) L3) ∧ (b = false → I (i + 1) acc L2))
    (hd : ∀ acc L, I ys.length acc L → ∀ D', L D' = none → (∃ ds, acc = ds.map Rv.dt ∧ N (ρ.set i (some (.dt (.list ds)))) L) ∨ N (ρ.set i (some (.vl (.ref D')))) (updL L D' (.lst acc)))
    (hf : ∀ x, foldedSetIterable iter Y.X.env x = pure x := by intro _; rfl) : MS Y (.Assign [.Name y py] (.ListComp elt [⟨tg, iter, ifs, 0⟩] scope pos) spos) N D ρ L := ⟨fun S σ H A De l =>
  wS.of (ps_setLc (tt := uT Y scope ifs) (te := uE Y scope elt) hc hN hy hyl hsw wI.pi ok hg (fun s H C cl fp => ⟨fun pins s' σ H' Q I h => h s H C cl fp pins s' I⟩) (fun s H C cl fp => ⟨fun pins s' σ H' Q I h => h s H C cl fp pins s' I⟩) hf)
    (lc_read (K := fun r L' => N (ρ.set i (some r)) L') A hi hsl hz I h0 hP hs hd fun r L' S' H' v k t ii => l.nx _ L' S' H' _ k t ((A.es.mono t.sub).set ii))⟩
end
end Cw

set_option Elab.async false
set_option linter.all false
set_option maxRecDepth 100000
set_option maxHeartbeats 2000000
/-! Cw, part F: pure comprehensions; lists that change; stores; more iterators; errors. -/
namespace Cw
open PySem PySem.Spec PyProof.Rows L2

section
variable {Y : Cm} {ρ : Rho} {L La Lb Lc : Led} {elt tg iter c : Expr} {ifs : List Expr} {scope : Scope} {own : List (Str × Nat)} {pos : Pos} {ys : List Yd} {P : Led → Prop} {tgt : Tg}
theorem take_snoc {α : Type} {l : List α} {i : Nat} {x : α} (h : l[i]? = some x) : l.take (i + 1) = l.take i ++ [x] := by
  rw [List.take_add_one, h]
  rfl
/-- [elt for tg in iter], elt without effect -/
theorem me_lcp {K : Rv → Led → Prop} (g : Yd → PyData) (hc : Y.X.calm = true) (hN : Y.X.N.Nodup) (hi : IX Y tg iter ρ L ys P La) (hP : P La) (ok : BlkOk Y.X.N Y.X.env.scope scope own) (hsl : tgt.slots = own.map (·.2)) (hg : ∀ s H C cl fp, PG (Y.X.blk s H scope (compEnvC scope cl C Y.X.env) fp) tg (gTg Y.X.K tgt)) (hz : ys.length ≤ sizeLine)
    (hs : ∀ (i : Nat) y, ys[i]? = some y → ∃ ρ', setT tgt y (wipeR ρ (own.map (·.2))) = some ρ' ∧ ∀ s H C cl fp, EX (yB Y s H scope cl C fp) elt ρ' La (.dt (g y)) La) (k : K (.dt (.list (ys.map g))) La)
    (hf : ∀ x, foldedSetIterable iter Y.X.env x = pure x := by intro _; rfl) : ME Y (.ListComp elt [⟨tg, iter, [], 0⟩] scope pos) ρ L K :=
  me_lc hc hN hi ok hsl hg hz (fun i acc L => acc = ((ys.take i).map g).map Rv.dt ∧ L = La) ⟨rfl, rfl⟩ (fun i acc L _ ⟨_, e⟩ => by rw [e]; exact hP) (fun i y acc L ey ⟨e1, e2⟩ => by
    obtain ⟨ρ', e, h⟩ := hs i y ey
    subst e2
    refine ⟨ρ', e, fun b L' => b = true ∧ L' = L, fun s H C cl fp => mts_nil ⟨rfl, rfl⟩, fun b L2 ⟨eb, eL⟩ => ⟨fun _ s H C cl fp => ?_, fun z => by rw [eb] at z; cases z⟩⟩
    subst eL
    refine EX.to (h s H C cl fp) ⟨?_, rfl⟩
    rw [e1, take_snoc ey, List.map_append, List.map_append]
    rfl) (fun acc L ⟨e1, e2⟩ D _ => .inl ⟨ys.map g, by rw [e1, List.take_length], by rw [e2]; exact k⟩) hf
theorem ex_lcp (g : Yd → PyData) (hc : Y.X.calm = true) (hN : Y.X.N.Nodup) (hi : IX Y tg iter ρ L ys P La) (hP : P La) (ok : BlkOk Y.X.N Y.X.env.scope scope own) (hsl : tgt.slots = own.map (·.2)) (hg : ∀ s H C cl fp, PG (Y.X.blk s H scope (compEnvC scope cl C Y.X.env) fp) tg (gTg Y.X.K tgt)) (hz : ys.length ≤ sizeLine)
    (hs : ∀ (i : Nat) y, ys[i]? = some y → ∃ ρ', setT tgt y (wipeR ρ (own.map (·.2))) = some ρ' ∧ ∀ s H C cl fp, EX (yB Y s H scope cl C fp) elt ρ' La (.dt (g y)) La)
    (hf : ∀ x, foldedSetIterable iter Y.X.env x = pure x := by intro _; rfl) : EX Y (.ListComp elt [⟨tg, iter, [], 0⟩] scope pos) ρ L (.dt (.list (ys.map g))) La := me_lcp g hc hN hi hP ok hsl hg hz hs ⟨rfl, rfl⟩ hf
theorem ms_setlcp {N : Rho → Led → Prop} {D : Nd} {i : Nat} {y : Str} {py spos : Pos} (g : Yd → PyData) (hc : Y.X.calm = true) (hN : Y.X.N.Nodup) (hy : Y.X.N[i]? = some y) (hyl : Y.X.env.scope.names.lookup y = some .local) (hsw : swapsWith (.ListComp elt [⟨tg, iter, [], 0⟩] scope pos) (some (.Name y py)) spos.line Y.X.env = pure true)
    (hi : IX Y tg iter ρ L ys P La) (hP : P La) (ok : BlkOk Y.X.N Y.X.env.scope scope own) (hsl : tgt.slots = own.map (·.2)) (hg : ∀ s H C cl fp, PG (Y.X.blk s H scope (compEnvC scope cl C Y.X.env) fp) tg (gTg Y.X.K tgt)) (hz : ys.length ≤ sizeLine)
    (hs : ∀ (i : Nat) y, ys[i]? = some y → ∃ ρ', setT tgt y (wipeR ρ (own.map (·.2))) = some ρ' ∧ ∀ s H C cl fp, EX (yB Y s H scope cl C fp) elt ρ' La (.dt (g y)) La) (k : N (ρ.set i (some (.dt (.list (ys.map g))))) La)
    (hf : ∀ x, foldedSetIterable iter Y.X.env x = pure x := by intro _; rfl) : MS Y (.Assign [.Name y py] (.ListComp elt [⟨tg, iter, [], 0⟩] scope pos) spos) N D ρ L :=
  ms_setlc hc hN hy hyl hsw hi ok hsl hg hz (fun i acc L => acc = ((ys.take i).map g).map Rv.dt ∧ L = La) ⟨rfl, rfl⟩ (fun i acc L _ ⟨_, e⟩ => by rw [e]; exact hP) (fun i y acc L ey ⟨e1, e2⟩ => by
    obtain ⟨ρ', e, h⟩ := hs i y ey
    subst e2
    refine ⟨ρ', e, fun b L' => b = true ∧ L' = L, fun s H C cl fp => mts_nil ⟨rfl, rfl⟩, fun b L2 ⟨eb, eL⟩ => ⟨fun _ s H C cl fp => ?_, fun z => by rw [eb] at z; cases z⟩⟩
    subst eL
    refine EX.to (h s H C cl fp) ⟨?_, rfl⟩
    rw [e1, take_snoc ey, List.map_append, List.map_append]
    rfl) (fun acc L ⟨e1, e2⟩ D _ => .inl ⟨ys.map g, by rw [e1, List.take_length], by rw [e2]; exact k⟩) hf
/-- [elt for tg in iter if c], both without effect -/
theorem me_lcf {K : Rv → Led → Prop} (g : Yd → PyData) (t : Yd → Bool) (hc : Y.X.calm = true) (hN : Y.X.N.Nodup) (hi : IX Y tg iter ρ L ys P La) (hP : P La) (ok : BlkOk Y.X.N Y.X.env.scope scope own) (hsl : tgt.slots = own.map (·.2)) (hg : ∀ s H C cl fp, PG (Y.X.blk s H scope (compEnvC scope cl C Y.X.env) fp) tg (gTg Y.X.K tgt)) (hz : ys.length ≤ sizeLine)
    (hs : ∀ (i : Nat) y, ys[i]? = some y → ∃ ρ', setT tgt y (wipeR ρ (own.map (·.2))) = some ρ' ∧ (∀ s H C cl fp, TX (yB Y s H scope cl C fp) c ρ' La (t y) La) ∧ (t y = true → ∀ s H C cl fp, EX (yB Y s H scope cl C fp) elt ρ' La (.dt (g y)) La)) (k : K (.dt (.list ((ys.filter t).map g))) La)
    (hf : ∀ x, foldedSetIterable iter Y.X.env x = pure x := by intro _; rfl) : ME Y (.ListComp elt [⟨tg, iter, [c], 0⟩] scope pos) ρ L K :=
  me_lc hc hN hi ok hsl hg hz (fun i acc L => acc = (((ys.take i).filter t).map g).map Rv.dt ∧ L = La) ⟨rfl, rfl⟩ (fun i acc L _ ⟨_, e⟩ => by rw [e]; exact hP) (fun i y acc L ey ⟨e1, e2⟩ => by
    obtain ⟨ρ', e, h1, h2⟩ := hs i y ey
    subst e2
    refine ⟨ρ', e, fun b L' => b = t y ∧ L' = L, fun s H C cl fp => mts_one (h1 s H C cl fp), fun b L2 ⟨eb, eL⟩ => ⟨fun z s H C cl fp => ?_, fun z => ?_⟩⟩
    · subst eL
      rw [z] at eb
      refine EX.to (h2 eb.symm s H C cl fp) ⟨?_, rfl⟩
      rw [e1, take_snoc ey, List.filter_append, List.map_append, List.map_append, List.filter_cons, ← eb]
      rfl
    · rw [z] at eb
      refine ⟨?_, eL⟩
      rw [e1, take_snoc ey, List.filter_append, List.map_append, List.map_append, List.filter_cons, ← eb]
      simp) (fun acc L ⟨e1, e2⟩ D _ => .inl ⟨(ys.filter t).map g, by rw [e1, List.take_length], by rw [e2]; exact k⟩) hf
theorem ms_setlcf {N : Rho → Led → Prop} {D : Nd} {i : Nat} {y : Str} {py spos : Pos} (g : Yd → PyData) (t : Yd → Bool) (hc : Y.X.calm = true) (hN : Y.X.N.Nodup) (hy : Y.X.N[i]? = some y) (hyl : Y.X.env.scope.names.lookup y = some .local) (hsw : swapsWith (.ListComp elt [⟨tg, iter, [c], 0⟩] scope pos) (some (.Name y py)) spos.line Y.X.env = pure true)
    (hi : IX Y tg iter ρ L ys P La) (hP : P La) (ok : BlkOk Y.X.N Y.X.env.scope scope own) (hsl : tgt.slots = own.map (·.2)) (hg : ∀ s H C cl fp, PG (Y.X.blk s H scope (compEnvC scope cl C Y.X.env) fp) tg (gTg Y.X.K tgt)) (hz : ys.length ≤ sizeLine)
    (hs : ∀ (i : Nat) y, ys[i]? = some y → ∃ ρ', setT tgt y (wipeR ρ (own.map (·.2))) = some ρ' ∧ (∀ s H C cl fp, TX (yB Y s H scope cl C fp) c ρ' La (t y) La) ∧ (t y = true → ∀ s H C cl fp, EX (yB Y s H scope cl C fp) elt ρ' La (.dt (g y)) La)) (k : N (ρ.set i (some (.dt (.list ((ys.filter t).map g))))) La)
    (hf : ∀ x, foldedSetIterable iter Y.X.env x = pure x := by intro _; rfl) : MS Y (.Assign [.Name y py] (.ListComp elt [⟨tg, iter, [c], 0⟩] scope pos) spos) N D ρ L :=
  ms_setlc hc hN hy hyl hsw hi ok hsl hg hz (fun i acc L => acc = (((ys.take i).filter t).map g).map Rv.dt ∧ L = La) ⟨rfl, rfl⟩ (fun i acc L _ ⟨_, e⟩ => by rw [e]; exact hP) (fun i y acc L ey ⟨e1, e2⟩ => by
    obtain ⟨ρ', e, h1, h2⟩ := hs i y ey
    subst e2
    refine ⟨ρ', e, fun b L' => b = t y ∧ L' = L, fun s H C cl fp => mts_one (h1 s H C cl fp), fun b L2 ⟨eb, eL⟩ => ⟨fun z s H C cl fp => ?_, fun z => ?_⟩⟩
    · subst eL
      rw [z] at eb
      refine EX.to (h2 eb.symm s H C cl fp) ⟨?_, rfl⟩
      rw [e1, take_snoc ey, List.filter_append, List.map_append, List.map_append, List.filter_cons, ← eb]
      rfl
    · rw [z] at eb
      refine ⟨?_, eL⟩
      rw [e1, take_snoc ey, List.filter_append, List.map_append, List.map_append, List.filter_cons, ← eb]
      simp) (fun acc L ⟨e1, e2⟩ D _ => .inl ⟨(ys.filter t).map g, by rw [e1, List.take_length], by rw [e2]; exact k⟩) hf
end

/-! ### methods of a list of the ledger -/
section
variable {Y : Cm} {ρ : Rho} {L La Lb Lc : Led} {r ra rb rc : Rv} {e a b c o : Expr} {es : List Expr} {pos apos p : Pos} {X : Cx} {N : Rho → Led → Prop} {D : Nd}
theorem Ok.lstAt {S H : Hp} {q : Addr} {rs : List Rv} (k : Ok S H L) (h : L q = some (.lst rs)) : ∃ xs, H q = some (.lst xs) ∧ Rvs S rs xs := by
  obtain ⟨_, o, e, xs, rfl, i⟩ := k.led q _ h
  exact ⟨xs, e, i⟩
/-- o.append(e) -/
theorem me_append {K : Rv → Led → Prop} {q : Addr} {rs0 : List Rv} (ho : EX Y o ρ L (.vl (.ref q)) La) (h0 : La q = some (.lst rs0)) (he : ME Y e ρ La fun r Lb => ∃ rs, Lb q = some (.lst rs) ∧ rs.length < sizeLine ∧ K (.dt .none) (updL Lb q (.lst (rs ++ [r]))))
    (hbase : attributeBase o "append" Y.X.env (eval o Y.X.env) = eval o Y.X.env := by rfl)
    (hfew : ((backTo pos (starEach (e :: []) Y.X.env)).all (fun x => !x.1) && (backToKw pos (keywordEach [] Y.X.env)).all (fun x => x.1.isSome) && decide ((e :: []).length + ([] : List Keyword).length + (if ([] : List Keyword).isEmpty then 0 else 1) < 30)) = true := by rfl)
    (hline : (apos.endLine == pos.line) = true := by rfl) (hs : starEach (e :: []) Y.X.env = (false, eval e Y.X.env) :: starEach [] Y.X.env := by rfl) (hplain : (backTo pos (starEach [] Y.X.env)).any (·.1) = false := by rfl) :
    ME Y (.Call (.Attribute o "append" apos) [e] [] pos) ρ L K := ⟨fun S σ H A Q qq => by
  refine wE.of (pe_bm PySem.F.plainAttrs_list PySem.F.slot_list_append PySem.F.type_list_append mt_append wE.pe (pa_cons wE.pe pa_nil hs) hbase hfew hline hs hplain) (ho.run S σ H A _ fun r1 L1' S1 H1 x ⟨e1, e2⟩ t1 i1 => ?_)
  subst e1 e2
  have ex : x = .ref q := i1
  subst ex
  obtain ⟨xs0, e0, _⟩ := t1.ok.lstAt h0
  refine ⟨.inl ⟨rfl, _, SqL.of e0⟩, he.run S1 σ H1 (A.next t1) _ fun r Lb S2 H2 v ⟨rs, h2, hz, k⟩ t2 i2 => ?_⟩
  obtain ⟨xs, e3, rv⟩ := t2.ok.lstAt h2
  refine ⟨q, xs, v, rfl, rfl, e3, by rw [← Rvs.len rv]; exact hz, qq _ _ S2 _ _ k ((t1.trans t2).trans (Step.write t2.ok h2 ⟨_, rfl, papp rv (.cons i2 .nil)⟩)) .non⟩⟩
theorem ex_append {q : Addr} {rs rs0 : List Rv} (ho : EX Y o ρ L (.vl (.ref q)) La) (h0 : La q = some (.lst rs0)) (he : EX Y e ρ La r Lb) (h2 : Lb q = some (.lst rs)) (hz : rs.length < sizeLine)
    (hbase : attributeBase o "append" Y.X.env (eval o Y.X.env) = eval o Y.X.env := by rfl)
    (hfew : ((backTo pos (starEach (e :: []) Y.X.env)).all (fun x => !x.1) && (backToKw pos (keywordEach [] Y.X.env)).all (fun x => x.1.isSome) && decide ((e :: []).length + ([] : List Keyword).length + (if ([] : List Keyword).isEmpty then 0 else 1) < 30)) = true := by rfl)
    (hline : (apos.endLine == pos.line) = true := by rfl) (hs : starEach (e :: []) Y.X.env = (false, eval e Y.X.env) :: starEach [] Y.X.env := by rfl) (hplain : (backTo pos (starEach [] Y.X.env)).any (·.1) = false := by rfl) :
    EX Y (.Call (.Attribute o "append" apos) [e] [] pos) ρ L (.dt .none) (updL Lb q (.lst (rs ++ [r]))) := me_append ho h0 (EX.to he ⟨rs, h2, hz, rfl, rfl⟩) hbase hfew hline hs hplain
/-- o.extend(e) -/
theorem ex_extend {q : Addr} {rs : List Rv} {ds : List Rv} (ho : EX Y o ρ L (.vl (.ref q)) La) (he : EX Y e ρ La r Lb) (h0 : La q = some (.lst rs)) (h2 : Lb q = some (.lst rs)) (hd : LR Lb r ds) (hz : rs.length + ds.length ≤ sizeLine)
    (hbase : attributeBase o "extend" Y.X.env (eval o Y.X.env) = eval o Y.X.env := by rfl)
    (hfew : ((backTo pos (starEach (e :: []) Y.X.env)).all (fun x => !x.1) && (backToKw pos (keywordEach [] Y.X.env)).all (fun x => x.1.isSome) && decide ((e :: []).length + ([] : List Keyword).length + (if ([] : List Keyword).isEmpty then 0 else 1) < 30)) = true := by rfl)
    (hline : (apos.endLine == pos.line) = true := by rfl) (hs : starEach (e :: []) Y.X.env = (false, eval e Y.X.env) :: starEach [] Y.X.env := by rfl) (hplain : (backTo pos (starEach [] Y.X.env)).any (·.1) = false := by rfl) :
    EX Y (.Call (.Attribute o "extend" apos) [e] [] pos) ρ L (.dt .none) (updL Lb q (.lst (rs ++ ds))) := ⟨fun S σ H A Q qq => by
  refine wE.of (pe_bm PySem.F.plainAttrs_list PySem.F.slot_list_extend PySem.F.type_list_extend mt_extend wE.pe (pa_cons wE.pe pa_nil hs) hbase hfew hline hs hplain) (ho.run S σ H A _ fun r1 L1' S1 H1 x ⟨e1, e2⟩ t1 i1 => ?_)
  subst e1 e2
  have ex : x = .ref q := i1
  subst ex
  obtain ⟨xs0, e0, _⟩ := t1.ok.lstAt h0
  refine ⟨.inl ⟨rfl, _, SqL.of e0⟩, he.run S1 σ H1 (A.next t1) _ fun r' Lb' S2 H2 v ⟨e1, e2⟩ t2 i2 => ?_⟩
  subst e1 e2
  obtain ⟨xs, e3, rv⟩ := t2.ok.lstAt h2
  obtain ⟨b, zs, rfl, e4, rz⟩ := LR.at_ hd t2.ok i2
  refine ⟨q, b, xs, zs, rfl, rfl, e3, e4, by rw [← Rvs.len rv, ← Rvs.len rz]; exact hz, qq _ _ S2 _ _ ⟨rfl, rfl⟩ ((t1.trans t2).trans (Step.write t2.ok h2 ⟨_, rfl, papp rv rz⟩)) .non⟩⟩
/-- o.insert(i, e) -/
theorem ex_insert {q : Addr} {rs : List Rv} {i : Int} (ho : EX Y o ρ L (.vl (.ref q)) La) (h0 : La q = some (.lst rs)) (ha : AX Y [a, e] ρ La [.dt (.int i), r] Lb) (h2 : Lb q = some (.lst rs)) (hz : rs.length < sizeLine) (i0 : 0 ≤ i) (i1 : i < 2 ^ 63)
    (hbase : attributeBase o "insert" Y.X.env (eval o Y.X.env) = eval o Y.X.env := by rfl)
    (hfew : ((backTo pos (starEach (a :: [e]) Y.X.env)).all (fun x => !x.1) && (backToKw pos (keywordEach [] Y.X.env)).all (fun x => x.1.isSome) && decide ((a :: [e]).length + ([] : List Keyword).length + (if ([] : List Keyword).isEmpty then 0 else 1) < 30)) = true := by rfl)
    (hline : (apos.endLine == pos.line) = true := by rfl) (hs : starEach (a :: [e]) Y.X.env = (false, eval a Y.X.env) :: starEach [e] Y.X.env := by rfl) (hplain : (backTo pos (starEach [e] Y.X.env)).any (·.1) = false := by rfl) :
    EX Y (.Call (.Attribute o "insert" apos) [a, e] [] pos) ρ L (.dt .none) (updL Lb q (.lst (rs.take i.toNat ++ [r] ++ rs.drop i.toNat))) := ⟨fun S σ H A Q qq => by
  refine wE.of (pe_bm PySem.F.plainAttrs_list PySem.F.slot_list_insert (by rfl) mt_insert wE.pe wA.pa hbase hfew hline hs hplain) (ho.run S σ H A _ fun r1 L1' S1 H1 x ⟨e1, e2⟩ t1 ii1 => ?_)
  subst e1 e2
  have ex : x = .ref q := ii1
  subst ex
  obtain ⟨xs0, e0, _⟩ := t1.ok.lstAt h0
  refine ⟨.inl ⟨rfl, _, SqL.of e0⟩, ha.run S1 σ H1 (A.next t1) _ fun r' Lb' S2 H2 vs ⟨e1, e2⟩ t2 i2 => ?_⟩
  subst e1 e2
  obtain ⟨u, v, rfl, iu, iv⟩ := rvs2 i2
  obtain ⟨xs, e3, rv⟩ := t2.ok.lstAt h2
  refine ⟨q, xs, i, v, rfl, by rw [Da.intAt iu], e3, by rw [← Rvs.len rv]; exact hz, i0, i1, qq _ _ S2 _ _ ⟨rfl, rfl⟩ ((t1.trans t2).trans (Step.write t2.ok h2 ⟨_, rfl, papp (papp (ptake _ rv) (.cons iv .nil)) (pdrop _ rv)⟩)) .non⟩⟩

/-! ### stores -/
/-- o[i] = e -/
theorem ms_setix {q : Addr} {rs : List Rv} {i : Int} {j : Nat} {tpos : Pos} (he : EX Y e ρ L r La) (ho : EX Y o ρ La (.vl (.ref q)) Lb) (hi : EX Y a ρ Lb (.dt (.int i)) Lc) (h : Lc q = some (.lst rs)) (hj : ixN rs.length i = some j) (k : N ρ (updL Lc q (.lst (rs.set j r))))
    (ha : ∀ v, assign (.Subscript o a tpos) Y.X.env v = (do
      let ov ← holding [v] (eval o Y.X.env)
      let iv ← holding [v, ov] (eval a Y.X.env)
      standAt tpos
      holding [v, ov, iv] (setItem ov iv v)
      release [v, ov, iv] []) := by intro _; rfl)
    (hs : swapsWithSole [.Subscript o a tpos] e pos.line Y.X.env = pure false := by rfl) (hw : swappedStores [.Subscript o a tpos] e Y.X.env = pure none := by rfl) (h1 : (assignEach [.Subscript o a tpos] Y.X.env).map (·.2) = [assign (.Subscript o a tpos) Y.X.env] := by rfl) :
    MS Y (.Assign [.Subscript o a tpos] e pos) N D ρ L := ⟨fun S σ H A De l => by
  refine wS.of (ps_asg wE.pe (pg_sub wE.pe wE.pe set_list ha) hs hw h1) (he.run S σ H A _ fun r1 L1 S1 H1 v ⟨e1, e2⟩ t1 i1 => ?_)
  subst e1 e2
  refine ho.run S1 σ H1 (A.next t1) _ fun r2 L2 S2 H2 x ⟨e1, e2⟩ t2 i2 => ?_
  subst e1 e2
  refine hi.run S2 σ H2 (A.next (t1.trans t2)) _ fun r3 L3 S3 H3 y ⟨e1, e2⟩ t3 i3 => ?_
  subst e1 e2
  have ex : x = .ref q := i2
  obtain ⟨xs, e3, rv⟩ := t3.ok.lstAt h
  refine ⟨q, xs, i, j, ex, Da.intAt i3, e3, by rw [← Rvs.len rv]; exact hj, ?_⟩
  have t4 := Step.write t3.ok h (m := .lst (rs.set j r1)) ⟨_, rfl, pset (i1.mono (t2.sub.trans t3.sub)) j rv⟩
  exact l.nx ρ _ S3 _ σ k (((t1.trans t2).trans t3).trans t4) (A.es.mono ((t1.trans t2).trans t3).sub)⟩
theorem pget_list : PGet X (rIxL X.K) := by
  intro pins s σ H x y v u Q I rx ry h
  obtain ⟨p, xs, i, z, rfl, rfl, hq, he, q⟩ := h
  cases rx
  obtain ⟨t, rfl⟩ := ry
  obtain ⟨its, r, pl, hz⟩ := I.list hq
  obtain ⟨j, h1, h2, h3, h4, h5⟩ := atI_get he
  obtain ⟨w, ew, rw'⟩ := r.get h2
  have hl := r.length
  have hn := line63
  have fin : EP X pins σ Q w s := ⟨z, H, I, rw', q⟩
  by_cases h0 : 0 ≤ i
  · have hj : i.toNat = j := by
      rw [seqIndex_of h0 h5] at h1
      exact Option.some.inj h1
    exact wpAny_getItem_list pl.isList h0 (by omega) (by rw [hj]; simpa using ew) fin
  · have hj : (i + (its.toArray.size : Int)).toNat = j := by
      rw [seqIndex_neg (by omega) h4] at h1
      rw [List.size_toArray, ← hl]
      exact Option.some.inj h1
    exact wpAny_getItem_list_neg pl.isList (by omega) (by rw [List.size_toArray] <;> omega) (by omega) (by rw [hj]; simpa using ew) fin
/-- o[i] op= e -/
theorem ms_augix {q : Addr} {rs : List Rv} {i : Int} {j : Nat} {op : Operator} {tpos : Pos} (ho : EX Y o ρ L (.vl (.ref q)) La) (hi : EX Y a ρ La (.dt (.int i)) Lb) (h : Lb q = some (.lst rs)) (hr : atI rs i = some ra) (he : EX Y e ρ Lb rb Lc) (hop : Op2 Y.X (inplaceOp op) ra rb Lc rc)
    (h' : Lc q = some (.lst rs)) (hj : ixN rs.length i = some j) (k : N ρ (updL Lc q (.lst (rs.set j rc))))
    (ha : ∀ ov iv new, augStore a ov iv new = (do holding [new, ov, iv] (setItem ov iv new); release [new, ov, iv] []; pure .next) := by intros; rfl) : MS Y (.AugAssign (.Subscript o a tpos) op e pos) N D ρ L := ⟨fun S σ H A De l => by
  obtain ⟨rr, hr1, hr2⟩ := hop
  refine wS.of (ps_augS (tip := fun x y H Q => rr x y H Q) wE.pe wE.pe pget_list wE.pe (fun pins s σ H x y v u Q I rx ry q => hr1 pins s σ H x y v u Q I rx ry q) set_list ha) (ho.run S σ H A _ fun r1 L1 S1 H1 x ⟨e1, e2⟩ t1 i1 => ?_)
  subst e1 e2
  refine hi.run S1 σ H1 (A.next t1) _ fun r2 L2 S2 H2 y ⟨e1, e2⟩ t2 i2 => ?_
  subst e1 e2
  have ex : x = .ref q := i1
  subst ex
  have ey := Da.intAt i2
  subst ey
  obtain ⟨xs, e3, rv⟩ := t2.ok.lstAt h
  obtain ⟨z, ez, iz⟩ := patI rv hr
  refine ⟨q, xs, i, z, rfl, rfl, SqL.of e3, ez, ?_⟩
  refine he.run S2 σ H2 (A.next (t1.trans t2)) _ fun r3 L3 S3 H3 w ⟨e1, e2⟩ t3 i3 => ?_
  subst e1 e2
  refine hr2 S3 H3 z w t3.ok (iz.mono t3.sub) i3 _ fun S4 H4 v t4 i4 => ?_
  obtain ⟨xs', e5, rv'⟩ := t4.ok.lstAt h'
  refine ⟨q, xs', i, j, rfl, rfl, e5, by rw [← Rvs.len rv']; exact hj, ?_⟩
  have t5 := Step.write t4.ok h' (m := .lst (rs.set j rc)) ⟨_, rfl, pset i4 j rv'⟩
  exact l.nx ρ _ S4 _ σ k ((((t1.trans t2).trans t3).trans t4).trans t5) (A.es.mono (((t1.trans t2).trans t3).trans t4).sub)⟩
def putR (f : Str) (v : Rv) : List (Str × Rv) → List (Str × Rv)
  | [] => [(f, v)]
  | (g, w) :: r => if g = f then (g, v) :: r else (g, w) :: putR f v r
theorem rf_put {S : Hp} {f : Str} {r : Rv} {v : V} (i : r.is S v) : ∀ {fs : List (Str × Rv)} {gs : List (Str × V)}, RF S fs gs → RF S (putR f r fs) (putF f v gs)
  | _, _, .nil => .cons ⟨rfl, i⟩ .nil
  | (g, w) :: fs, (g', w') :: gs, .cons ⟨e, i'⟩ t => by
    have e' : g = g' := e
    subst e'
    unfold putR putF
    by_cases h : g = f
    · rw [if_pos h, if_pos h]
      exact .cons ⟨rfl, i⟩ t
    · rw [if_neg h, if_neg h]
      exact .cons ⟨rfl, i'⟩ (rf_put i t)
/-- o.f = e -/
theorem ms_setfld {q C : Addr} {fs : List (Str × Rv)} {f : Str} {pos' : Pos} (he : EX Y e ρ L r La) (ho : EX Y o ρ La (.vl (.ref q)) Lb) (h : Lb q = some (.ins C fs)) (c : Cls Y.X.K C) (n : NoAttr Y.X.K C f) (hl : fs.length < 1000) (k : N ρ (updL Lb q (.ins C (putR f r fs))))
    (hs : swapsWith e (some (.Attribute o f pos')) pos.line Y.X.env = pure false := by rfl) : MS Y (.Assign [.Attribute o f pos'] e pos) N D ρ L := ⟨fun S σ H A De l => by
  refine wS.of (ps_fld wE.pe wE.pe hs) (he.run S σ H A _ fun r1 L1 S1 H1 v ⟨e1, e2⟩ t1 i1 => ?_)
  subst e1 e2
  refine ho.run S1 σ H1 (A.next t1) _ fun r2 L2 S2 H2 x ⟨e1, e2⟩ t2 i2 => ?_
  subst e1 e2
  obtain ⟨dx, gs, hg, rf⟩ := t2.ok.ins h
  refine ⟨q, C, dx, gs, i2, hg, c, n, by rw [← Paired.length rf]; exact hl, ?_⟩
  have t3 := Step.write t2.ok h (m := .ins C (putR f r1 fs)) (o := .ins C dx (putF f v gs)) ⟨_, _, rfl, rf_put (i1.mono t2.sub) rf⟩
  exact l.nx ρ _ S2 _ σ k ((t1.trans t2).trans t3) (A.es.mono (t1.trans t2).sub)⟩
/-- o.f op= e -/
theorem ms_augfld {q C : Addr} {fs : List (Str × Rv)} {f : Str} {op : Operator} {tpos : Pos} (ho : EX Y o ρ L (.vl (.ref q)) La) (h : La q = some (.ins C fs)) (c : Cls Y.X.K C) (n : NoAttr Y.X.K C f) (hf : fs.lookup f = some ra) (he : EX Y e ρ La rb Lb) (hop : Op2 Y.X (inplaceOp op) ra rb Lb rc) (h' : Lb q = some (.ins C fs)) (hl : fs.length < 1000)
    (k : N ρ (updL Lb q (.ins C (putR f rc fs)))) : MS Y (.AugAssign (.Attribute o f tpos) op e pos) N D ρ L := ⟨fun S σ H A De l => by
  obtain ⟨rr, hr1, hr2⟩ := hop
  refine wS.of (ps_fldaug (rd := fun x y H Q => rr x y H Q) wE.pe wE.pe (fun pins s σ H x y v u Q I rx ry q => hr1 pins s σ H x y v u Q I rx ry q)) (ho.run S σ H A _ fun r1 L1 S1 H1 x ⟨e1, e2⟩ t1 i1 => ?_)
  subst e1 e2
  obtain ⟨dx, gs, hg, rf⟩ := t1.ok.ins h
  obtain ⟨v, ev, iv⟩ := (rf_lookup rf).2 _ hf
  refine ⟨q, C, dx, gs, v, i1, hg, c, n, ev, he.run S1 σ H1 (A.next t1) _ fun r2 L2 S2 H2 y ⟨e1, e2⟩ t2 i2 => ?_⟩
  subst e1 e2
  refine hr2 S2 H2 v y t2.ok (iv.mono t2.sub) i2 _ fun S3 H3 z t3 i3 => ?_
  obtain ⟨dx', gs', hg', rf'⟩ := t3.ok.ins h'
  refine ⟨dx', gs', hg', by rw [← Paired.length rf']; exact hl, ?_⟩
  have t4 := Step.write t3.ok h' (m := .ins C (putR f rc fs)) (o := .ins C dx' (putF f z gs')) ⟨_, _, rfl, rf_put i3 rf'⟩
  exact l.nx ρ _ S3 _ σ k (((t1.trans t2).trans t3).trans t4) (A.es.mono ((t1.trans t2).trans t3).sub)⟩
end
end Cw

set_option Elab.async false
set_option linter.all false
set_option maxRecDepth 100000
set_option maxHeartbeats 2000000
/-! Cw, part G: the script; short forms; new lists that change; more iterators; errors. -/
namespace Cw
open PySem PySem.Spec PyProof.Rows L2

/-! ### the script -/
/-- the list at a is the ints ns, to be read -/
def Scr (K : PySem.W.Frag) (L : Led) (a : Addr) (ns : List Int) : Prop := L a = some (.frz (ns.map fun i => .dt (.int i))) ∨ ∀ H, SqL K H a (ns.map V.int)
theorem rvs_ints {S : Hp} : ∀ {ns : List Int} {xs : List V}, Rvs S (ns.map fun i => .dt (.int i)) xs → xs = ns.map V.int
  | [], _, .nil => rfl
  | n :: ns, _, .cons a t => by
    rw [rvs_ints t, Da.intAt a]
    rfl
theorem Scr.at_ {K : PySem.W.Frag} {S H : Hp} {L : Led} {a : Addr} {ns : List Int} (h : Scr K L a ns) (k : Ok S H L) : SqL K H a (ns.map V.int) := by
  rcases h with h | h
  · obtain ⟨_, o, e, ob, xs, rfl, i⟩ := k.led a _ h
    rw [rvs_ints i] at e
    exact .inl (.inr ⟨ob, e⟩)
  · exact h H
theorem Scr.upd {K : PySem.W.Frag} {L : Led} {a p : Addr} {m : MO} {ns : List Int} (h : Scr K L a ns) (hp : L p = none) : Scr K (updL L p m) a ns := by
  rcases h with h | h
  · exact .inl (by
      rw [updL_ne fun z => by rw [z, hp] at h; cases h]
      exact h)
  · exact .inr h
theorem Scr.mono {K : PySem.W.Frag} {L L' : Led} {a : Addr} {ns : List Int} (h : Scr K L a ns) (l : Le L L') : Scr K L' a ns := h.imp (fun h => l _ _ h) id
theorem da_ints {S : Hp} : ∀ {ns : List Int}, DaAll S (ns.map V.int) (ns.map PyData.int)
  | [] => .nil
  | n :: ns => .cons (.int n) da_ints
section
variable {X : Cx} {L : Led} {a : Addr} {ns : List Int}
theorem c_lenF (h : Scr X.K L a ns) : OpC X (.builtin "len") [.vl (.ref a)] L (.dt (.int ns.length)) := ⟨_, call_len_seq, fun S H xs k hx Q q => by
  obtain ⟨x, rfl, i⟩ := rvs1 hx
  cases (show x = .ref a from i)
  refine ⟨a, _, rfl, .inl (h.at_ k), ?_⟩
  rw [List.length_map]
  exact q S H _ (Step.refl k) (.int _)⟩
theorem i_lstF {i : Int} {z : Int} (h : Scr X.K L a ns) (e : atI ns i = some z) : OpIx X (.vl (.ref a)) (.dt (.int i)) L (.dt (.int z)) := ⟨_, ix_list, fun S H x y k hx hy Q q => by
  cases (show x = .ref a from hx)
  have e2 : atI (ns.map V.int) i = some (.int z) := by
    unfold atI at e ⊢
    rw [List.length_map]
    cases w : ixN ns.length i with
    | none => rw [w] at e; cases e
    | some j =>
      rw [w] at e
      have e' : ns[j]? = some z := e
      show (ns.map V.int)[j]? = _
      rw [List.getElem?_map, e']
      rfl
  exact ⟨a, _, i, _, rfl, Da.intAt hy, h.at_ k, e2, q S H _ (Step.refl k) (.int _)⟩⟩
theorem c_listF (h : Scr X.K L a ns) : OpC X (.type "list") [.vl (.ref a)] L (.dt (.list (ns.map PyData.int))) := ⟨_, call_list_of, fun S H xs k hx Q q => by
  obtain ⟨x, rfl, i⟩ := rvs1 hx
  cases (show x = .ref a from i)
  refine ⟨a, _, rfl, .inl (h.at_ k), fun n hn => ?_⟩
  exact q _ _ _ (Step.still k hn) (.lst upd_same da_ints)⟩
end

/-! ### short forms -/
section
variable {Y : Cm} {ρ : Rho} {L La Lb Lc : Led} {r ra rb rc : Rv} {e a b c o : Expr} {es : List Expr} {pos apos p : Pos} {sp : Fs} {k : Nat} {x m : Str} {ps : List Str} {N : Rho → Led → Prop} {D : Nd}
theorem ad_nil : AX Y [] ρ L (([] : List PyData).map Rv.dt) L := ax_nil
theorem ad_cons {d : PyData} {ds : List PyData} (h : EX Y e ρ L (.dt d) La) (t : AX Y es ρ La (ds.map Rv.dt) Lb) (hs : starEach (e :: es) Y.X.env = (false, eval e Y.X.env) :: starEach es Y.X.env := by rfl) : AX Y (e :: es) ρ L ((d :: ds).map Rv.dt) Lb := ax_cons h t hs
theorem ex_call {rs : List Rv} (G : FnM Y.X.prog Y.X.w Y.X.K Y.X.mg Y.X.base k x ps sp) (hr : Room k Y.X.A) (hg : Gl Y.X x) (ha : AX Y (e :: es) ρ L rs La) (h : sp rs La (fun r' L' => r' = rc ∧ L' = Lc) noX) (hdb : (x == ("__debug__" : Str)) = false := by decide)
    (he : starEach (e :: es) Y.X.env = (false, eval e Y.X.env) :: starEach es Y.X.env := by rfl) (hpl : (backTo pos (starEach es Y.X.env)).any (·.1) = false := by rfl) : EX Y (.Call (.Name x p) (e :: es) [] pos) ρ L rc Lc := me_call G hr hg (MA.imp ha fun _ _ ⟨e1, e2⟩ => by
  subst e1 e2
  exact h) hdb he hpl
theorem ex_call0 (G : FnM Y.X.prog Y.X.w Y.X.K Y.X.mg Y.X.base k x ps sp) (hr : Room k Y.X.A) (hg : Gl Y.X x) (h : sp [] L (fun r' L' => r' = rc ∧ L' = Lc) noX) (hdb : (x == ("__debug__" : Str)) = false := by decide) : EX Y (.Call (.Name x p) [] [] pos) ρ L rc Lc := me_call0 G hr hg h hdb
theorem ex_meth {rs : List Rv} {pl : Sem Bool} {q C : Addr} {fs : List (Str × Rv)} (ho : EX Y a ρ L (.vl (.ref q)) La) (hq : La q = some (.ins C fs)) (hn : fs.lookup m = none) (c : Cls Y.X.K C) (G : MtM Y.X.prog Y.X.w Y.X.K Y.X.mg Y.X.base k C m ps sp) (hr : Room k Y.X.A)
    (ha : AX Y (e :: es) ρ La rs Lb) (h : sp (.vl (.ref q) :: rs) Lb (fun r' L' => r' = rc ∧ L' = Lc) noX)
    (hst : starEach (e :: es) Y.X.env = (false, eval e Y.X.env) :: starEach es Y.X.env := by rfl) (hpl : (backTo pos (starEach es Y.X.env)).any (·.1) = false := by rfl)
    (ht : eval (.Call (.Attribute a m apos) (e :: es) [] pos) Y.X.env = (do
      let ov ← eval a Y.X.env
      standAt apos.atName
      let (f, first) ← holding [ov] (getMethod ov m pl)
      callWith pos f first (backTo pos (starEach (e :: es) Y.X.env)) (backToKw pos (keywordEach [] Y.X.env))) := by rfl) : EX Y (.Call (.Attribute a m apos) (e :: es) [] pos) ρ L rc Lc := me_meth (pl := pl) ho hq hn c G hr (MA.imp ha fun _ _ ⟨e1, e2⟩ => by
  subst e1 e2
  exact h) hst hpl ht
theorem ex_meth0 {pl : Sem Bool} {q C : Addr} {fs : List (Str × Rv)} (ho : EX Y a ρ L (.vl (.ref q)) La) (hq : La q = some (.ins C fs)) (hn : fs.lookup m = none) (c : Cls Y.X.K C) (G : MtM Y.X.prog Y.X.w Y.X.K Y.X.mg Y.X.base k C m ps sp) (hr : Room k Y.X.A)
    (h : sp [.vl (.ref q)] La (fun r' L' => r' = rc ∧ L' = Lc) noX)
    (ht : eval (.Call (.Attribute a m apos) [] [] pos) Y.X.env = (do
      let ov ← eval a Y.X.env
      standAt apos.atName
      let (f, first) ← holding [ov] (getMethod ov m pl)
      callWith pos f first (backTo pos (starEach [] Y.X.env)) (backToKw pos (keywordEach [] Y.X.env))) := by rfl) : EX Y (.Call (.Attribute a m apos) [] [] pos) ρ L rc Lc := me_meth0 (pl := pl) ho hq hn c G hr h ht

/-! ### what the heap itself bounds -/
theorem MSs.len {sts : List Stmt} {rs : List Rv} (i : Nat) (hi : ρ[i]? = some (some r)) (h : LR L r rs) (k : rs.length ≤ sizeLine → MSs Y sts N D ρ L) : MSs Y sts N D ρ L := ⟨fun S σ H A De l pins s I => by
  obtain ⟨v, _, iv⟩ := A.es.at_ i r hi
  obtain ⟨a, xs, _, e, rv⟩ := LR.at_ h A.ok iv
  obtain ⟨z, _⟩ := (show ObjOk Y.X.prog Y.X.w H s.heap a (.lst xs) from I.hok a _ e)
  exact (k (by rw [Rvs.len rv]; exact z)).run S σ H A De l pins s I⟩
theorem MSs.lenT {sts : List Stmt} {ds : List PyData} (i : Nat) (hi : ρ[i]? = some (some (.dt (.tuple ds)))) (k : ds.length ≤ sizeLine → MSs Y sts N D ρ L) : MSs Y sts N D ρ L := ⟨fun S σ H A De l pins s I => by
  obtain ⟨v, _, iv⟩ := A.es.at_ i _ hi
  obtain ⟨a, xs, _, _, e, rv⟩ := Da.tupAt A.ok iv
  obtain ⟨z, _⟩ := (show ObjOk Y.X.prog Y.X.w H s.heap a (.tup xs) from I.hok a _ e)
  exact (k (by rw [← rv.len]; exact z)).run S σ H A De l pins s I⟩

/-! ### new lists that change -/
theorem me_lst0 {K : Rv → Led → Prop} (h : ∀ p, L p = none → K (.vl (.ref p)) (updL L p (.lst []))) : ME Y (.List [] pos) ρ L K := me_lst (MA.imp ax_nil fun rs L' ⟨e1, e2⟩ => by
  subst e1 e2
  exact ⟨Nat.zero_le _, h⟩)
theorem me_lstH {K : Rv → Led → Prop} {rs : List Rv} (ha : AX Y es ρ L rs La) (hz : rs.length ≤ sizeLine) (h : ∀ p, La p = none → K (.vl (.ref p)) (updL La p (.lst rs))) : ME Y (.List es pos) ρ L K := me_lst (MA.imp ha fun rs L' ⟨e1, e2⟩ => by
  subst e1 e2
  exact ⟨hz, h⟩)
/-- list(x), to be changed -/
theorem me_listH {K : Rv → Led → Prop} {rs : List Rv} (ha : EX Y e ρ L r La) (hr : LR La r rs) (h : ∀ q, La q = none → K (.vl (.ref q)) (updL La q (.lst rs))) (hg : Gl Y.X "list") (hm : Y.X.mg "list" = none) (hv : bootBuiltins "list" = some (.type "list"))
    (he : starEach (e :: []) Y.X.env = (false, eval e Y.X.env) :: starEach [] Y.X.env := by rfl) (hpl : (backTo pos (starEach [] Y.X.env)).any (·.1) = false := by rfl) : ME Y (.Call (.Name "list" p) [e] [] pos) ρ L K := ⟨fun S σ H A Q q => by
  refine wE.of (pe_callTy call_list_of hg hm hv (pa_cons wE.pe pa_nil he) (by decide) (by decide) he hpl) (ha.run S σ H A _ fun r1 L1' S1 H1 x ⟨e1, e2⟩ t1 i1 => ?_)
  subst e1 e2
  obtain ⟨b, ys, rfl, e1, rv⟩ := LR.at_ hr t1.ok i1
  exact ⟨b, ys, rfl, .inl (SqL.of e1), fun n hn => q _ _ S1 _ _ (h n (t1.ok.free hn)) (t1.trans (Step.new t1.ok hn ⟨_, rfl, rv⟩)) rfl⟩⟩
/-- xs[lo:hi], to be changed -/
theorem me_sliceH {K : Rv → Led → Prop} {rs : List Rv} {elo ehi : Option Expr} {lo hi : Option Int} {p2 : Pos} (ha : EX Y a ρ L r La) (hl : PX Y elo ρ La lo Lb) (hh : PX Y ehi ρ Lb hi Lc) (hr : LR Lc r rs) (h : ∀ q, Lc q = none → K (.vl (.ref q)) (updL Lc q (.lst (cut rs lo hi)))) :
    ME Y (.Subscript a (.Slice elo ehi none p2) pos) ρ L K := ⟨fun S σ H A Q q => by
  refine wE.of (pe_slice sl_list wE.pe wP.po wP.po) (ha.run S σ H A _ fun r1 L1' S1 H1 x ⟨e1, e2⟩ t1 i1 => ?_)
  subst e1 e2
  refine hl.run S1 σ H1 (A.next t1) _ fun S2 H2 t2 => ?_
  refine hh.run S2 σ H2 (A.next (t1.trans t2)) _ fun S3 H3 t3 => ?_
  obtain ⟨b, ys, rfl, e1, rv⟩ := LR.at_ hr t3.ok (i1.mono (t2.sub.trans t3.sub))
  exact ⟨b, ys, rfl, SqL.of e1, fun n hn => q _ _ S3 _ _ (h n (t3.ok.free hn)) (((t1.trans t2).trans t3).trans (Step.new t3.ok hn ⟨_, rfl, pcut rv⟩)) rfl⟩⟩
/-- xs + ys, to be changed -/
theorem me_catH {K : Rv → Led → Prop} {rs ss : List Rv} (ha : EX Y a ρ L ra La) (hb : EX Y b ρ La rb Lb) (h1 : LR Lb ra rs) (h2 : LR Lb rb ss) (hz : rs.length + ss.length ≤ sizeLine) (h : ∀ q, Lb q = none → K (.vl (.ref q)) (updL Lb q (.lst (rs ++ ss)))) : ME Y (.BinOp a .Add b pos) ρ L K := ⟨fun S σ H A Q q => by
  refine wE.of (pe_op op_cat wE.pe wE.pe) (ha.run S σ H A _ fun r1 L1' S1 H1 x ⟨e1, e2⟩ t1 i1 => ?_)
  subst e1 e2
  refine hb.run S1 σ H1 (A.next t1) _ fun r2 L2' S2 H2 y ⟨e1, e2⟩ t2 i2 => ?_
  subst e1 e2
  obtain ⟨b1, ys, rfl, e1, rv⟩ := LR.at_ h1 t2.ok (i1.mono t2.sub)
  obtain ⟨b2, zs, rfl, e2, rw'⟩ := LR.at_ h2 t2.ok i2
  exact ⟨b1, b2, ys, zs, rfl, rfl, e1, e2, by rw [← Rvs.len rv, ← Rvs.len rw']; exact hz, fun n hn => q _ _ S2 _ _ (h n (t2.ok.free hn)) ((t1.trans t2).trans (Step.new t2.ok hn ⟨_, rfl, papp rv rw'⟩)) rfl⟩⟩

/-! ### more that is walked -/
theorem ix_str {tg : Expr} {z : Str} (h : EX Y e ρ L (.dt (.str z)) La) : IX Y tg e ρ L (z.cps.toList.map fun c => .r (.dt (.str ⟨#[c]⟩))) anyL La := ⟨fun S σ H A R q => wI.of (pi_str wE.pe) (h.run S σ H A _ fun r L' S1 H1 v ⟨e1, e2⟩ t i => by
  subst e1 e2
  refine ⟨z, Da.strAt i, q _ _ _ S1 H1 _ ⟨rfl, rfl, rfl⟩ t ⟨fun i S' H L s k _ hl => ?_, fun i S' H L s k _ hl => ?_, fun i S' H L u H' y s k _ hy ⟨e1, c, hc, e2⟩ => ?_⟩⟩
  · rw [List.length_map, Array.length_toList] at hl
    exact hl
  · rw [List.length_map, Array.length_toList] at hl
    exact Nat.le_of_eq hl.symm
  · subst e1 e2
    refine ⟨Step.refl k, ?_⟩
    rw [List.getElem?_map, Array.getElem?_toList, hc] at hy
    cases hy
    exact .str _)⟩
def rgC (lo c : Int) (n : Nat) : List Yd := (List.range n).map fun i => .r (.dt (.int (lo + (i : Nat) * c)))
theorem rgC_len {lo c : Int} {n : Nat} : (rgC lo c n).length = n := by unfold rgC; rw [List.length_map, List.length_range]
theorem rgC_at {lo c : Int} {n i : Nat} {y : Yd} (h : (rgC lo c n)[i]? = some y) : i < n ∧ y = .r (.dt (.int (lo + (i : Nat) * c))) := by
  unfold rgC at h
  rw [List.getElem?_map] at h
  by_cases hi : i < n
  · rw [List.getElem?_range hi] at h
    exact ⟨hi, (Option.some.inj h).symm⟩
  · rw [List.getElem?_eq_none (by rw [List.length_range]; omega)] at h
    cases h
/-- range(i, j, -1) and the like -/
theorem ix_range3 {tg : Expr} {i j s : Int} {n : Nat} (h : AX Y [a, b, c] ρ L [.dt (.int i), .dt (.int j), .dt (.int s)] La) (hb : RgC i j s n) (hg : Gl Y.X "range") (hm : Y.X.mg "range" = none)
    (hs : starEach [a, b, c] Y.X.env = (false, eval a Y.X.env) :: starEach [b, c] Y.X.env := by rfl) (hpl : (backTo pos (starEach [b, c] Y.X.env)).any (·.1) = false := by rfl) : IX Y tg (.Call (.Name "range" p) [a, b, c] [] pos) ρ L (rgC i s n) anyL La := ⟨fun S σ H A R q => wI.of (pi_range3 hg hm wA.pa hs hpl) (h.run S σ H A _ fun rs L' S1 H1 vs ⟨e1, e2⟩ t ii => by
  subst e1 e2
  cases ii with
  | cons i1 ii =>
    obtain ⟨y, z, rfl, i2, i3⟩ := rvs2 ii
    refine ⟨i, j, s, n, by rw [Da.intAt i1, Da.intAt i2, Da.intAt i3], hb, q _ _ _ S1 H1 _ ⟨rfl, rfl, rfl⟩ t ⟨fun i S' H L s k _ hl => by rw [rgC_len] at hl; exact hl, fun i S' H L s k _ hl => by rw [rgC_len] at hl; exact Nat.le_of_eq hl.symm, fun i S' H L u H' y s k _ hy ⟨e1, e2⟩ => ?_⟩⟩
    subst e1 e2
    obtain ⟨_, rfl⟩ := rgC_at hy
    exact ⟨Step.refl k, .int _⟩)⟩
/-- the list that r is, wherever it stands -/
def LW (r : Rv) (rs : List Rv) (L : Led) : Prop := LR L r rs
theorem LR.sq {K : PySem.W.Frag} {S H : Hp} {L : Led} {r : Rv} {rs : List Rv} {x : V} (h : LR L r rs) (k : Ok S H L) (i : r.is S x) : ∃ a xs, x = .ref a ∧ SqL K H a xs ∧ H a = some (.lst xs) ∧ Rvs S rs xs := by
  obtain ⟨a, xs, e, e2, t⟩ := LR.at_ h k i
  exact ⟨a, xs, e, SqL.of e2, e2, t⟩
theorem sql_inj {K : PySem.W.Frag} {S H : Hp} {L : Led} {r : Rv} {rs : List Rv} {a : Addr} (h : LR L r rs) (k : Ok S H L) (i : r.is S (.ref a)) : ∃ xs, H a = some (.lst xs) ∧ Rvs S rs xs := by
  obtain ⟨a', xs, e, e2, t⟩ := LR.at_ h k i
  cases e
  exact ⟨xs, e2, t⟩
def enumY (rs : List Rv) : List Yd := rs.mapIdx fun i r => .t [.dt (.int (i : Nat)), r]
theorem ix_enum {elts : List Expr} {kk : Nat} {tpos : Pos} {rs : List Rv} (h : AX Y [e] ρ L [r] La) (hr : LR La r rs) (hg : Gl Y.X "enumerate") (hm : Y.X.mg "enumerate" = none) (hs : starEach [e] Y.X.env = [(false, eval e Y.X.env)] := by rfl) :
    IX Y (.Tuple elts kk tpos) (.Call (.Name "enumerate" p) [e] [] pos) ρ L (enumY rs) (LW r rs) La := ⟨fun S σ H A R q => wI.of (pi_enum hg hm wA.pa hs) (h.run S σ H A _ fun rr L' S1 H1 vs ⟨e1, e2⟩ t ii => by
  subst e1 e2
  obtain ⟨x, rfl, ix⟩ := rvs1 ii
  obtain ⟨b, xs, rfl, e1, rv⟩ := LR.at_ hr t.ok ix
  have isAt : ∀ {S' : Hp}, Sub S1 S' → r.is S' (.ref b) := fun s => ix.mono s
  have ln : (enumY rs).length = rs.length := by unfold enumY; rw [List.length_mapIdx]
  refine ⟨b, xs, rfl, SqL.of e1, q _ _ _ S1 H1 _ ⟨rfl, rfl, rfl⟩ t ⟨fun i S' H L s k hL hl => ?_, fun i S' H L s k hL hl => ?_, fun i S' H L u H' y s k hL hy ⟨T, z, e2, hT, e3, e4⟩ => ?_⟩⟩
  · obtain ⟨ys, e5, rv'⟩ := sql_inj (K := Y.X.K) hL k (isAt s)
    rw [ln] at hl
    obtain ⟨w, hw, _⟩ := pgetL rv' (List.getElem?_eq_getElem hl)
    exact ⟨ys, w, SqL.of e5, hw⟩
  · obtain ⟨ys, e5, rv'⟩ := sql_inj (K := Y.X.K) hL k (isAt s)
    rw [ln] at hl
    exact ⟨ys, SqL.of e5, by rw [← Rvs.len rv']; omega⟩
  · subst e2 e3
    obtain ⟨ys, e5, rv'⟩ := sql_inj (K := Y.X.K) hL k (isAt s)
    refine ⟨Step.dust k hT, ?_⟩
    unfold enumY at hy
    rw [List.getElem?_mapIdx] at hy
    cases hd : rs[i]? with
    | none => rw [hd] at hy; cases hy
    | some d =>
      rw [hd] at hy
      cases hy
      obtain ⟨w, hw, iw⟩ := pgetL rv' hd
      have ez := Option.some.inj ((e4 _ (SqL.of e5)).symm.trans hw)
      subst ez
      exact ⟨T, _, rfl, upd_same, .cons (.int _) (.cons iw .nil)⟩)⟩
def zipY (rs ss : List Rv) : List Yd := (rs.zip ss).map fun p => .t [p.1, p.2]
theorem ix_zip {elts : List Expr} {kk : Nat} {tpos : Pos} {rs ss : List Rv} (h : AX Y [a, b] ρ L [ra, rb] La) (h1 : LR La ra rs) (h2 : LR La rb ss) (hg : Gl Y.X "zip") (hm : Y.X.mg "zip" = none)
    (hs : starEach [a, b] Y.X.env = (false, eval a Y.X.env) :: starEach [b] Y.X.env := by rfl) (hpl : (backTo pos (starEach [b] Y.X.env)).any (·.1) = false := by rfl) :
    IX Y (.Tuple elts kk tpos) (.Call (.Name "zip" p) [a, b] [] pos) ρ L (zipY rs ss) (fun L => LR L ra rs ∧ LR L rb ss) La := ⟨fun S σ H A R q => wI.of (pi_zip hg hm wA.pa hs hpl) (h.run S σ H A _ fun rr L' S1 H1 vs ⟨e1, e2⟩ t ii => by
  subst e1 e2
  obtain ⟨x, y, rfl, ix, iy⟩ := rvs2 ii
  obtain ⟨b1, xs, rfl, e1, rv⟩ := LR.at_ h1 t.ok ix
  obtain ⟨b2, ys, rfl, e2, rw'⟩ := LR.at_ h2 t.ok iy
  have ln : (zipY rs ss).length = min rs.length ss.length := by unfold zipY; rw [List.length_map, List.length_zip]
  refine ⟨b1, b2, xs, ys, rfl, SqL.of e1, SqL.of e2, q _ _ _ S1 H1 _ ⟨rfl, rfl, rfl⟩ t ⟨fun i S' H L s k hL hl => ?_, fun i S' H L s k hL hl => ?_, fun i S' H L u H' y s k hL hy ⟨T, z, w, e3, hT, e4, e5, e6⟩ => ?_⟩⟩
  · obtain ⟨xs', f1, rv1⟩ := sql_inj (K := Y.X.K) hL.1 k (ix.mono s)
    obtain ⟨ys', f2, rv2⟩ := sql_inj (K := Y.X.K) hL.2 k (iy.mono s)
    rw [ln] at hl
    obtain ⟨w1, g1, _⟩ := pgetL rv1 (List.getElem?_eq_getElem (show i < rs.length by omega))
    obtain ⟨w2, g2, _⟩ := pgetL rv2 (List.getElem?_eq_getElem (show i < ss.length by omega))
    exact ⟨xs', ys', w1, w2, SqL.of f1, SqL.of f2, g1, g2⟩
  · obtain ⟨xs', f1, rv1⟩ := sql_inj (K := Y.X.K) hL.1 k (ix.mono s)
    obtain ⟨ys', f2, rv2⟩ := sql_inj (K := Y.X.K) hL.2 k (iy.mono s)
    rw [ln] at hl
    refine ⟨xs', ys', SqL.of f1, SqL.of f2, ?_⟩
    rw [← Rvs.len rv1, ← Rvs.len rv2]
    omega
  · subst e3 e4
    obtain ⟨xs', f1, rv1⟩ := sql_inj (K := Y.X.K) hL.1 k (ix.mono s)
    obtain ⟨ys', f2, rv2⟩ := sql_inj (K := Y.X.K) hL.2 k (iy.mono s)
    refine ⟨Step.dust k hT, ?_⟩
    unfold zipY at hy
    rw [List.getElem?_map] at hy
    cases hd : (rs.zip ss)[i]? with
    | none => rw [hd] at hy; cases hy
    | some d =>
      rw [hd] at hy
      cases hy
      obtain ⟨d1, d2⟩ := d
      obtain ⟨q1, q2⟩ := List.getElem?_zip_eq_some.mp hd
      obtain ⟨w1, g1, i1⟩ := pgetL rv1 q1
      obtain ⟨w2, g2, i2⟩ := pgetL rv2 q2
      have ez := Option.some.inj ((e5 _ (SqL.of f1)).symm.trans g1)
      have ew := Option.some.inj ((e6 _ (SqL.of f2)).symm.trans g2)
      subst ez ew
      exact ⟨T, _, rfl, upd_same, .cons i1 (.cons i2 .nil)⟩)⟩

/-! ### errors -/
/-- raise X('..') -/
theorem ms_raise {C : Addr} {bmB : List Value} {B newId initId : String} {x m : Str} {j : Nat} {p p2 pos pos2 : Pos} (F : ExcBaseFacts B newId initId bmB) (q : PySem.W.excIn Y.X.K C bmB newId = true) (gC : Y.X.mg x = some (.ref C)) (kC : PySem.W.keepIn Y.X.K (.ref C) = true) (r : Raises Y.X (.ref C)) (hg : Gl Y.X x)
    (hc : Y.X.calm = true) (h : Y.xc (.ref C) ρ L) (hdb : (x == ("__debug__" : Str)) = false := by decide) : MS Y (.Raise (some (.Call (.Name x p) [.Constant (.str m) j p2] [] pos)) none pos2) N D ρ L := ⟨fun S σ H A De l =>
  wS.of (ps_raise hc Y.tk (pmk_own F q gC kC r hg hdb)) (A.lx _ ρ L S H σ h (Step.refl A.ok) A.es)⟩
end
end Cw

set_option Elab.async false
set_option linter.all false
set_option maxRecDepth 100000
set_option maxHeartbeats 2000000
/-! Cw, part H: promises turned; more small rules. -/
namespace Cw
open PySem PySem.Spec PyProof.Rows L2

/-! ### cuts -/
section
variable {α : Type}
theorem cut_to (xs : List α) (k : Nat) : cut xs none (some (k : Int)) = xs.take k := by
  unfold cut
  rw [HT.sIx_nat, HT.sIx_none, List.drop_zero, Nat.sub_zero]
  rcases Nat.le_total k xs.length with h | h
  · rw [Nat.min_eq_left h]
  · rw [Nat.min_eq_right h, List.take_length, List.take_of_length_le h]
theorem cut_from (xs : List α) (k : Nat) : cut xs (some (k : Int)) none = xs.drop k := by
  unfold cut
  rw [HT.sIx_nat, HT.sIx_none]
  rcases Nat.le_total k xs.length with h | h
  · rw [Nat.min_eq_left h]
    exact List.take_of_length_le (by rw [List.length_drop]; omega)
  · rw [Nat.min_eq_right h, List.drop_length, List.drop_eq_nil_of_le h, List.take_nil]
theorem cut_all (xs : List α) : cut xs none none = xs := by
  unfold cut
  rw [HT.sIx_none, HT.sIx_none, List.drop_zero, Nat.sub_zero, List.take_length]
theorem cut_mid (xs : List α) (j k : Nat) : cut xs (some (j : Int)) (some (k : Int)) = (xs.take k).drop j := by
  unfold cut
  rw [HT.sIx_nat, HT.sIx_nat]
  apply List.ext_getElem?
  intro i
  simp only [List.getElem?_take, List.getElem?_drop]
  by_cases h : i < min k xs.length - min j xs.length
  · have e : min j xs.length = j := by omega
    rw [if_pos h, if_pos (by omega), e]
  · rw [if_neg h]
    by_cases h2 : j + i < k
    · rw [if_pos h2, List.getElem?_eq_none (by omega)]
    · rw [if_neg h2]
theorem cut_map {β : Type} (f : α → β) (xs : List α) (lo hi : Option Int) : cut (xs.map f) lo hi = (cut xs lo hi).map f := by
  unfold cut
  rw [List.length_map, List.map_take, List.map_drop]
/-- the last k -/
theorem cut_last (xs : List α) (k : Nat) (h : k ≤ xs.length) (hk : 0 < k) : cut xs (some (-(k : Int))) none = xs.drop (xs.length - k) := by
  unfold cut
  rw [HT.sIx_none]
  have e : HT.sIx xs.length 0 (some (-(k : Int))) = xs.length - k := by
    show (if -(k : Int) < 0 then (-(k : Int) + (xs.length : Int)).toNat else _) = _
    rw [if_pos (by omega)]
    omega
  rw [e]
  exact List.take_of_length_le (by rw [List.length_drop]; omega)
end

/-! ### promises -/
theorem lift_imp {sp sp' : Fs} (h : ∀ as L K X, sp' as L K X → sp as L K X) : ∀ vs H Q E, lift sp' vs H Q E → lift sp vs H Q E := fun vs H Q E ⟨S, L, as, K, XC, a, b, c, d⟩ => ⟨S, L, as, K, XC, a, b, h as L K XC c, d⟩
theorem FnM.imp {P : Program} {w : World} {K : PySem.W.Frag} {mg : Str → Option Value} {base : Heap} {k : Nat} {x : Str} {ps : List Str} {sp sp' : Fs} (G : FnM P w K mg base k x ps sp) (h : ∀ as L K X, sp' as L K X → sp as L K X) : FnM P w K mg base k x ps sp' := by
  obtain ⟨f, fd, a, b, c, d⟩ := G.ex
  exact ⟨f, fd, a, b, c, d.imp (lift_imp h)⟩
/-- a new list handed back, taken as data -/
def asData (sp : Fs) : Fs := fun as L Q X => sp as L (fun r L' => ∃ p ds L0, r = .vl (.ref p) ∧ L' = updL L0 p (.lst (ds.map Rv.dt)) ∧ L0 p = none ∧ Q (.dt (.list ds)) L0) X
theorem lift_data {sp : Fs} : ∀ vs H Q E, lift (asData sp) vs H Q E → lift sp vs H Q E := fun vs H Q E ⟨S, L, as, K, XC, a, b, c, d, e⟩ => ⟨S, L, as, _, XC, a, b, c, fun r L' S' H' v ⟨p, ds, L0, e1, e2, e3, k⟩ t i => by
  subst e1 e2
  obtain ⟨S2, t2, da⟩ := Step.settle t.ok (p := p) (ds := ds) updL_same
  have ev : v = .ref p := i
  subst ev
  exact d _ L0 S2 H' _ k ((t.trans t2).le fun x m hx => by
    have ne : x ≠ p := fun z => by rw [z, e3] at hx; cases hx
    unfold delL
    rw [if_neg ne, updL_ne ne]
    exact hx) da, e⟩
theorem FnM.data {P : Program} {w : World} {K : PySem.W.Frag} {mg : Str → Option Value} {base : Heap} {k : Nat} {x : Str} {ps : List Str} {sp : Fs} (G : FnM P w K mg base k x ps sp) : FnM P w K mg base k x ps (asData sp) := by
  obtain ⟨f, fd, a, b, c, d⟩ := G.ex
  exact ⟨f, fd, a, b, c, d.imp lift_data⟩
theorem MtM.data {P : Program} {w : World} {K : PySem.W.Frag} {mg : Str → Option Value} {base : Heap} {k : Nat} {C : Addr} {x : Str} {ps : List Str} {sp : Fs} (G : MtM P w K mg base k C x ps sp) : MtM P w K mg base k C x ps (asData sp) := by
  obtain ⟨f, fd, a, b, d⟩ := G.ex
  exact ⟨f, fd, a, b, d.imp lift_data⟩
theorem ne_led {L : Led} {a p : Addr} {m : MO} (h : L a = some m) (hp : L p = none) : a ≠ p := fun z => by
  rw [z, hp] at h
  cases h
theorem le_upd {L : Led} {p : Addr} {m : MO} (hp : L p = none) : Le L (updL L p m) := fun a m' h => by
  rw [updL_ne (ne_led h hp)]
  exact h
theorem le_updU {L L' : Led} {p : Addr} {m : MO} (h : Le L L') : Le (updL L p m) (updL L' p m) := fun a m' e => by
  by_cases ha : a = p
  · subst ha
    rw [updL_same] at e ⊢
    exact e
  · rw [updL_ne ha] at e ⊢
    exact h a m' e

section
variable {Y : Cm} {ρ : Rho} {L La Lb Lc : Led} {r ra rb rc : Rv} {e a b c o : Expr} {es : List Expr} {pos apos p : Pos} {X : Cx} {N : Rho → Led → Prop} {D : Nd}
theorem LR.upd {p : Addr} {m : MO} {rs : List Rv} (h : LR L r rs) (hp : L p = none) : LR (updL L p m) r rs := h.imp id fun ⟨q, e, h⟩ => ⟨q, e, by rw [updL_ne (ne_led h hp)]; exact h⟩
/-- a list, wherever it stands -/
theorem ix_lr {tg : Expr} {rs : List Rv} (h : EX Y e ρ L r La) (hr : LR La r rs) : IX Y tg e ρ L (rs.map Yd.r) (LW r rs) La := ⟨fun S σ H A R q => wI.of (pi_list wE.pe) (h.run S σ H A _ fun r' L' S1 H1 v ⟨e1, e2⟩ t ix => by
  subst e1 e2
  obtain ⟨b, xs, rfl, e1, rv⟩ := LR.at_ hr t.ok ix
  have isAt : ∀ {S' : Hp}, Sub S1 S' → r'.is S' (.ref b) := fun s => ix.mono s
  refine ⟨b, rfl, ⟨xs, SqL.of e1⟩, q _ _ _ S1 H1 _ ⟨rfl, rfl, rfl⟩ t ⟨fun i S' H L s k hL hl => ?_, fun i S' H L s k hL hl => ?_, fun i S' H L u H' y s k hL hy ⟨e2, e4⟩ => ?_⟩⟩
  · obtain ⟨ys, e5, rv'⟩ := sql_inj (K := Y.X.K) hL k (isAt s)
    rw [List.length_map] at hl
    obtain ⟨w, hw, _⟩ := pgetL rv' (List.getElem?_eq_getElem hl)
    exact ⟨ys, w, SqL.of e5, hw⟩
  · obtain ⟨ys, e5, rv'⟩ := sql_inj (K := Y.X.K) hL k (isAt s)
    rw [List.length_map] at hl
    exact ⟨ys, SqL.of e5, by rw [← Rvs.len rv']; omega⟩
  · subst e2
    obtain ⟨ys, e5, rv'⟩ := sql_inj (K := Y.X.K) hL k (isAt s)
    refine ⟨Step.refl k, ?_⟩
    rw [List.getElem?_map] at hy
    cases hd : rs[i]? with
    | none => rw [hd] at hy; cases hy
    | some d =>
      rw [hd] at hy
      cases hy
      obtain ⟨w, hw, iw⟩ := pgetL rv' hd
      have ez := Option.some.inj ((e4 _ (SqL.of e5)).symm.trans hw)
      subst ez
      exact iw)⟩
/-- o.f = e, e a new thing -/
theorem ms_setfldM {q C : Addr} {fs : List (Str × Rv)} {f : Str} {pos' : Pos} (he : ME Y e ρ L fun r La => EX Y o ρ La (.vl (.ref q)) La ∧ La q = some (.ins C fs) ∧ fs.length < 1000 ∧ N ρ (updL La q (.ins C (putR f r fs)))) (c : Cls Y.X.K C) (n : NoAttr Y.X.K C f)
    (hs : swapsWith e (some (.Attribute o f pos')) pos.line Y.X.env = pure false := by rfl) : MS Y (.Assign [.Attribute o f pos'] e pos) N D ρ L := ⟨fun S σ H A De l => by
  refine wS.of (ps_fld wE.pe wE.pe hs) (he.run S σ H A _ fun r1 L1 S1 H1 v ⟨ho, h, hl, k⟩ t1 i1 => ?_)
  refine ho.run S1 σ H1 (A.next t1) _ fun r2 L2 S2 H2 x ⟨e1, e2⟩ t2 i2 => ?_
  subst e1 e2
  obtain ⟨dx, gs, hg, rf⟩ := t2.ok.ins h
  refine ⟨q, C, dx, gs, i2, hg, c, n, by rw [← Paired.length rf]; exact hl, ?_⟩
  have t3 := Step.write t2.ok h (m := .ins C (putR f r1 fs)) (o := .ins C dx (putF f v gs)) ⟨_, _, rfl, rf_put (i1.mono t2.sub) rf⟩
  exact l.nx ρ _ S2 _ σ k ((t1.trans t2).trans t3) (A.es.mono (t1.trans t2).sub)⟩
/-- None == 3 -/
theorem o_eqNI {j : Int} : Op2 X (compareOp .Eq) (.dt .none) (.dt (.int j)) L (.dt (.bool false)) := ⟨_, op_eq, rm_eq fun S x y hx hy => by cases hx; cases hy; exact ⟨rfl, decide_eq_false (fun z => nomatch z)⟩⟩
/-- o.append(e), o a call -/
theorem me_append' {K : Rv → Led → Prop} (ho : ME Y o ρ L fun r La => ∃ q rs0, r = .vl (.ref q) ∧ La q = some (.lst rs0) ∧ ME Y e ρ La fun r2 Lb => ∃ rs, Lb q = some (.lst rs) ∧ rs.length < sizeLine ∧ K (.dt .none) (updL Lb q (.lst (rs ++ [r2]))))
    (hbase : attributeBase o "append" Y.X.env (eval o Y.X.env) = eval o Y.X.env := by rfl)
    (hfew : ((backTo pos (starEach (e :: []) Y.X.env)).all (fun x => !x.1) && (backToKw pos (keywordEach [] Y.X.env)).all (fun x => x.1.isSome) && decide ((e :: []).length + ([] : List Keyword).length + (if ([] : List Keyword).isEmpty then 0 else 1) < 30)) = true := by rfl)
    (hline : (apos.endLine == pos.line) = true := by rfl) (hs : starEach (e :: []) Y.X.env = (false, eval e Y.X.env) :: starEach [] Y.X.env := by rfl) (hplain : (backTo pos (starEach [] Y.X.env)).any (·.1) = false := by rfl) :
    ME Y (.Call (.Attribute o "append" apos) [e] [] pos) ρ L K := ⟨fun S σ H A Q qq => by
  refine wE.of (pe_bm PySem.F.plainAttrs_list PySem.F.slot_list_append PySem.F.type_list_append mt_append wE.pe (pa_cons wE.pe pa_nil hs) hbase hfew hline hs hplain) (ho.run S σ H A _ fun r1 L1 S1 H1 x ⟨q, rs0, e1, h0, he⟩ t1 i1 => ?_)
  subst e1
  have ex : x = .ref q := i1
  subst ex
  obtain ⟨xs0, e0, _⟩ := t1.ok.lstAt h0
  refine ⟨.inl ⟨rfl, _, SqL.of e0⟩, he.run S1 σ H1 (A.next t1) _ fun r Lb S2 H2 v ⟨rs, h2, hz, k⟩ t2 i2 => ?_⟩
  obtain ⟨xs, e3, rv⟩ := t2.ok.lstAt h2
  exact ⟨q, xs, v, rfl, rfl, e3, by rw [← Rvs.len rv]; exact hz, qq _ _ S2 _ _ k ((t1.trans t2).trans (Step.write t2.ok h2 ⟨_, rfl, papp rv (.cons i2 .nil)⟩)) .non⟩⟩
/-- a, b, .. = a list -/
theorem ms_unl {es : List Expr} {k : Nat} {tpos : Pos} {is : List Nat} (hc : Y.X.calm = true) (hg : PGs Y.X es (gNs is)) (h : ME Y e ρ L fun r L' => ∃ rs, LR L' r rs ∧ rs.length = is.length ∧ N (setAll is rs ρ) L')
    (hn : (assignEach es Y.X.env).length = is.length := by rfl) (hst : (assignEach es Y.X.env).findIdx? (·.1) = none := by rfl)
    (hs : swapsWithSole [.Tuple es k tpos] e pos.line Y.X.env = pure false := by rfl) (hw : swappedStores [.Tuple es k tpos] e Y.X.env = pure none := by rfl)
    (h1 : (assignEach [.Tuple es k tpos] Y.X.env).map (·.2) = [assign (.Tuple es k tpos) Y.X.env] := by rfl) : MS Y (.Assign [.Tuple es k tpos] e pos) N D ρ L := ⟨fun S σ H A De l => wS.of (ps_asg wE.pe (pg_lst hc hg hn hst) hs hw h1) (h.run S σ H A _ fun r L' S' H' v ⟨rs, lr, hl, k⟩ t i => by
  obtain ⟨a, xs, rfl, e1, rv⟩ := LR.at_ lr t.ok i
  exact ⟨a, xs, rfl, SqL.of e1, by rw [← Rvs.len rv]; exact hl, gNs_ok rv hl (A.es.mono t.sub) fun σ' es' _ => l.nx _ L' S' H' σ' k t es'⟩)⟩
end
end Cw

set_option Elab.async false
set_option linter.all false
set_option maxRecDepth 100000
set_option maxHeartbeats 2000000
/-! Cw, part I: the law's promise, from the script as the head gives it. -/
namespace Cw
open PySem PySem.Spec PyProof.Rows L2
def S0 : Hp := fun _ => none
theorem rvs_scr (S : Hp) : ∀ ns : List Int, Rvs S (ns.map fun i => .dt (.int i)) (ns.map V.int)
  | [] => .nil
  | n :: ns => .cons (.int n) (rvs_scr S ns)
theorem lift_law {sp : Fs} {K : PySem.W.Frag} {H : Hp} {a : Addr} {ns : List Int} (hO : Only H) (hS : SqL K H a (ns.map V.int))
    (h : ∀ L, Scr K L a ns → sp [.vl (.ref a)] L (fun r _ => r = .dt (.bool true)) noX) : lift sp [.ref a] H (fun v _ => v = .bl true) fun _ _ _ => False := by
  have hav : Rvs S0 [.vl (.ref a)] [.ref a] := .cons rfl .nil
  have fin : ∀ (r : Rv) (L' : Led) (S' H' : Hp) (v : V), r = .dt (.bool true) → Step S0 H (fun _ => none) S' H' L' → r.is S' v → v = .bl true := fun r L' S' H' v e _ i => by
    subst e
    exact Da.blAt i
  rcases hS with hS | hS
  · have hf : ∃ ob, H a = some (.frz ob (.lst (ns.map V.int))) := by
      rcases hS with h1 | ⟨ob, h1⟩
      · rcases hO a with h2 | ⟨o, xs, h2⟩
        · rw [h2] at h1; cases h1
        · rw [h2] at h1; cases h1
      · exact ⟨ob, h1⟩
    obtain ⟨ob, e⟩ := hf
    refine ⟨S0, fun b => if b = a then some (.frz (ns.map fun i => .dt (.int i))) else none, _, _, noX, ⟨fun b o z => (by cases z), fun b m z => ?_⟩, hav, h _ (.inl (if_pos rfl)), fun r L' S' H' v e t i => ?_, fun _ _ _ _ z => z.elim⟩
    · replace z : (if b = a then some (MO.frz (ns.map fun i => .dt (.int i))) else none) = some m := z
      split at z
      next hb =>
        cases z
        subst hb
        exact ⟨rfl, _, e, ob, _, rfl, rvs_scr _ ns⟩
      next => cases z
    · subst e
      exact Da.blAt i
  · refine ⟨S0, fun _ => none, _, _, noX, ⟨fun b o z => (by cases z), fun b m z => (by cases z)⟩, hav, h _ (.inr fun H => .inr hS), fun r L' S' H' v e t i => ?_, fun _ _ _ _ z => z.elim⟩
    subst e
    exact Da.blAt i
end Cw

set_option Elab.async false
set_option linter.all false
set_option maxRecDepth 100000
set_option maxHeartbeats 2000000
/-! Cw, part J: texts. -/
namespace Cw
open PySem PySem.Spec PyProof.Rows L2
section
variable {X : Cx} {Y : Cm} {ρ : Rho} {L La Lb : Led} {r ra rb : Rv} {o e : Expr} {pos apos : Pos}
/-- x not in (a, b) -/
theorem o_notIn2S {x a b : Str} : Op2 X (compareOp .NotIn) (.dt (.str x)) (.dt (.tuple [.str a, .str b])) L (.dt (.bool (!(decide (x = a) || decide (x = b))))) := ⟨_, op_notIn_seq, fun S H u v k hx hy Q q => by
  obtain ⟨p, xs, rfl, hs, e, rv⟩ := Da.tupAt k hy
  have hxs : xs = [.str a, .str b] := by
    cases rv with
    | cons a1 r1 =>
      cases r1 with
      | cons a2 r2 =>
        cases r2
        rw [Da.strAt a1, Da.strAt a2]
  subst hxs
  have hu := Da.strAt hx
  subst hu
  refine ⟨p, _, rfl, .inr (.inl (.inl e)), rfl, rfl, ?_⟩
  have ev : (!inV (V.str x) [V.str a, V.str b]) = (!(decide (x = a) || decide (x = b))) := by
    show (!((a == x) || ((b == x) || false))) = _
    have e0 : ∀ a : Str, (a == x) = decide (x = a) := fun a => by
      by_cases h : a = x
      · subst h
        rw [decide_eq_true rfl]
        exact beq_self_eq_true a
      · rw [decide_eq_false fun e => h e.symm]
        exact beq_eq_false_iff_ne.mpr h
    have e1 := e0 a
    have e2 := e0 b
    rw [e1, e2, Bool.or_false]
  show Q (V.bl (!inV (V.str x) [V.str a, V.str b])) H
  rw [ev]
  exact q S H _ (Step.refl k) (.bl _)⟩
/-- sep.join(l) -/
theorem ex_join {a : Str} {ys : List Str} (ho : EX Y o ρ L (.dt (.str a)) La) (he : EX Y e ρ La r Lb) (hr : LL Lb r (ys.map PyData.str)) (hz : (ys.map (·.length)).sum + ys.length * a.length ≤ 16777216)
    (hs : starEach [e] Y.X.env = [(false, eval e Y.X.env)] := by rfl) (hbase : attributeBase o "join" Y.X.env (eval o Y.X.env) = eval o Y.X.env := by rfl) (hline : (apos.endLine == pos.line) = true := by rfl) :
    EX Y (.Call (.Attribute o "join" apos) [e] [] pos) ρ L (.dt (.str (Txt.join a ys))) Lb := ⟨fun S σ H A Q qq => by
  refine wE.of (pe_join wE.pe wE.pe hs hbase hline) (ho.run S σ H A _ fun r1 L1' S1 H1 x ⟨e1, e2⟩ t1 i1 => ?_)
  subst e1 e2
  refine ⟨⟨a, Da.strAt i1⟩, he.run S1 σ H1 (A.next t1) _ fun r2 L2 S2 H2 v ⟨e3, e4⟩ t2 i2 => ?_⟩
  subst e3 e4
  obtain ⟨p, xs, rfl, e5, rv⟩ := LR.at_ hr t2.ok i2
  have hxs : xs = ys.map V.str := by
    clear hz e5 i2 hr he qq
    induction ys generalizing xs with
    | nil => cases rv; rfl
    | cons y ys ih =>
      cases rv with
      | cons a1 r1 =>
        rw [ih _ r1, Da.strAt a1]
        rfl
  subst hxs
  exact ⟨a, p, ys, Da.strAt i1, rfl, .inl (SqL.of e5), hz, qq _ _ S2 _ _ ⟨rfl, rfl⟩ (t1.trans t2) (.str _)⟩⟩
end
/-! ### texts by their codes -/
def tx (l : List Nat) : Str := ⟨l.toArray⟩
theorem tx_len (l : List Nat) : (tx l).length = l.length := SX.S_len l
theorem tx_cat (a b : List Nat) : tx a ++ tx b = tx (a ++ b) := SX.S_cat a b
theorem tx_list (l : List Nat) : (tx l).cps.toList = l := by simp [tx]
theorem tx_eq {a b : List Nat} : tx a = tx b ↔ a = b := ⟨SX.S_inj, fun h => by rw [h]⟩
theorem tx_cut (l : List Nat) (lo hi : Option Int) : cutS (tx l) lo hi = tx (cut l lo hi) := by
  unfold cutS cut
  rw [tx_list, tx_len]
  rfl
theorem joinL_nil : ∀ ys : List (List Nat), TL.joinL [] ys = ys.flatten
  | [] => rfl
  | [p] => by simp [TL.joinL]
  | p :: q :: r => by
    show p ++ ([] ++ TL.joinL [] (q :: r)) = _
    rw [joinL_nil (q :: r), List.nil_append]
    rfl
theorem tx_join (ys : List (List Nat)) : Txt.join (tx []) (ys.map tx) = tx ys.flatten := by
  rw [← joinL_nil]
  exact SX.join_S [] ys
end Cw

set_option Elab.async false
set_option linter.all false
set_option maxRecDepth 100000
set_option maxHeartbeats 4000000
namespace K09
open PySem PySem.Spec PyProof.Rows L2 Cw
/-! ### small closers, each at its own key -/
local macro_rules | `(tactic| walk_at "oadd") => `(tactic| first | exact o_add | exact o_addS (by walk_at "sz") | exact o_cat (by walk_at "ll") (by walk_at "ll") (by walk_at "sz"))
local macro_rules | `(tactic| walk_at "osub") => `(tactic| exact o_sub)
local macro_rules | `(tactic| walk_at "omul") => `(tactic| first | exact o_mul (by walk_at "sd") | exact o_rep (by walk_at "ll") (by walk_at "sd") (by walk_at "sd") (by walk_at "sz"))
local macro_rules | `(tactic| walk_at "odiv") => `(tactic| first | exact o_div (by walk_at "sd") | exact o_divW (by walk_at "sd"))
local macro_rules | `(tactic| walk_at "olt") => `(tactic| exact o_lt)
local macro_rules | `(tactic| walk_at "ole") => `(tactic| exact o_le)
local macro_rules | `(tactic| walk_at "ogt") => `(tactic| exact o_gt)
local macro_rules | `(tactic| walk_at "oge") => `(tactic| exact o_ge)
local macro_rules | `(tactic| walk_at "oeq") => `(tactic| first | exact o_eqI | exact o_eqNI | exact o_eqS | exact o_eqB | exact o_eqR (Room.units (by assumption)) (by walk_at "dr") (by walk_at "dr") (by walk_at "sh") (by walk_at "sh"))
local macro_rules | `(tactic| walk_at "one") => `(tactic| first | exact o_neI | exact o_neS | exact o_neB | exact o_neR (Room.units (by assumption)) (by walk_at "dr") (by walk_at "dr") (by walk_at "sh") (by walk_at "sh"))
local macro_rules | `(tactic| walk_at "ois") => `(tactic| exact o_isN)
local macro_rules | `(tactic| walk_at "oisn") => `(tactic| exact o_notN)
local macro_rules | `(tactic| walk_at "iadd") => `(tactic| exact o_iadd)
local macro_rules | `(tactic| walk_at "isub") => `(tactic| exact o_isub)
local macro_rules | `(tactic| walk_at "lk") => `(tactic| first | assumption | exact updL_same | (refine Eq.trans (updL_ne (by first | assumption | (apply Ne.symm; assumption))) ?_; walk_at "lk"))
local macro_rules | `(tactic| walk_at "ll") => `(tactic| first | exact LL.dt | assumption | exact LL.h (by walk_at "lk"))
local macro_rules | `(tactic| walk_at "lr") => `(tactic| first | exact LL.dt | assumption | exact LR.h (by walk_at "lk"))
local macro_rules | `(tactic| walk_at "dr") => `(tactic| first | exact DD.dt | assumption | exact DD.ofLL (by walk_at "lk"))
local macro_rules | `(tactic| walk_at "sd") => `(tactic| first | omega | assumption | decide)
local macro_rules | `(tactic| walk_at "rg") => `(tactic| first | omega | assumption | decide)
local macro_rules | `(tactic| walk_at "sz") => `(tactic| first | assumption | (rw [sizeLine_eq]; first | omega | (simp; omega)))
local macro_rules | `(tactic| walk_at "osl") => `(tactic| first | exact s_str (by walk_at "sz") | exact s_lst (by walk_at "ll"))
local macro_rules | `(tactic| walk_at "c_len") => `(tactic| first | exact c_lenT | exact c_lenS (by walk_at "sz") | exact c_lenL (by walk_at "ll") | exact c_lenR (by walk_at "lr") | exact c_lenF (by assumption))
local macro_rules | `(tactic| walk_at "c_int") => `(tactic| first | exact c_int | exact c_intB)
local macro_rules | `(tactic| walk_at "c_min") => `(tactic| exact c_min rfl)
local macro_rules | `(tactic| walk_at "c_max") => `(tactic| exact c_max rfl)
local macro_rules | `(tactic| walk_at "c_ord") => `(tactic| exact c_ord (by walk_at "sz"))
local macro_rules | `(tactic| walk_at "c_list") => `(tactic| first | exact c_listT | exact c_list (by walk_at "ll") | exact c_listF (by assumption))
local macro_rules | `(tactic| walk_at "c_tuple") => `(tactic| first | exact c_tupleT | exact c_tuple (by walk_at "ll"))
local macro_rules | `(tactic| walk_at "c_isinstance") => `(tactic| exact c_isi (by walk_at "dr") (by decide))
local macro_rules | `(tactic| walk_at "few") => `(tactic| first | decide | exact Nat.le_of_ble_eq_true rfl | (rw [sizeLine_eq]; exact Nat.le_of_ble_eq_true rfl) | assumption)
local macro_rules | `(tactic| walk_at "fl") => `(tactic| first | assumption | rfl)
local macro_rules | `(tactic| walk_at "nf") => `(tactic| first | rfl | decide +kernel)
local macro_rules | `(tactic| walk_at "at") => `(tactic| first | assumption | rfl | exact atI_nat (by assumption))
local macro_rules | `(tactic| walk_at "oix") => `(tactic| first | exact i_tup (by walk_at "at") | exact i_lst (by walk_at "ll") (by walk_at "at") | exact i_lstR (by walk_at "lr") (by walk_at "at") | exact i_str (by walk_at "sz") (by walk_at "at") | exact i_lstF (by assumption) (by walk_at "at"))
local macro_rules | `(tactic| walk_at "ixn") => `(tactic| first | assumption | rfl)
local macro_rules | `(tactic| walk_at "okd") => `(tactic| first | rfl | assumption)
local macro_rules | `(tactic| walk_at "wr") => `(tactic| first | assumption | omega)
local macro_rules | `(tactic| walk_at "shn") => `(tactic| first | exact fun z => absurd z (by assumption) | exact fun z => absurd rfl z | exact fun _ => ⟨rfl, rfl⟩)
local macro_rules | `(tactic| walk_at "onin") => `(tactic| exact o_notIn2S)
local macro_rules | `(tactic| walk_at "okp") => `(tactic| first | assumption | exact nxt_p (by walk_at "okp"))

/-! ### the text -/
def topS (i : Nat) : Stmt := PySem.Challenge.pw_cardwhole_k09_chunks_of_a_text.main.body.getD i (.Pass ⟨0, 0, 0, 0⟩)
abbrev s_line_starts : Stmt := (topS 1)
abbrev N_line_starts : List Str := ["text", "found", "position"]
abbrev P_line_starts : List Str := ["text"]
theorem sc_line_starts : FnScope N_line_starts P_line_starts (defScope s_line_starts) := ⟨rfl, rfl, rfl, by decide +kernel, rfl, by decide +kernel, by decide +kernel⟩
abbrev s_chunks : Stmt := (topS 2)
abbrev N_chunks : List Str := ["text", "starts", "ends", "start", "end"]
abbrev P_chunks : List Str := ["text"]
theorem sc_chunks : FnScope N_chunks P_chunks (defScope s_chunks) := ⟨rfl, rfl, rfl, by decide +kernel, rfl, by decide +kernel, by decide +kernel⟩
abbrev s_law_next : Stmt := (topS 4)
abbrev N_law_next : List Str := ["state", "limit", "cell", "value"]
abbrev P_law_next : List Str := ["state", "limit"]
theorem sc_law_next : FnScope N_law_next P_law_next (defScope s_law_next) := ⟨rfl, rfl, rfl, by decide +kernel, rfl, by decide +kernel, by decide +kernel⟩
abbrev s_law_same : Stmt := (topS 5)
abbrev N_law_same : List Str := ["actual", "expected", "k"]
abbrev P_law_same : List Str := ["actual", "expected"]
theorem sc_law_same : FnScope N_law_same P_law_same (defScope s_law_same) := ⟨rfl, rfl, rfl, by decide +kernel, rfl, by decide +kernel, by decide +kernel⟩
abbrev s_law_char : Stmt := (topS 6)
abbrev N_law_char : List Str := ["index", "chars"]
abbrev P_law_char : List Str := ["index"]
theorem sc_law_char : FnScope N_law_char P_law_char (defScope s_law_char) := ⟨rfl, rfl, rfl, by decide +kernel, rfl, by decide +kernel, by decide +kernel⟩
abbrev s_law_line : Stmt := (topS 7)
abbrev N_law_line : List Str := ["state", "line", "k"]
abbrev P_law_line : List Str := ["state"]
theorem sc_law_line : FnScope N_law_line P_law_line (defScope s_law_line) := ⟨rfl, rfl, rfl, by decide +kernel, rfl, by decide +kernel, by decide +kernel⟩
abbrev s_law_lines : Stmt := (topS 8)
abbrev N_law_lines : List Str := ["state", "count", "text", "k"]
abbrev P_law_lines : List Str := ["state", "count"]
theorem sc_law_lines : FnScope N_law_lines P_law_lines (defScope s_law_lines) := ⟨rfl, rfl, rfl, by decide +kernel, rfl, by decide +kernel, by decide +kernel⟩
abbrev s_law : Stmt := (topS 9)
abbrev N_law : List Str := ["script", "state", "text", "expected", "before", "count", "k", "chunk", "actual", "position"]
abbrev P_law : List Str := ["script"]
theorem sc_law : FnScope N_law P_law (defScope s_law) := ⟨rfl, rfl, rfl, by decide +kernel, rfl, by decide +kernel, by decide +kernel⟩
/-! ### the draws -/
structure Sg where
  cs : List Int
  p : Int
  a : Int
  z : Int
abbrev enc (σ : Sg) : MO := .lst [.dt (.list (σ.cs.map PyData.int)), .dt (.int σ.p), .dt (.int σ.a), .dt (.int σ.z)]
def cellOf (σ : Sg) : Int := σ.cs.getD σ.p.toNat 0
def feed (σ : Sg) : Sg := if σ.a = 0 ∧ σ.p < σ.cs.length then (if cellOf σ ≥ 10 ^ 18 then ⟨σ.cs, σ.p + 1, cellOf σ, σ.z⟩ else ⟨σ.cs, σ.p + 1, σ.a, (σ.z * 48271 + cellOf σ % 2147483647 + 7) % 2147483647⟩) else σ
def pull (τ : Sg) (l : Int) : Int × Sg := if τ.a > 0 then (τ.a % l, ⟨τ.cs, τ.p, τ.a / l, τ.z⟩) else ((τ.z * 69621 + 12345) % 2147483647 / 7 % l, ⟨τ.cs, τ.p, τ.a, (τ.z * 69621 + 12345) % 2147483647⟩)
def nxt (σ : Sg) (l : Int) : Int × Sg := pull (feed σ) l
theorem feed_p {σ : Sg} (h : 0 ≤ σ.p) : 0 ≤ (feed σ).p := by
  unfold feed
  split
  · split
    · show 0 ≤ σ.p + 1; omega
    · show 0 ≤ σ.p + 1; omega
  · exact h
theorem nxt_p {σ : Sg} {l : Int} (h : 0 ≤ σ.p) : 0 ≤ (nxt σ l).2.p := by
  unfold nxt pull
  split
  · exact feed_p h
  · exact feed_p h
theorem nxt_b (σ : Sg) {l : Int} (h : 0 < l) : 0 ≤ (nxt σ l).1 ∧ (nxt σ l).1 < l := by
  unfold nxt pull
  split
  · exact ⟨Int.emod_nonneg _ (by omega), Int.emod_lt_of_pos _ h⟩
  · exact ⟨Int.emod_nonneg _ (by omega), Int.emod_lt_of_pos _ h⟩
structure Txt (K : PySem.W.Frag) (mg : Str → Option Value) : Prop where
  m_isinstance : mg "isinstance" = none
  m_bool : mg "bool" = none
  m_str : mg "str" = none
  m_list : mg "list" = none
  m_tuple : mg "tuple" = none
  m_int : mg "int" = none
  m_len : mg "len" = none
  m_range : mg "range" = none
  m_zip : mg "zip" = none
def tbl : List Nat := [32, 39, 33, 34, 35, 36, 38, 40, 41, 42, 43, 44, 45, 46, 47, 48, 49, 50, 51, 52, 53, 54, 55, 56, 57, 58, 59, 60, 61, 62, 63, 64, 65, 66, 67, 68, 69, 70, 71, 72, 73, 74, 75, 76, 77, 78, 79, 80, 81, 82, 83, 84, 85, 86, 87, 88, 89, 90, 91, 92, 93, 94, 95, 96, 97, 98, 99, 100, 101, 102, 103, 104, 105, 106, 107, 108, 109, 110, 111, 112, 113, 114, 115, 116, 117, 118, 119, 120, 121, 122, 123, 124, 125, 126, 10]
def chr (i : Int) : Nat := tbl.getD (i % 95).toNat 0
theorem tbl_1 : ∀ k : Fin 95, k.val < 94 → tbl.getD k.val 0 ≠ 10 := by decide +kernel
theorem tbl_2 : ∀ k : Fin 95, 0 < k.val → k.val < 94 → tbl.getD k.val 0 ≠ 32 ∧ tbl.getD k.val 0 ≠ 10 := by decide +kernel
theorem chr_1 {i : Int} (h : 0 ≤ i) (h2 : i < 94) : chr i ≠ 10 := by
  unfold chr
  rw [Int.emod_eq_of_lt h (by omega)]
  exact tbl_1 ⟨i.toNat, by omega⟩ (by show i.toNat < 94; omega)
theorem chr_2 {i : Int} (h : 0 < i) (h2 : i < 94) : chr i ≠ 32 ∧ chr i ≠ 10 := by
  unfold chr
  rw [Int.emod_eq_of_lt (by omega) (by omega)]
  exact tbl_2 ⟨i.toNat, by omega⟩ (by show 0 < i.toNat; omega) (by show i.toNat < 94; omega)
section
variable {P : Program} {w : World} {K : PySem.W.Frag} {mg : Str → Option Value} {base : Heap}
def sp_next : Fs := fun as L Q _ => ∃ s σ l, as = [.vl (.ref s), .dt (.int l)] ∧ L s = some (enc σ) ∧ 0 ≤ σ.p ∧ 0 < l ∧ l ≤ 1000000 ∧ Q (.dt (.int (nxt σ l).1)) (updL L s (enc (nxt σ l).2))
theorem ok_next {f : Addr} {fd : FuncData} (F : Fun K "_law_next" "_law_next" s_law_next f fd) (T : Txt K mg) : FnOk P w K mg base CX0 1 f fd P_law_next (lift sp_next) := by
  refine fnok0 F sc_law_next (fun as L Q XC h => by obtain ⟨_, _, _, rfl, _⟩ := h; rfl) ?_
  intro cdv A outer s0 H E hr as L Q XC h
  obtain ⟨s, σ, l, rfl, hs, hp, h0, hl, q⟩ := h
  have hdv : CDiv (feed σ).a l := ⟨h0, by omega⟩
  have fin : ∀ (L' : Led) (c : Option Rv), L' s = some (enc (feed σ)) → (∀ m, updL L' s m = updL L s m) → MSs (y0 P w K mg base N_law_next "_law_next" (defScope s_law_next) f cdv A outer s0 H E) ((defBody s_law_next).drop 1) (fun x L' => Q (.dt .none) L') { rt := Q } [some (.vl (.ref s)), some (.dt (.int l)), c, none] L' := by
    intro L' c hs e
    unfold nxt at q
    generalize feed σ = τ at *
    refine mss_cons (ms_ifx (tx_cmp (ex_ix (ex_var 0 rfl rfl (.inl rfl)) ex_int (by walk_at "oix") (fun _ _ => rfl)) ex_int (by walk_at "ogt") (nomark _)) (fun hT => ?_) (fun hF => ?_))
    · refine mss_cons (ms_set 3 sc_law_next.nd rfl (by first | exact .inl rfl | exact .inr rfl) (EX.to (ex_bin (ex_callTy (ax_cons (ex_ix (ex_var 0 rfl rfl (.inl rfl)) ex_int (by walk_at "oix") (fun _ _ => rfl)) ax_nil) (by walk_at "c_int") (by rfl) T.m_int (by decide +kernel)) (ex_var 1 rfl rfl (.inl rfl)) (o_mod (by walk_at "sd"))) ?_))
      refine mss_cons (ms_setix (ex_bin (ex_ix (ex_var 0 rfl rfl (.inl rfl)) ex_int (by walk_at "oix") (fun _ _ => rfl)) (ex_var 1 rfl rfl (.inl rfl)) (by walk_at "odiv")) (ex_var 0 rfl rfl (.inl rfl)) ex_int (by walk_at "lk") (by walk_at "ixn") ?_)
      refine mss_cons (ms_ret (EX.to (ex_var 3 rfl rfl (.inl rfl)) ?_))
      rw [e]
      unfold pull at q
      rw [if_pos (of_decide_eq_true hT)] at q
      exact q
    · refine mss_nil (mss_cons (ms_setix (ex_bin (ex_callTy (ax_cons (ex_bin (ex_bin (ex_ix (ex_var 0 rfl rfl (.inl rfl)) ex_int (by walk_at "oix") (fun _ _ => rfl)) ex_int (o_mul (.inr (by decide)))) ex_int (by walk_at "oadd")) ax_nil) (by walk_at "c_int") (by rfl) T.m_int (by decide +kernel)) ex_int (o_mod (by decide))) (ex_var 0 rfl rfl (.inl rfl)) ex_int (by walk_at "lk") (by walk_at "ixn") ?_))
      have hs2 : updL L' s (.lst ([.dt (.list (τ.cs.map PyData.int)), .dt (.int τ.p), .dt (.int τ.a), .dt (.int τ.z)].set 3 (.dt (.int ((τ.z * 69621 + 12345) % 2147483647))))) s = some (.lst [.dt (.list (τ.cs.map PyData.int)), .dt (.int τ.p), .dt (.int τ.a), .dt (.int ((τ.z * 69621 + 12345) % 2147483647))]) := updL_same
      refine mss_cons (ms_ret (EX.to (ex_bin (ex_callTy (ax_cons (ex_bin (ex_ix (ex_var 0 rfl rfl (.inl rfl)) ex_int (by walk_at "oix") (fun _ _ => rfl)) ex_int (o_div ⟨by decide, by decide⟩)) ax_nil) (by walk_at "c_int") (by rfl) T.m_int (by decide +kernel)) (ex_var 1 rfl rfl (.inl rfl)) (o_mod (by walk_at "sd"))) ?_))
      rw [e]
      unfold pull at q
      rw [if_neg (of_decide_eq_false hF)] at q
      exact q
  have hb : σ.p < σ.cs.length → atI (σ.cs.map PyData.int) σ.p = some (.int (cellOf σ)) := fun h => by
    obtain ⟨j, hj⟩ : ∃ j : Nat, σ.p = j := ⟨σ.p.toNat, by omega⟩
    have hj2 : j < σ.cs.length := by omega
    unfold cellOf
    rw [hj, Int.toNat_natCast, List.getD_eq_getElem?_getD, List.getElem?_eq_getElem hj2]
    exact atI_nat (by rw [List.getElem?_map, List.getElem?_eq_getElem hj2]; rfl)
  have e18 : (10 : Int) ^ (18 : Int).toNat = 10 ^ 18 := rfl
  refine mss_cons (ms_ifx (tx_w (wx_and (tx_cmp (ex_ix (ex_var 0 rfl rfl (.inl rfl)) ex_int (by walk_at "oix") (fun _ _ => rfl)) ex_int (by walk_at "oeq") (nomark _)) (fun _ => (wx_and1 (tx_cmp (ex_ix (ex_var 0 rfl rfl (.inl rfl)) ex_int (by walk_at "oix") (fun _ _ => rfl)) (ex_callB (ax_cons (ex_ix (ex_var 0 rfl rfl (.inl rfl)) ex_int (by walk_at "oix") (fun _ _ => rfl)) ax_nil) (by walk_at "c_len") (by rfl) T.m_len PySem.boot_len) (by walk_at "olt") (nomark _)))))) (fun hT => ?_) (fun hF => ?_))
  · rw [List.length_map] at hT
    have h1 : σ.a = 0 ∧ σ.p < σ.cs.length := by
      rw [Bool.and_eq_true] at hT
      exact ⟨of_decide_eq_true hT.1, of_decide_eq_true hT.2⟩
    have hat := hb h1.2
    have ef : feed σ = if cellOf σ ≥ 10 ^ 18 then ⟨σ.cs, σ.p + 1, cellOf σ, σ.z⟩ else ⟨σ.cs, σ.p + 1, σ.a, (σ.z * 48271 + cellOf σ % 2147483647 + 7) % 2147483647⟩ := if_pos h1
    refine mss_cons (ms_set 2 sc_law_next.nd rfl (by first | exact .inl rfl | exact .inr rfl) (EX.to (ex_ix (ex_ix (ex_var 0 rfl rfl (.inl rfl)) ex_int (by walk_at "oix") (fun _ _ => rfl)) (ex_ix (ex_var 0 rfl rfl (.inl rfl)) ex_int (by walk_at "oix") (fun _ _ => rfl)) (by walk_at "oix") (fun _ _ => rfl)) ?_))
    refine mss_cons (ms_augix (ex_var 0 rfl rfl (.inl rfl)) ex_int (by walk_at "lk") (by walk_at "at") ex_int (by walk_at "iadd") (by walk_at "lk") (by walk_at "ixn") ?_)
    have hs2 : updL L s (.lst ([.dt (.list (σ.cs.map PyData.int)), .dt (.int σ.p), .dt (.int σ.a), .dt (.int σ.z)].set 1 (.dt (.int (σ.p + 1))))) s = some (.lst [.dt (.list (σ.cs.map PyData.int)), .dt (.int (σ.p + 1)), .dt (.int σ.a), .dt (.int σ.z)]) := updL_same
    refine mss_cons (ms_ifx (tx_cmp (ex_var 2 rfl rfl (.inl rfl)) (ex_bin ex_int ex_int (o_pow ⟨by decide, by decide, by decide⟩)) (by walk_at "oge") (nomark _)) (fun hT => ?_) (fun hF => ?_))
    · refine mss_cons (ms_setix (ex_var 2 rfl rfl (.inl rfl)) (ex_var 0 rfl rfl (.inl rfl)) ex_int (by walk_at "lk") (by walk_at "ixn") ?_)
      rw [if_pos (show cellOf σ ≥ 10 ^ 18 from of_decide_eq_true hT)] at ef
      exact mss_nil (mss_nil (fin _ _ (by rw [ef, updL_updL]; exact updL_same) (fun m => by rw [updL_updL, updL_updL])))
    · refine mss_cons (ms_setix (ex_bin (ex_callTy (ax_cons (ex_bin (ex_bin (ex_bin (ex_ix (ex_var 0 rfl rfl (.inl rfl)) ex_int (by walk_at "oix") (fun _ _ => rfl)) ex_int (o_mul (.inr (by decide)))) (ex_bin (ex_callTy (ax_cons (ex_var 2 rfl rfl (.inl rfl)) ax_nil) (by walk_at "c_int") (by rfl) T.m_int (by decide +kernel)) ex_int (o_mod (by decide))) (by walk_at "oadd")) ex_int (by walk_at "oadd")) ax_nil) (by walk_at "c_int") (by rfl) T.m_int (by decide +kernel)) ex_int (o_mod (by decide))) (ex_var 0 rfl rfl (.inl rfl)) ex_int (by walk_at "lk") (by walk_at "ixn") ?_)
      rw [if_neg (show ¬ cellOf σ ≥ 10 ^ 18 from of_decide_eq_false hF)] at ef
      exact mss_nil (mss_nil (fin _ _ (by rw [ef, updL_updL]; exact updL_same) (fun m => by rw [updL_updL, updL_updL])))
  · have ef : feed σ = σ := by
      refine if_neg fun h => ?_
      rw [List.length_map, decide_eq_true h.1, decide_eq_true h.2] at hF
      cases hF
    exact mss_nil (fin _ _ (by rw [ef]; exact hs) fun m => rfl)
theorem lits : (Str.ofString " '!\"#$&()*+,-./0123456789:;<=>?@ABCDEFGHIJKLMNOPQRSTUVWXYZ[\\]^_`" ++ Str.ofString "abcdefghijklmnopqrstuvwxyz{|}~\n" : Str) = tx tbl := by decide +kernel
def sp_char : Fs := fun as L Q _ => ∃ i, as = [.dt (.int i)] ∧ Q (.dt (.str (tx [chr i]))) L
theorem ok_char {f : Addr} {fd : FuncData} (F : Fun K "_law_char" "_law_char" s_law_char f fd) (T : Txt K mg) : FnOk P w K mg base CX0 1 f fd P_law_char (lift sp_char) := by
  refine fnok0 F sc_law_char (fun as L Q XC h => by obtain ⟨_, rfl, _⟩ := h; rfl) ?_
  intro cdv A outer s0 H E hr as L Q XC h
  obtain ⟨i, rfl, q⟩ := h
  have hz1 : (Str.ofString " '!\"#$&()*+,-./0123456789:;<=>?@ABCDEFGHIJKLMNOPQRSTUVWXYZ[\\]^_`").length + (Str.ofString "abcdefghijklmnopqrstuvwxyz{|}~\n").length ≤ sizeLine := by decide +kernel
  refine mss_cons (ms_set 1 sc_law_char.nd rfl (by first | exact .inl rfl | exact .inr rfl) (EX.to ex_str ?_))
  refine mss_cons (ms_set 1 sc_law_char.nd rfl (by first | exact .inl rfl | exact .inr rfl) (EX.to (ex_bin (ex_var 1 rfl rfl (.inl rfl)) ex_str (by walk_at "oadd")) ?_))
  show MSs _ _ _ _ [some (.dt (.int i)), some (.dt (.str (Str.ofString " '!\"#$&()*+,-./0123456789:;<=>?@ABCDEFGHIJKLMNOPQRSTUVWXYZ[\\]^_`" ++ Str.ofString "abcdefghijklmnopqrstuvwxyz{|}~\n")))] _
  rw [lits]
  have hz2 : (tx tbl).length ≤ sizeLine := by decide +kernel
  have hm : 0 ≤ i % 95 ∧ i % 95 < 95 := ⟨Int.emod_nonneg _ (by decide), Int.emod_lt_of_pos _ (by decide)⟩
  have hat : atI (tx tbl).cps.toList (i % 95) = some (chr i) := by
    unfold chr
    obtain ⟨j, hj⟩ : ∃ j : Nat, i % 95 = j := ⟨(i % 95).toNat, by omega⟩
    rw [hj, Int.toNat_natCast, tx_list]
    have hj2 : j < tbl.length := by show j < 95; omega
    rw [List.getD_eq_getElem?_getD, List.getElem?_eq_getElem hj2]
    exact atI_nat (List.getElem?_eq_getElem hj2)
  refine mss_cons (ms_ret (EX.to (ex_ix (ex_var 1 rfl rfl (.inl rfl)) (ex_bin (ex_callTy (ax_cons (ex_var 0 rfl rfl (.inl rfl)) ax_nil) (by walk_at "c_int") (by rfl) T.m_int (by decide +kernel)) ex_int (o_mod (by decide))) (by walk_at "oix") (fun _ _ => rfl)) ?_))
  exact q
end
end K09

set_option Elab.async false
set_option linter.all false
set_option maxRecDepth 100000
set_option maxHeartbeats 4000000
namespace K09
open PySem PySem.Spec PyProof.Rows L2 Cw
/-! ### small closers, each at its own key -/
local macro_rules | `(tactic| walk_at "oadd") => `(tactic| first | exact o_add | exact o_addS (by walk_at "sz") | exact o_cat (by walk_at "ll") (by walk_at "ll") (by walk_at "sz"))
local macro_rules | `(tactic| walk_at "osub") => `(tactic| exact o_sub)
local macro_rules | `(tactic| walk_at "omul") => `(tactic| first | exact o_mul (by walk_at "sd") | exact o_rep (by walk_at "ll") (by walk_at "sd") (by walk_at "sd") (by walk_at "sz"))
local macro_rules | `(tactic| walk_at "odiv") => `(tactic| first | exact o_div (by walk_at "sd") | exact o_divW (by walk_at "sd"))
local macro_rules | `(tactic| walk_at "olt") => `(tactic| exact o_lt)
local macro_rules | `(tactic| walk_at "ole") => `(tactic| exact o_le)
local macro_rules | `(tactic| walk_at "ogt") => `(tactic| exact o_gt)
local macro_rules | `(tactic| walk_at "oge") => `(tactic| exact o_ge)
local macro_rules | `(tactic| walk_at "oeq") => `(tactic| first | exact o_eqI | exact o_eqNI | exact o_eqS | exact o_eqB | exact o_eqR (Room.units (by assumption)) (by walk_at "dr") (by walk_at "dr") (by walk_at "sh") (by walk_at "sh"))
local macro_rules | `(tactic| walk_at "one") => `(tactic| first | exact o_neI | exact o_neS | exact o_neB | exact o_neR (Room.units (by assumption)) (by walk_at "dr") (by walk_at "dr") (by walk_at "sh") (by walk_at "sh"))
local macro_rules | `(tactic| walk_at "ois") => `(tactic| exact o_isN)
local macro_rules | `(tactic| walk_at "oisn") => `(tactic| exact o_notN)
local macro_rules | `(tactic| walk_at "iadd") => `(tactic| exact o_iadd)
local macro_rules | `(tactic| walk_at "isub") => `(tactic| exact o_isub)
local macro_rules | `(tactic| walk_at "lk") => `(tactic| first | assumption | exact updL_same | (refine Eq.trans (updL_ne (by first | assumption | (apply Ne.symm; assumption))) ?_; walk_at "lk"))
local macro_rules | `(tactic| walk_at "ll") => `(tactic| first | exact LL.dt | assumption | exact LL.h (by walk_at "lk"))
local macro_rules | `(tactic| walk_at "lr") => `(tactic| first | exact LL.dt | assumption | exact LR.h (by walk_at "lk"))
local macro_rules | `(tactic| walk_at "dr") => `(tactic| first | exact DD.dt | assumption | exact DD.ofLL (by walk_at "lk"))
local macro_rules | `(tactic| walk_at "sd") => `(tactic| first | omega | assumption | decide)
local macro_rules | `(tactic| walk_at "rg") => `(tactic| first | omega | assumption | decide)
local macro_rules | `(tactic| walk_at "sz") => `(tactic| first | assumption | (rw [sizeLine_eq]; first | omega | (simp; omega)))
local macro_rules | `(tactic| walk_at "osl") => `(tactic| first | exact s_str (by walk_at "sz") | exact s_lst (by walk_at "ll"))
local macro_rules | `(tactic| walk_at "c_len") => `(tactic| first | exact c_lenT | exact c_lenS (by walk_at "sz") | exact c_lenL (by walk_at "ll") | exact c_lenR (by walk_at "lr") | exact c_lenF (by assumption))
local macro_rules | `(tactic| walk_at "c_int") => `(tactic| first | exact c_int | exact c_intB)
local macro_rules | `(tactic| walk_at "c_min") => `(tactic| exact c_min rfl)
local macro_rules | `(tactic| walk_at "c_max") => `(tactic| exact c_max rfl)
local macro_rules | `(tactic| walk_at "c_ord") => `(tactic| exact c_ord (by walk_at "sz"))
local macro_rules | `(tactic| walk_at "c_list") => `(tactic| first | exact c_listT | exact c_list (by walk_at "ll") | exact c_listF (by assumption))
local macro_rules | `(tactic| walk_at "c_tuple") => `(tactic| first | exact c_tupleT | exact c_tuple (by walk_at "ll"))
local macro_rules | `(tactic| walk_at "c_isinstance") => `(tactic| exact c_isi (by walk_at "dr") (by decide))
local macro_rules | `(tactic| walk_at "few") => `(tactic| first | decide | exact Nat.le_of_ble_eq_true rfl | (rw [sizeLine_eq]; exact Nat.le_of_ble_eq_true rfl) | assumption)
local macro_rules | `(tactic| walk_at "fl") => `(tactic| first | assumption | rfl)
local macro_rules | `(tactic| walk_at "nf") => `(tactic| first | rfl | decide +kernel)
local macro_rules | `(tactic| walk_at "at") => `(tactic| first | assumption | rfl | exact atI_nat (by assumption))
local macro_rules | `(tactic| walk_at "oix") => `(tactic| first | exact i_tup (by walk_at "at") | exact i_lst (by walk_at "ll") (by walk_at "at") | exact i_lstR (by walk_at "lr") (by walk_at "at") | exact i_str (by walk_at "sz") (by walk_at "at") | exact i_lstF (by assumption) (by walk_at "at"))
local macro_rules | `(tactic| walk_at "ixn") => `(tactic| first | assumption | rfl)
local macro_rules | `(tactic| walk_at "okd") => `(tactic| first | rfl | assumption)
local macro_rules | `(tactic| walk_at "wr") => `(tactic| first | assumption | omega)
local macro_rules | `(tactic| walk_at "shn") => `(tactic| first | exact fun z => absurd z (by assumption) | exact fun z => absurd rfl z | exact fun _ => ⟨rfl, rfl⟩)
local macro_rules | `(tactic| walk_at "onin") => `(tactic| exact o_notIn2S)
local macro_rules | `(tactic| walk_at "okp") => `(tactic| first | assumption | exact nxt_p (by walk_at "okp"))

/-! ### where lines begin -/
/-- a sign that can begin a chunk -/
def sg (c : Nat) : Bool := !(decide (c = 32) || decide (c = 10))
def starts : Bool → Nat → List Nat → List Nat
  | _, _, [] => []
  | b, p, c :: r => (if b && sg c then [p] else []) ++ starts (decide (c = 10)) (p + 1) r
def lastNl : Bool → List Nat → Bool
  | b, [] => b
  | _, c :: r => lastNl (decide (c = 10)) r
theorem starts_app : ∀ (b : Bool) (p : Nat) (x y : List Nat), starts b p (x ++ y) = starts b p x ++ starts (lastNl b x) (p + x.length) y
  | b, p, [], y => rfl
  | b, p, c :: r, y => by
    show _ ++ starts _ (p + 1) (r ++ y) = _
    rw [starts_app (decide (c = 10)) (p + 1) r y]
    show _ = (_ ++ starts _ _ r) ++ starts (lastNl _ r) (p + (r.length + 1)) y
    rw [List.append_assoc, show p + 1 + r.length = p + (r.length + 1) by omega]
theorem lastNl_app : ∀ (b : Bool) (x y : List Nat), lastNl b (x ++ y) = lastNl (lastNl b x) y
  | b, [], y => rfl
  | b, c :: r, y => lastNl_app (decide (c = 10)) r y
theorem starts_plain : ∀ (p : Nat) (x : List Nat), (∀ c ∈ x, c ≠ 10) → starts false p x = [] ∧ lastNl false x = false
  | p, [], _ => ⟨rfl, rfl⟩
  | p, c :: r, h => by
    have e : decide (c = 10) = false := decide_eq_false (h c List.mem_cons_self)
    have ih := starts_plain (p + 1) r fun d hd => h d (List.mem_cons_of_mem _ hd)
    refine ⟨?_, ?_⟩
    · show [] ++ starts _ (p + 1) r = []
      rw [e, ih.1]
      rfl
    · show lastNl _ r = false
      rw [e]
      exact ih.2
/-- the last sign but one ends a line -/
theorem lastNl_at {x : List Nat} {i c : Nat} (h : x[i]? = some c) : lastNl true (x.take (i + 1)) = decide (c = 10) := by
  rw [take_snoc h, lastNl_app]
  rfl
/-! ### lines -/
def pick9 (i : Int) : Int := if i = 3 then 90 else 9
theorem pick9_b (i : Int) : 0 < pick9 i ∧ pick9 i ≤ 90 := by unfold pick9; split <;> omega
theorem pick9_at {i : Int} (h : 0 ≤ i ∧ i < 4) : atI [PyData.int 9, .int 9, .int 9, .int 90] i = some (.int (pick9 i)) := by
  have : i = 0 ∨ i = 1 ∨ i = 2 ∨ i = 3 := by omega
  rcases this with rfl | rfl | rfl | rfl <;> rfl
def lineN : Nat → Sg → List Nat × Sg
  | 0, σ => ([], σ)
  | n + 1, σ => ((lineN n σ).1 ++ [chr (nxt (lineN n σ).2 94).1], (nxt (lineN n σ).2 94).2)
def line (σ : Sg) : List Nat × Sg := lineN (nxt (nxt σ 4).2 (pick9 (nxt σ 4).1)).1.toNat (nxt (nxt σ 4).2 (pick9 (nxt σ 4).1)).2
theorem lineN_p {σ : Sg} (h : 0 ≤ σ.p) : ∀ n, 0 ≤ (lineN n σ).2.p
  | 0 => h
  | n + 1 => nxt_p (lineN_p h n)
theorem line_p {σ : Sg} (h : 0 ≤ σ.p) : 0 ≤ (line σ).2.p := lineN_p (nxt_p (nxt_p h)) _
theorem lineN_len (σ : Sg) : ∀ n, (lineN n σ).1.length = n
  | 0 => rfl
  | n + 1 => by
    show ((lineN n σ).1 ++ [_]).length = _
    rw [List.length_append, lineN_len σ n]
    rfl
theorem line_len (σ : Sg) : (line σ).1.length < 90 := by
  unfold line
  rw [lineN_len]
  have h := nxt_b (nxt σ 4).2 (pick9_b (nxt σ 4).1).1
  have := (pick9_b (nxt σ 4).1).2
  omega
theorem lineN_no (σ : Sg) : ∀ n, ∀ c ∈ (lineN n σ).1, c ≠ 10
  | 0, _, h => nomatch h
  | n + 1, c, h => by
    have h : c ∈ (lineN n σ).1 ++ [chr (nxt (lineN n σ).2 94).1] := h
    rcases List.mem_append.mp h with h | h
    · exact lineN_no σ n c h
    · rw [List.mem_singleton.mp h]
      have hb := nxt_b (lineN n σ).2 (show (0 : Int) < 94 by decide)
      exact chr_1 hb.1 hb.2
theorem line_no (σ : Sg) : ∀ c ∈ (line σ).1, c ≠ 10 := lineN_no _ _
def linesN : Nat → Sg → List Nat × Sg
  | 0, σ => ([], σ)
  | n + 1, σ => if (nxt (linesN n σ).2 3).1 > 0 then ((linesN n σ).1 ++ ([32] ++ ((line (nxt (linesN n σ).2 3).2).1 ++ [10])), (line (nxt (linesN n σ).2 3).2).2) else ((linesN n σ).1 ++ [10], (nxt (linesN n σ).2 3).2)
theorem linesN_p {σ : Sg} (h : 0 ≤ σ.p) : ∀ n, 0 ≤ (linesN n σ).2.p
  | 0 => h
  | n + 1 => by
    unfold linesN
    split
    · exact line_p (nxt_p (linesN_p h n))
    · exact nxt_p (linesN_p h n)
theorem linesN_len (σ : Sg) : ∀ n, (linesN n σ).1.length ≤ 92 * n
  | 0 => Nat.le_refl _
  | n + 1 => by
    have ih := linesN_len σ n
    have hl := line_len (nxt (linesN n σ).2 3).2
    unfold linesN
    split
    · show ((linesN n σ).1 ++ _).length ≤ _
      rw [List.length_append, List.length_append, List.length_append]
      simp only [List.length_singleton]
      omega
    · show ((linesN n σ).1 ++ _).length ≤ _
      rw [List.length_append, List.length_singleton]
      omega
theorem linesN_st (σ : Sg) : ∀ n p, starts true p (linesN n σ).1 = [] ∧ lastNl true (linesN n σ).1 = true
  | 0, p => ⟨rfl, rfl⟩
  | n + 1, p => by
    have ih := linesN_st σ n
    unfold linesN
    split
    · have hl := starts_plain (p + (linesN n σ).1.length + 1) _ (line_no (nxt (linesN n σ).2 3).2)
      refine ⟨?_, ?_⟩
      · show starts true p ((linesN n σ).1 ++ _) = []
        rw [starts_app, (ih p).1, (ih p).2, List.nil_append, starts_app]
        show [] ++ starts false _ _ = []
        rw [List.nil_append, starts_app]
        have e := starts_plain (p + (linesN n σ).1.length + [32].length) _ (line_no (nxt (linesN n σ).2 3).2)
        rw [e.1, e.2]
        rfl
      · show lastNl true ((linesN n σ).1 ++ _) = true
        rw [lastNl_app, lastNl_app, lastNl_app]
        rfl
    · refine ⟨?_, ?_⟩
      · show starts true p ((linesN n σ).1 ++ _) = []
        rw [starts_app, (ih p).1, (ih p).2]
        rfl
      · show lastNl true ((linesN n σ).1 ++ _) = true
        rw [lastNl_app]
        rfl
theorem es : Str.ofString "" = tx [] := by decide +kernel
theorem e32 : Str.ofString " " = tx [32] := by decide +kernel
theorem e10 : Str.ofString "\n" = tx [10] := by decide +kernel
local macro_rules | `(tactic| walk_at "okp") => `(tactic| first | assumption | exact nxt_p (by walk_at "okp") | exact line_p (by walk_at "okp") | exact linesN_p (by walk_at "okp") _)
section
variable {P : Program} {w : World} {K : PySem.W.Frag} {mg : Str → Option Value} {base : Heap}
def sp_line : Fs := fun as L Q _ => ∃ s σ, as = [.vl (.ref s)] ∧ L s = some (enc σ) ∧ 0 ≤ σ.p ∧ Q (.dt (.str (tx (line σ).1))) (updL L s (enc (line σ).2))
theorem ok_line {f : Addr} {fd : FuncData} (F : Fun K "_law_line" "_law_line" s_law_line f fd) (T : Txt K mg) (G_law_next : FnM P w K mg base 1 "_law_next" P_law_next sp_next) (G_law_char : FnM P w K mg base 1 "_law_char" P_law_char sp_char) : FnOk P w K mg base CX0 2 f fd P_law_line (lift sp_line) := by
  refine fnok0 F sc_law_line (fun as L Q XC h => by obtain ⟨_, _, rfl, _⟩ := h; rfl) ?_
  intro cdv A outer s0 H E hr as L Q XC h
  obtain ⟨s, σ, rfl, hs, hp, q⟩ := h
  refine mss_cons (ms_set 1 sc_law_line.nd rfl (by first | exact .inl rfl | exact .inr rfl) (EX.to ex_str ?_))
  have hat := pick9_at (nxt_b σ (show (0 : Int) < 4 by decide))
  have hp9 := pick9_b (nxt σ 4).1
  have hp91 := hp9.1
  have hp92 : pick9 (nxt σ 4).1 ≤ 1000000 := by omega
  have hb := nxt_b (nxt σ 4).2 hp91
  have hb1 : -(2 ^ 62) ≤ (nxt (nxt σ 4).2 (pick9 (nxt σ 4).1)).1 := by omega
  have hb2 : (nxt (nxt σ 4).2 (pick9 (nxt σ 4).1)).1 < 2 ^ 62 := by omega
  refine mss_cons (ms_for (tgt := (.n 2)) rfl (ix_range1 (ax_cons (ex_call G_law_next (hr.mono (by decide)) (by rfl) (ax_cons (ex_var 0 rfl rfl (.inl rfl)) (ax_cons (ex_ix (ex_lst (ad_cons ex_int (ad_cons ex_int (ad_cons ex_int (ad_cons ex_int ad_nil)))) (by walk_at "few")) (ex_call G_law_next (hr.mono (by decide)) (by rfl) (ax_cons (ex_var 0 rfl rfl (.inl rfl)) (ax_cons ex_int ax_nil)) ⟨_, _, _, rfl, by walk_at "lk", by walk_at "okp", by walk_at "sd", by walk_at "sd", rfl, rfl⟩) (by walk_at "oix") (fun _ _ => rfl)) ax_nil)) ⟨_, _, _, rfl, by walk_at "lk", by walk_at "okp", by walk_at "sd", by walk_at "sd", rfl, rfl⟩) ax_nil) (by walk_at "sd") (by walk_at "sd") (by rfl) T.m_range) (pgn_name 2 sc_law_line.nd rfl (by first | exact .inl rfl | exact .inr rfl)) (fun i ρ L' => ∃ k, ρ = [some (.vl (.ref s)), some (.dt (.str (tx (lineN i (nxt (nxt σ 4).2 (pick9 (nxt σ 4).1)).2).1))), k] ∧ L' = updL L s (enc (lineN i (nxt (nxt σ 4).2 (pick9 (nxt σ 4).1)).2).2))
    ⟨none, by rw [show Str.ofString "" = tx [] from es]; rfl, updL_updL⟩ (fun _ _ _ _ _ => trivial) ?_ ?_)
  · intro i y ρ L' hy hI
    obtain ⟨k, rfl, rfl⟩ := hI
    obtain ⟨hi, rfl⟩ := rgY_at hy
    refine ⟨_, rfl, ?_⟩
    have hpp := lineN_p (nxt_p (l := pick9 (nxt σ 4).1) (nxt_p (l := 4) hp)) i
    have hl := lineN_len (nxt (nxt σ 4).2 (pick9 (nxt σ 4).1)).2 i
    have hz : (tx (lineN i (nxt (nxt σ 4).2 (pick9 (nxt σ 4).1)).2).1).length + (tx [chr (nxt (lineN i (nxt (nxt σ 4).2 (pick9 (nxt σ 4).1)).2).2 94).1]).length ≤ sizeLine := by
      rw [tx_len, tx_len, sizeLine_eq, hl, List.length_singleton]
      omega
    refine mss_cons (ms_set 1 sc_law_line.nd rfl (by first | exact .inl rfl | exact .inr rfl) (EX.to (ex_bin (ex_var 1 rfl rfl (.inl rfl)) (ex_call G_law_char (hr.mono (by decide)) (by rfl) (ax_cons (ex_call G_law_next (hr.mono (by decide)) (by rfl) (ax_cons (ex_var 0 rfl rfl (.inl rfl)) (ax_cons ex_int ax_nil)) ⟨_, _, _, rfl, by walk_at "lk", by walk_at "okp", by walk_at "sd", by walk_at "sd", rfl, rfl⟩) ax_nil) ⟨_, rfl, rfl, rfl⟩) (by walk_at "oadd")) ?_))
    refine mss_nil ⟨some (.dt (.int (0 + (i : Int)))), ?_, updL_updL⟩
    rw [tx_cat]
    rfl
  · intro ρ L' hI
    obtain ⟨k, rfl, rfl⟩ := hI
    rw [rgY_len]
    refine mss_cons (ms_ret (EX.to (ex_var 1 rfl rfl (.inl rfl)) ?_))
    exact q
def sp_lines : Fs := fun as L Q _ => ∃ s σ n, as = [.vl (.ref s), .dt (.int n)] ∧ L s = some (enc σ) ∧ 0 ≤ σ.p ∧ 0 ≤ n ∧ n ≤ 1000 ∧ Q (.dt (.str (tx (linesN n.toNat σ).1))) (updL L s (enc (linesN n.toNat σ).2))
theorem ok_lines {f : Addr} {fd : FuncData} (F : Fun K "_law_lines" "_law_lines" s_law_lines f fd) (T : Txt K mg) (G_law_next : FnM P w K mg base 1 "_law_next" P_law_next sp_next) (G_law_line : FnM P w K mg base 2 "_law_line" P_law_line sp_line) : FnOk P w K mg base CX0 3 f fd P_law_lines (lift sp_lines) := by
  refine fnok0 F sc_law_lines (fun as L Q XC h => by obtain ⟨_, _, _, rfl, _⟩ := h; rfl) ?_
  intro cdv A outer s0 H E hr as L Q XC h
  obtain ⟨s, σ, n, rfl, hs, hp, hn0, hn1, q⟩ := h
  refine mss_cons (ms_set 2 sc_law_lines.nd rfl (by first | exact .inl rfl | exact .inr rfl) (EX.to ex_str ?_))
  refine mss_cons (ms_for (tgt := (.n 3)) rfl (ix_range1 (ax_cons (ex_var 1 rfl rfl (.inl rfl)) ax_nil) (by walk_at "sd") (by walk_at "sd") (by rfl) T.m_range) (pgn_name 3 sc_law_lines.nd rfl (by first | exact .inl rfl | exact .inr rfl)) (fun i ρ L' => ∃ k, ρ = [some (.vl (.ref s)), some (.dt (.int n)), some (.dt (.str (tx (linesN i σ).1))), k] ∧ L' s = some (enc (linesN i σ).2) ∧ ∀ m, updL L' s m = updL L s m)
    ⟨none, by rw [show Str.ofString "" = tx [] from es]; rfl, hs, fun _ => rfl⟩ (fun _ _ _ _ _ => trivial) ?_ ?_)
  · intro i y ρ L' hy hI
    obtain ⟨k, rfl, hs, eL⟩ := hI
    obtain ⟨hi, rfl⟩ := rgY_at hy
    refine ⟨_, rfl, ?_⟩
    have hpp := linesN_p hp i
    have hl := linesN_len σ i
    have en : linesN (i + 1) σ = if (nxt (linesN i σ).2 3).1 > 0 then ((linesN i σ).1 ++ ([32] ++ ((line (nxt (linesN i σ).2 3).2).1 ++ [10])), (line (nxt (linesN i σ).2 3).2).2) else ((linesN i σ).1 ++ [10], (nxt (linesN i σ).2 3).2) := rfl
    have hll := line_len (nxt (linesN i σ).2 3).2
    generalize linesN i σ = r at *
    refine mss_cons (ms_ifx (tx_cmp (ex_call G_law_next (hr.mono (by decide)) (by rfl) (ax_cons (ex_var 0 rfl rfl (.inl rfl)) (ax_cons ex_int ax_nil)) ⟨_, _, _, rfl, by walk_at "lk", by walk_at "okp", by walk_at "sd", by walk_at "sd", rfl, rfl⟩) ex_int (by walk_at "ogt") (nomark _)) (fun hT => ?_) (fun hF => ?_))
    · rw [if_pos (of_decide_eq_true hT)] at en
      have hz1 : (tx r.1).length + (Str.ofString " ").length ≤ sizeLine := by
        rw [e32, tx_len, tx_len, sizeLine_eq, List.length_singleton]
        omega
      have hz2 : (tx r.1 ++ Str.ofString " ").length + (tx (line (nxt r.2 3).2).1).length ≤ sizeLine := by
        rw [e32, tx_cat, tx_len, tx_len, sizeLine_eq, List.length_append, List.length_singleton]
        omega
      refine mss_cons (ms_set 2 sc_law_lines.nd rfl (by first | exact .inl rfl | exact .inr rfl) (EX.to (ex_bin (ex_bin (ex_var 2 rfl rfl (.inl rfl)) ex_str (by walk_at "oadd")) (ex_call G_law_line (hr.mono (by decide)) (by rfl) (ax_cons (ex_var 0 rfl rfl (.inl rfl)) ax_nil) ⟨_, _, rfl, by walk_at "lk", by walk_at "okp", rfl, rfl⟩) (by walk_at "oadd")) ?_))
      have hz3 : (tx r.1 ++ Str.ofString " " ++ tx (line (nxt r.2 3).2).1).length + (Str.ofString "\n").length ≤ sizeLine := by
        rw [e32, e10, tx_cat, tx_cat, tx_len, tx_len, sizeLine_eq, List.length_append, List.length_append, List.length_singleton, List.length_singleton]
        omega
      refine mss_nil (mss_cons (ms_set 2 sc_law_lines.nd rfl (by first | exact .inl rfl | exact .inr rfl) (EX.to (ex_bin (ex_var 2 rfl rfl (.inl rfl)) ex_str (by walk_at "oadd")) ?_)))
      refine mss_nil ⟨some (.dt (.int (0 + (i : Int)))), ?_, ?_, fun m => by rw [updL_updL, updL_updL, eL]⟩
      · rw [en, e32, e10, tx_cat, tx_cat, tx_cat, List.append_assoc, List.append_assoc]
        rfl
      · rw [en]
        exact updL_same
    · rw [if_neg (of_decide_eq_false hF)] at en
      have hz3 : (tx r.1).length + (Str.ofString "\n").length ≤ sizeLine := by
        rw [e10, tx_len, tx_len, sizeLine_eq, List.length_singleton]
        omega
      refine mss_nil (mss_cons (ms_set 2 sc_law_lines.nd rfl (by first | exact .inl rfl | exact .inr rfl) (EX.to (ex_bin (ex_var 2 rfl rfl (.inl rfl)) ex_str (by walk_at "oadd")) ?_)))
      refine mss_nil ⟨some (.dt (.int (0 + (i : Int)))), ?_, ?_, fun m => by rw [updL_updL, eL]⟩
      · rw [en, e10, tx_cat]
        rfl
      · rw [en]
        exact updL_same
  · intro ρ L' hI
    obtain ⟨k, rfl, hs, eL⟩ := hI
    rw [rgY_len] at hs ⊢
    refine mss_cons (ms_ret (EX.to (ex_var 2 rfl rfl (.inl rfl)) ?_))
    have e : L' = updL L' s (enc (linesN n.toNat σ).2) := by
      funext a
      by_cases ha : a = s
      · subst ha
        rw [updL_same]
        exact hs
      · rw [updL_ne ha]
    rw [e, eL]
    exact q
end
end K09

set_option Elab.async false
set_option linter.all false
set_option maxRecDepth 100000
set_option maxHeartbeats 4000000
namespace K09
open PySem PySem.Spec PyProof.Rows L2 Cw
/-! ### small closers, each at its own key -/
local macro_rules | `(tactic| walk_at "oadd") => `(tactic| first | exact o_add | exact o_addS (by walk_at "sz") | exact o_cat (by walk_at "ll") (by walk_at "ll") (by walk_at "sz"))
local macro_rules | `(tactic| walk_at "osub") => `(tactic| exact o_sub)
local macro_rules | `(tactic| walk_at "omul") => `(tactic| first | exact o_mul (by walk_at "sd") | exact o_rep (by walk_at "ll") (by walk_at "sd") (by walk_at "sd") (by walk_at "sz"))
local macro_rules | `(tactic| walk_at "odiv") => `(tactic| first | exact o_div (by walk_at "sd") | exact o_divW (by walk_at "sd"))
local macro_rules | `(tactic| walk_at "olt") => `(tactic| exact o_lt)
local macro_rules | `(tactic| walk_at "ole") => `(tactic| exact o_le)
local macro_rules | `(tactic| walk_at "ogt") => `(tactic| exact o_gt)
local macro_rules | `(tactic| walk_at "oge") => `(tactic| exact o_ge)
local macro_rules | `(tactic| walk_at "oeq") => `(tactic| first | exact o_eqI | exact o_eqNI | exact o_eqS | exact o_eqB | exact o_eqR (Room.units (by assumption)) (by walk_at "dr") (by walk_at "dr") (by walk_at "sh") (by walk_at "sh"))
local macro_rules | `(tactic| walk_at "one") => `(tactic| first | exact o_neI | exact o_neS | exact o_neB | exact o_neR (Room.units (by assumption)) (by walk_at "dr") (by walk_at "dr") (by walk_at "sh") (by walk_at "sh"))
local macro_rules | `(tactic| walk_at "ois") => `(tactic| exact o_isN)
local macro_rules | `(tactic| walk_at "oisn") => `(tactic| exact o_notN)
local macro_rules | `(tactic| walk_at "iadd") => `(tactic| exact o_iadd)
local macro_rules | `(tactic| walk_at "isub") => `(tactic| exact o_isub)
local macro_rules | `(tactic| walk_at "lk") => `(tactic| first | assumption | exact updL_same | (refine Eq.trans (updL_ne (by first | assumption | (apply Ne.symm; assumption))) ?_; walk_at "lk"))
local macro_rules | `(tactic| walk_at "ll") => `(tactic| first | exact LL.dt | assumption | exact LL.h (by walk_at "lk"))
local macro_rules | `(tactic| walk_at "lr") => `(tactic| first | exact LL.dt | assumption | exact LR.h (by walk_at "lk"))
local macro_rules | `(tactic| walk_at "dr") => `(tactic| first | exact DD.dt | assumption | exact DD.ofLL (by walk_at "lk"))
local macro_rules | `(tactic| walk_at "sd") => `(tactic| first | omega | assumption | decide)
local macro_rules | `(tactic| walk_at "rg") => `(tactic| first | omega | assumption | decide)
local macro_rules | `(tactic| walk_at "sz") => `(tactic| first | assumption | (rw [sizeLine_eq]; first | omega | (simp; omega)))
local macro_rules | `(tactic| walk_at "osl") => `(tactic| first | exact s_str (by walk_at "sz") | exact s_lst (by walk_at "ll"))
local macro_rules | `(tactic| walk_at "c_len") => `(tactic| first | exact c_lenT | exact c_lenS (by walk_at "sz") | exact c_lenL (by walk_at "ll") | exact c_lenR (by walk_at "lr") | exact c_lenF (by assumption))
local macro_rules | `(tactic| walk_at "c_int") => `(tactic| first | exact c_int | exact c_intB)
local macro_rules | `(tactic| walk_at "c_min") => `(tactic| exact c_min rfl)
local macro_rules | `(tactic| walk_at "c_max") => `(tactic| exact c_max rfl)
local macro_rules | `(tactic| walk_at "c_ord") => `(tactic| exact c_ord (by walk_at "sz"))
local macro_rules | `(tactic| walk_at "c_list") => `(tactic| first | exact c_listT | exact c_list (by walk_at "ll") | exact c_listF (by assumption))
local macro_rules | `(tactic| walk_at "c_tuple") => `(tactic| first | exact c_tupleT | exact c_tuple (by walk_at "ll"))
local macro_rules | `(tactic| walk_at "c_isinstance") => `(tactic| exact c_isi (by walk_at "dr") (by decide))
local macro_rules | `(tactic| walk_at "few") => `(tactic| first | decide | exact Nat.le_of_ble_eq_true rfl | (rw [sizeLine_eq]; exact Nat.le_of_ble_eq_true rfl) | assumption)
local macro_rules | `(tactic| walk_at "fl") => `(tactic| first | assumption | rfl)
local macro_rules | `(tactic| walk_at "nf") => `(tactic| first | rfl | decide +kernel)
local macro_rules | `(tactic| walk_at "at") => `(tactic| first | assumption | rfl | exact atI_nat (by assumption))
local macro_rules | `(tactic| walk_at "oix") => `(tactic| first | exact i_tup (by walk_at "at") | exact i_lst (by walk_at "ll") (by walk_at "at") | exact i_lstR (by walk_at "lr") (by walk_at "at") | exact i_str (by walk_at "sz") (by walk_at "at") | exact i_lstF (by assumption) (by walk_at "at"))
local macro_rules | `(tactic| walk_at "ixn") => `(tactic| first | assumption | rfl)
local macro_rules | `(tactic| walk_at "okd") => `(tactic| first | rfl | assumption)
local macro_rules | `(tactic| walk_at "wr") => `(tactic| first | assumption | omega)
local macro_rules | `(tactic| walk_at "shn") => `(tactic| first | exact fun z => absurd z (by assumption) | exact fun z => absurd rfl z | exact fun _ => ⟨rfl, rfl⟩)
local macro_rules | `(tactic| walk_at "onin") => `(tactic| exact o_notIn2S)
local macro_rules | `(tactic| walk_at "okp") => `(tactic| first | assumption | exact nxt_p (by walk_at "okp"))

/-- data without dicts, at most n deep -/
def okD : Nat → PyData → Bool
  | _, .none => true
  | _, .bool _ => true
  | _, .int _ => true
  | _, .str _ => true
  | n + 1, .list ds => ds.all (okD n)
  | n + 1, .tuple ds => ds.all (okD n)
  | _, _ => false
section
variable {P : Program} {w : World} {K : PySem.W.Frag} {mg : Str → Option Value} {base : Heap}
def sp_same (n : Nat) : Fs := fun as L Q _ => ∃ r r' d, as = [r, r'] ∧ DD L r d ∧ DD L r' d ∧ okD n d = true ∧ Q (.dt (.bool true)) L
theorem same_len (n : Nat) : ∀ as L Q XC, sp_same n as L Q XC → as.length = P_law_same.length := fun as L Q XC h => by obtain ⟨c, _, _, rfl, _⟩ := h; rfl
theorem pat_of {L : Led} {rs : List Rv} {ds : List PyData} {i : Nat} (h : Paired (DD L) rs ds) (hi : i < ds.length) : ∃ r d, rs[i]? = some r ∧ ds[i]? = some d ∧ DD L r d ∧ d ∈ ds := by
  obtain ⟨r, h1, h2⟩ := pget h (List.getElem?_eq_getElem hi)
  exact ⟨r, _, h1, List.getElem?_eq_getElem hi, h2, List.getElem_mem hi⟩
theorem body_same {n : Nat} {f : Addr} {fd : FuncData} (F : Fun K "_law_same" "_law_same" s_law_same f fd) (T : Txt K mg)
    (G : ∀ m, n = m + 1 → FnM P w K mg base (m + 1) "_law_same" P_law_same (sp_same m)) : FnOk P w K mg base CX0 (n + 1) f fd P_law_same (lift (sp_same n)) := by
  refine fnok0 F sc_law_same (same_len _) ?_
  intro cdv A outer s H E hr as L Q XC h
  obtain ⟨r, r', d, rfl, h1, h2, ok, q⟩ := h
  have hr' := hr
  cases d with
  | list ds =>
    obtain ⟨m, rfl⟩ : ∃ m, n = m + 1 := by
      cases n with
      | zero => cases ok
      | succ m => exact ⟨m, rfl⟩
    have G_law_same := G m rfl
    obtain ⟨rs, l1, p1⟩ := h1.lists
    obtain ⟨rs', l2, p2⟩ := h2.lists
    have n1 := Paired.length p1
    have n2 := Paired.length p2
    refine MSs.len 1 rfl l2 fun hz => ?_
    have hz2 : (rs'.length : Int) < 2 ^ 62 := by rw [sizeLine_eq] at hz; omega
    have okd : ∀ d ∈ ds, okD m d = true := List.all_eq_true.mp ok
    have hnn : isNone r' = false := by cases h2 <;> rfl
    refine mss_cons (ms_ifx (tx_cmp (ex_var 1 rfl rfl (.inl rfl)) ex_non (by walk_at "ois") (nomark _)) (fun hT => ?_) (fun hF => ?_))
    · rw [hnn] at hT; cases hT
    refine mss_nil (mss_cons (ms_ifx (tx_val (ex_callB (ax_cons (ex_var 1 rfl rfl (.inl rfl)) (ax_cons (ex_type (T := "bool") (by rfl) T.m_bool (by decide +kernel)) ax_nil)) (by walk_at "c_isinstance") (by rfl) T.m_isinstance (by decide +kernel))) (fun hT => ?_) (fun hF => ?_)))
    · cases hT
    refine mss_nil (mss_cons (ms_ifx (tx_val (ex_callB (ax_cons (ex_var 1 rfl rfl (.inl rfl)) (ax_cons (ex_type (T := "int") (by rfl) T.m_int (by decide +kernel)) ax_nil)) (by walk_at "c_isinstance") (by rfl) T.m_isinstance (by decide +kernel))) (fun hT => ?_) (fun hF => ?_)))
    · cases hT
    refine mss_nil (mss_cons (ms_ifx (tx_val (ex_callB (ax_cons (ex_var 1 rfl rfl (.inl rfl)) (ax_cons (ex_type (T := "str") (by rfl) T.m_str (by decide +kernel)) ax_nil)) (by walk_at "c_isinstance") (by rfl) T.m_isinstance (by decide +kernel))) (fun hT => ?_) (fun hF => ?_)))
    · cases hT
    refine mss_nil (mss_cons (ms_ifx (tx_w (wx_and (tx_val (ex_callB (ax_cons (ex_var 1 rfl rfl (.inl rfl)) (ax_cons (ex_type (T := "tuple") (by rfl) T.m_tuple (by decide +kernel)) ax_nil)) (by walk_at "c_isinstance") (by rfl) T.m_isinstance (by decide +kernel))) (fun _ => (wx_and1 (tx_not (tx_val (ex_callB (ax_cons (ex_var 0 rfl rfl (.inl rfl)) (ax_cons (ex_type (T := "tuple") (by rfl) T.m_tuple (by decide +kernel)) ax_nil)) (by walk_at "c_isinstance") (by rfl) T.m_isinstance (by decide +kernel)))))))) (fun hT => ?_) (fun hF => ?_)))
    · cases hT
    refine mss_nil (mss_cons (ms_ifx (tx_w (wx_and (tx_val (ex_callB (ax_cons (ex_var 1 rfl rfl (.inl rfl)) (ax_cons (ex_type (T := "list") (by rfl) T.m_list (by decide +kernel)) ax_nil)) (by walk_at "c_isinstance") (by rfl) T.m_isinstance (by decide +kernel))) (fun _ => (wx_and1 (tx_not (tx_val (ex_callB (ax_cons (ex_var 0 rfl rfl (.inl rfl)) (ax_cons (ex_type (T := "list") (by rfl) T.m_list (by decide +kernel)) ax_nil)) (by walk_at "c_isinstance") (by rfl) T.m_isinstance (by decide +kernel)))))))) (fun hT => ?_) (fun hF => ?_)))
    · cases hT
    refine mss_nil (mss_cons (ms_ifx (tx_cmp (ex_callB (ax_cons (ex_var 0 rfl rfl (.inl rfl)) ax_nil) (by walk_at "c_len") (by rfl) T.m_len PySem.boot_len) (ex_callB (ax_cons (ex_var 1 rfl rfl (.inl rfl)) ax_nil) (by walk_at "c_len") (by rfl) T.m_len PySem.boot_len) (by walk_at "one") (nomark _)) (fun hT => ?_) (fun hF => ?_)))
    · rw [n1, n2, decide_eq_true rfl] at hT
      cases hT
    refine mss_nil (mss_cons (ms_for (tgt := (.n 2)) rfl (ix_range1 (ax_cons (ex_callB (ax_cons (ex_var 1 rfl rfl (.inl rfl)) ax_nil) (c_lenR l2) (by rfl) T.m_len PySem.boot_len) ax_nil) (by walk_at "sd") hz2 (by rfl) T.m_range) (pgn_name 2 sc_law_same.nd rfl (by first | exact .inl rfl | exact .inr rfl)) (fun i ρ L' => ∃ y, ρ = [some r, some r', y] ∧ L' = L) ⟨none, rfl, rfl⟩ (fun _ _ _ _ _ => trivial) ?_ ?_))
    · intro i y ρ L' hy inv
      obtain ⟨hi, rfl⟩ := rgY_at hy
      obtain ⟨y0, rfl, rfl⟩ := inv
      refine ⟨_, rfl, ?_⟩
      have hi' : i < ds.length := by omega
      obtain ⟨a1, d1, e1, f1, g1, m1⟩ := pat_of p1 hi'
      obtain ⟨a2, d2, e2, f2, g2, _⟩ := pat_of p2 hi'
      have ed : d2 = d1 := Option.some.inj (f2.symm.trans f1)
      subst ed
      have t1 : atI rs (0 + (i : Int)) = some a1 := by rw [Int.zero_add]; exact atI_nat e1
      have t2 : atI rs' (0 + (i : Int)) = some a2 := by rw [Int.zero_add]; exact atI_nat e2
      refine mss_cons (ms_ifx (tx_not (tx_val (ex_call G_law_same hr (by rfl) (ax_cons (ex_ix (ex_var 0 rfl rfl (.inl rfl)) (ex_var 2 rfl rfl (.inl rfl)) (by walk_at "oix") (fun _ _ => rfl)) (ax_cons (ex_ix (ex_var 1 rfl rfl (.inl rfl)) (ex_var 2 rfl rfl (.inl rfl)) (by walk_at "oix") (fun _ _ => rfl)) ax_nil)) ⟨_, _, _, rfl, g1, g2, okd _ m1, rfl, rfl⟩))) (fun hT => ?_) (fun hF => ?_))
      · cases hT
      · exact mss_nil (mss_nil ⟨_, rfl, rfl⟩)
    · intro ρ L' inv
      obtain ⟨y, rfl, rfl⟩ := inv
      refine mss_cons (ms_ret (EX.to ex_bl ?_))
      exact q
  | tuple ds =>
    obtain ⟨m, rfl⟩ : ∃ m, n = m + 1 := by
      cases n with
      | zero => cases ok
      | succ m => exact ⟨m, rfl⟩
    have G_law_same := G m rfl
    have okd : ∀ d ∈ ds, okD m d = true := List.all_eq_true.mp ok
    cases h1
    cases h2
    refine MSs.lenT 1 rfl fun hz => ?_
    have hz2 : (ds.length : Int) < 2 ^ 62 := by rw [sizeLine_eq] at hz; omega
    refine mss_cons (ms_ifx (tx_cmp (ex_var 1 rfl rfl (.inl rfl)) ex_non (by walk_at "ois") (nomark _)) (fun hT => ?_) (fun hF => ?_))
    · cases hT
    refine mss_nil (mss_cons (ms_ifx (tx_val (ex_callB (ax_cons (ex_var 1 rfl rfl (.inl rfl)) (ax_cons (ex_type (T := "bool") (by rfl) T.m_bool (by decide +kernel)) ax_nil)) (by walk_at "c_isinstance") (by rfl) T.m_isinstance (by decide +kernel))) (fun hT => ?_) (fun hF => ?_)))
    · cases hT
    refine mss_nil (mss_cons (ms_ifx (tx_val (ex_callB (ax_cons (ex_var 1 rfl rfl (.inl rfl)) (ax_cons (ex_type (T := "int") (by rfl) T.m_int (by decide +kernel)) ax_nil)) (by walk_at "c_isinstance") (by rfl) T.m_isinstance (by decide +kernel))) (fun hT => ?_) (fun hF => ?_)))
    · cases hT
    refine mss_nil (mss_cons (ms_ifx (tx_val (ex_callB (ax_cons (ex_var 1 rfl rfl (.inl rfl)) (ax_cons (ex_type (T := "str") (by rfl) T.m_str (by decide +kernel)) ax_nil)) (by walk_at "c_isinstance") (by rfl) T.m_isinstance (by decide +kernel))) (fun hT => ?_) (fun hF => ?_)))
    · cases hT
    refine mss_nil (mss_cons (ms_ifx (tx_w (wx_and (tx_val (ex_callB (ax_cons (ex_var 1 rfl rfl (.inl rfl)) (ax_cons (ex_type (T := "tuple") (by rfl) T.m_tuple (by decide +kernel)) ax_nil)) (by walk_at "c_isinstance") (by rfl) T.m_isinstance (by decide +kernel))) (fun _ => (wx_and1 (tx_not (tx_val (ex_callB (ax_cons (ex_var 0 rfl rfl (.inl rfl)) (ax_cons (ex_type (T := "tuple") (by rfl) T.m_tuple (by decide +kernel)) ax_nil)) (by walk_at "c_isinstance") (by rfl) T.m_isinstance (by decide +kernel)))))))) (fun hT => ?_) (fun hF => ?_)))
    · cases hT
    refine mss_nil (mss_cons (ms_ifx (tx_w (wx_and (tx_val (ex_callB (ax_cons (ex_var 1 rfl rfl (.inl rfl)) (ax_cons (ex_type (T := "list") (by rfl) T.m_list (by decide +kernel)) ax_nil)) (by walk_at "c_isinstance") (by rfl) T.m_isinstance (by decide +kernel))) (fun _ => (wx_and1 (tx_not (tx_val (ex_callB (ax_cons (ex_var 0 rfl rfl (.inl rfl)) (ax_cons (ex_type (T := "list") (by rfl) T.m_list (by decide +kernel)) ax_nil)) (by walk_at "c_isinstance") (by rfl) T.m_isinstance (by decide +kernel)))))))) (fun hT => ?_) (fun hF => ?_)))
    · cases hT
    refine mss_nil (mss_cons (ms_ifx (tx_cmp (ex_callB (ax_cons (ex_var 0 rfl rfl (.inl rfl)) ax_nil) (by walk_at "c_len") (by rfl) T.m_len PySem.boot_len) (ex_callB (ax_cons (ex_var 1 rfl rfl (.inl rfl)) ax_nil) (by walk_at "c_len") (by rfl) T.m_len PySem.boot_len) (by walk_at "one") (nomark _)) (fun hT => ?_) (fun hF => ?_)))
    · rw [decide_eq_true rfl] at hT
      cases hT
    refine mss_nil (mss_cons (ms_for (tgt := (.n 2)) rfl (ix_range1 (ax_cons (ex_callB (ax_cons (ex_var 1 rfl rfl (.inl rfl)) ax_nil) (by walk_at "c_len") (by rfl) T.m_len PySem.boot_len) ax_nil) (by walk_at "sd") (by walk_at "sd") (by rfl) T.m_range) (pgn_name 2 sc_law_same.nd rfl (by first | exact .inl rfl | exact .inr rfl)) (fun i ρ L' => ∃ y, ρ = [some (.dt (.tuple ds)), some (.dt (.tuple ds)), y] ∧ L' = L) ⟨none, rfl, rfl⟩ (fun _ _ _ _ _ => trivial) ?_ ?_))
    · intro i y ρ L' hy inv
      obtain ⟨hi, rfl⟩ := rgY_at hy
      obtain ⟨y0, rfl, rfl⟩ := inv
      refine ⟨_, rfl, ?_⟩
      have hi' : i < ds.length := by omega
      have t1 : atI ds (0 + (i : Int)) = some ds[i] := by rw [Int.zero_add]; exact atI_nat (List.getElem?_eq_getElem hi')
      refine mss_cons (ms_ifx (tx_not (tx_val (ex_call G_law_same hr (by rfl) (ax_cons (ex_ix (ex_var 0 rfl rfl (.inl rfl)) (ex_var 2 rfl rfl (.inl rfl)) (by walk_at "oix") (fun _ _ => rfl)) (ax_cons (ex_ix (ex_var 1 rfl rfl (.inl rfl)) (ex_var 2 rfl rfl (.inl rfl)) (by walk_at "oix") (fun _ _ => rfl)) ax_nil)) ⟨_, _, _, rfl, .dt, .dt, okd _ (List.getElem_mem hi'), rfl, rfl⟩))) (fun hT => ?_) (fun hF => ?_))
      · cases hT
      · exact mss_nil (mss_nil ⟨_, rfl, rfl⟩)
    · intro ρ L' inv
      obtain ⟨y, rfl, rfl⟩ := inv
      refine mss_cons (ms_ret (EX.to ex_bl ?_))
      exact q
  | none =>
    cases h1
    cases h2
    refine mss_cons (ms_ifx (tx_cmp (ex_var 1 rfl rfl (.inl rfl)) ex_non (by walk_at "ois") (nomark _)) (fun hT => ?_) (fun hF => ?_))
    · refine mss_cons (ms_ret (EX.to (ex_cmp (ex_var 0 rfl rfl (.inl rfl)) ex_non (by walk_at "ois") (nomark _)) ?_))
      exact q
    · cases hF
  | bool b =>
    cases h1
    cases h2
    refine mss_cons (ms_ifx (tx_cmp (ex_var 1 rfl rfl (.inl rfl)) ex_non (by walk_at "ois") (nomark _)) (fun hT => ?_) (fun hF => ?_))
    · cases hT
    refine mss_nil (mss_cons (ms_ifx (tx_val (ex_callB (ax_cons (ex_var 1 rfl rfl (.inl rfl)) (ax_cons (ex_type (T := "bool") (by rfl) T.m_bool (by decide +kernel)) ax_nil)) (by walk_at "c_isinstance") (by rfl) T.m_isinstance (by decide +kernel))) (fun hT => ?_) (fun hF => ?_)))
    · refine mss_cons (ms_ret (EX.to (ex_and (ex_callB (ax_cons (ex_var 0 rfl rfl (.inl rfl)) (ax_cons (ex_type (T := "bool") (by rfl) T.m_bool (by decide +kernel)) ax_nil)) (by walk_at "c_isinstance") (by rfl) T.m_isinstance (by decide +kernel)) (fun _ => (ex_one (ex_cmp (ex_var 0 rfl rfl (.inl rfl)) (ex_var 1 rfl rfl (.inl rfl)) (by walk_at "oeq") (nomark _))))) ?_))
      rw [decide_eq_true rfl]
      exact q
    · cases hF
  | int b =>
    cases h1
    cases h2
    refine mss_cons (ms_ifx (tx_cmp (ex_var 1 rfl rfl (.inl rfl)) ex_non (by walk_at "ois") (nomark _)) (fun hT => ?_) (fun hF => ?_))
    · cases hT
    refine mss_nil (mss_cons (ms_ifx (tx_val (ex_callB (ax_cons (ex_var 1 rfl rfl (.inl rfl)) (ax_cons (ex_type (T := "bool") (by rfl) T.m_bool (by decide +kernel)) ax_nil)) (by walk_at "c_isinstance") (by rfl) T.m_isinstance (by decide +kernel))) (fun hT => ?_) (fun hF => ?_)))
    · cases hT
    refine mss_nil (mss_cons (ms_ifx (tx_val (ex_callB (ax_cons (ex_var 1 rfl rfl (.inl rfl)) (ax_cons (ex_type (T := "int") (by rfl) T.m_int (by decide +kernel)) ax_nil)) (by walk_at "c_isinstance") (by rfl) T.m_isinstance (by decide +kernel))) (fun hT => ?_) (fun hF => ?_)))
    · refine mss_cons (ms_ret (EX.to (ex_and (ex_callB (ax_cons (ex_var 0 rfl rfl (.inl rfl)) (ax_cons (ex_type (T := "int") (by rfl) T.m_int (by decide +kernel)) ax_nil)) (by walk_at "c_isinstance") (by rfl) T.m_isinstance (by decide +kernel)) (fun _ => (ex_and (ex_not (ex_callB (ax_cons (ex_var 0 rfl rfl (.inl rfl)) (ax_cons (ex_type (T := "bool") (by rfl) T.m_bool (by decide +kernel)) ax_nil)) (by walk_at "c_isinstance") (by rfl) T.m_isinstance (by decide +kernel))) (fun _ => (ex_one (ex_cmp (ex_var 0 rfl rfl (.inl rfl)) (ex_var 1 rfl rfl (.inl rfl)) (by walk_at "oeq") (nomark _))))))) ?_))
      rw [decide_eq_true rfl]
      exact q
    · cases hF
  | str b =>
    cases h1
    cases h2
    refine mss_cons (ms_ifx (tx_cmp (ex_var 1 rfl rfl (.inl rfl)) ex_non (by walk_at "ois") (nomark _)) (fun hT => ?_) (fun hF => ?_))
    · cases hT
    refine mss_nil (mss_cons (ms_ifx (tx_val (ex_callB (ax_cons (ex_var 1 rfl rfl (.inl rfl)) (ax_cons (ex_type (T := "bool") (by rfl) T.m_bool (by decide +kernel)) ax_nil)) (by walk_at "c_isinstance") (by rfl) T.m_isinstance (by decide +kernel))) (fun hT => ?_) (fun hF => ?_)))
    · cases hT
    refine mss_nil (mss_cons (ms_ifx (tx_val (ex_callB (ax_cons (ex_var 1 rfl rfl (.inl rfl)) (ax_cons (ex_type (T := "int") (by rfl) T.m_int (by decide +kernel)) ax_nil)) (by walk_at "c_isinstance") (by rfl) T.m_isinstance (by decide +kernel))) (fun hT => ?_) (fun hF => ?_)))
    · cases hT
    refine mss_nil (mss_cons (ms_ifx (tx_val (ex_callB (ax_cons (ex_var 1 rfl rfl (.inl rfl)) (ax_cons (ex_type (T := "str") (by rfl) T.m_str (by decide +kernel)) ax_nil)) (by walk_at "c_isinstance") (by rfl) T.m_isinstance (by decide +kernel))) (fun hT => ?_) (fun hF => ?_)))
    · refine mss_cons (ms_ret (EX.to (ex_and (ex_callB (ax_cons (ex_var 0 rfl rfl (.inl rfl)) (ax_cons (ex_type (T := "str") (by rfl) T.m_str (by decide +kernel)) ax_nil)) (by walk_at "c_isinstance") (by rfl) T.m_isinstance (by decide +kernel)) (fun _ => (ex_one (ex_cmp (ex_var 0 rfl rfl (.inl rfl)) (ex_var 1 rfl rfl (.inl rfl)) (by walk_at "oeq") (nomark _))))) ?_))
      rw [decide_eq_true rfl]
      exact q
    · cases hF
  | dict kvs => cases n <;> cases ok
theorem ok_same : ∀ (n : Nat) {f : Addr} {fd : FuncData} (F : Fun K "_law_same" "_law_same" s_law_same f fd) (T : Txt K mg) (hm : mg "_law_same" = some (.ref f)) (hb : Binds K fd P_law_same []),
    FnOk P w K mg base CX0 (n + 1) f fd P_law_same (lift (sp_same n))
  | 0, _, _, F, T, _, _ => body_same F T fun m h => by cases h
  | n + 1, f, fd, F, T, hm, hb => body_same F T fun m h => by
    cases h
    exact ⟨f, fd, hm, F.kp, hb, ok_same n F T hm hb⟩
/-! ### the chunks -/
def sp_starts : Fs := fun as L Q _ => ∃ t : List Nat, as = [.dt (.str (tx t))] ∧ t.length ≤ 1000000 ∧ ∀ p, L p = none → Q (.vl (.ref p)) (updL L p (.lst (((starts true 0 t).map fun n : Nat => PyData.int (n : Int)).map Rv.dt)))
theorem starts_len : ∀ (b : Bool) (p : Nat) (t : List Nat), (starts b p t).length ≤ t.length
  | _, _, [] => Nat.le_refl _
  | b, p, c :: r => by
    have := starts_len (decide (c = 10)) (p + 1) r
    show ((if b && sg c then [p] else []) ++ starts (decide (c = 10)) (p + 1) r).length ≤ _
    rw [List.length_append, List.length_cons]
    split <;> simp <;> omega
theorem c32 (c : Nat) : decide ((⟨#[c]⟩ : Str) = Str.ofString " ") = decide (c = 32) := by
  rw [e32]
  by_cases h : c = 32
  · subst h; rw [decide_eq_true rfl]; exact decide_eq_true rfl
  · rw [decide_eq_false h]
    refine decide_eq_false fun e => h ?_
    have e2 : [c] = [32] := tx_eq.mp e
    cases e2
    rfl
theorem c10 (c : Nat) : decide ((⟨#[c]⟩ : Str) = Str.ofString "\n") = decide (c = 10) := by
  rw [e10]
  by_cases h : c = 10
  · subst h; rw [decide_eq_true rfl]; exact decide_eq_true rfl
  · rw [decide_eq_false h]
    refine decide_eq_false fun e => h ?_
    have e2 : [c] = [10] := tx_eq.mp e
    cases e2
    rfl
theorem ok_starts {f : Addr} {fd : FuncData} (F : Fun K "line_starts" "line_starts" s_line_starts f fd) (T : Txt K mg) : FnOk P w K mg base CX0 1 f fd P_line_starts (lift sp_starts) := by
  refine fnok0 F sc_line_starts (fun as L Q XC h => by obtain ⟨_, rfl, _⟩ := h; rfl) ?_
  intro cdv A outer s0 H E hr as L Q XC h
  obtain ⟨t, rfl, hz, q⟩ := h
  have hzs : (tx t).length ≤ sizeLine := by rw [tx_len, sizeLine_eq]; omega
  have hzi : ((tx t).length : Int) < 2 ^ 62 := by rw [tx_len]; omega
  refine mss_cons (ms_set 1 sc_line_starts.nd rfl (.inl rfl) (me_lst0 fun p hp => ?_))
  refine mss_cons (ms_for (tgt := (.n 2)) rfl (ix_range1 (ax_cons (ex_callB (ax_cons (ex_var 0 rfl rfl (.inl rfl)) ax_nil) (by walk_at "c_len") (by rfl) T.m_len PySem.boot_len) ax_nil) (by walk_at "sd") (by walk_at "sd") (by rfl) T.m_range) (pgn_name 2 sc_line_starts.nd rfl (by first | exact .inl rfl | exact .inr rfl)) (fun i ρ L' => ∃ k, ρ = [some (.dt (.str (tx t))), some (.vl (.ref p)), k] ∧ L' = updL L p (.lst (((starts true 0 (t.take i)).map fun n : Nat => PyData.int (n : Int)).map Rv.dt)))
    ⟨none, rfl, rfl⟩ (fun _ _ _ _ _ => trivial) ?_ ?_)
  · intro i y ρ L' hy hI
    obtain ⟨k, rfl, rfl⟩ := hI
    obtain ⟨hi, rfl⟩ := rgY_at hy
    rw [tx_len] at hi
    have hi2 : i < t.length := by omega
    refine ⟨_, rfl, ?_⟩
    have eg := List.getElem?_eq_getElem hi2
    have hat : atI (tx t).cps.toList (0 + (i : Int)) = some t[i] := by rw [tx_list, Int.zero_add]; exact atI_nat eg
    have est : starts true 0 (t.take (i + 1)) = starts true 0 (t.take i) ++ (if lastNl true (t.take i) && sg t[i] then [i] else []) := by
      rw [take_snoc eg, starts_app]
      congr 1
      show (if lastNl true (t.take i) && sg t[i] then [0 + (t.take i).length] else []) ++ [] = _
      rw [List.append_nil, List.length_take, Nat.min_eq_left (by omega), Nat.zero_add]
    obtain ⟨c2, hat2, hc2⟩ : ∃ c2, atI (tx t).cps.toList (0 + (i : Int) - 1) = some c2 ∧ (i ≠ 0 → t[i - 1]? = some c2) := by
      rw [tx_list]
      by_cases h0 : i = 0
      · subst h0
        have hl : t.length - 1 < t.length := by omega
        refine ⟨t[t.length - 1], ?_, fun h => absurd rfl h⟩
        have e1 : (0 + ((0 : Nat) : Int) - 1) = -1 := by omega
        rw [e1]
        have e2 : ixN t.length (-1) = some (t.length - 1) := by
          unfold ixN
          rw [if_neg (by omega)]
          split
          · congr 1
            omega
          · omega
        unfold atI
        rw [e2]
        exact List.getElem?_eq_getElem hl
      · have hl : i - 1 < t.length := by omega
        refine ⟨t[i - 1], ?_, fun _ => List.getElem?_eq_getElem hl⟩
        rw [show (0 + (i : Int) - 1) = ((i - 1 : Nat) : Int) by omega]
        exact atI_nat (List.getElem?_eq_getElem hl)
    have hb : (decide (0 + (i : Int) = 0) || decide ((⟨#[c2]⟩ : Str) = Str.ofString "\n")) = lastNl true (t.take i) := by
      rw [c10]
      by_cases h0 : i = 0
      · subst h0
        rfl
      · obtain ⟨j, rfl⟩ : ∃ j, i = j + 1 := ⟨i - 1, by omega⟩
        rw [lastNl_at (i := j) (hc2 h0), decide_eq_false (by omega), Bool.false_or]
    have hzl := starts_len true 0 (t.take i)
    rw [List.length_take] at hzl
    have hzp : (((starts true 0 (t.take i)).map fun n : Nat => PyData.int (n : Int)).map Rv.dt).length < sizeLine := by
      rw [List.length_map, List.length_map, sizeLine_eq]
      omega
    refine mss_cons (ms_ifx (tx_w (wx_and (tx_cmp (ex_ix (ex_var 0 rfl rfl (.inl rfl)) (ex_var 2 rfl rfl (.inl rfl)) (by walk_at "oix") (fun _ _ => rfl)) (ex_tup (ad_cons ex_str (ad_cons ex_str ad_nil)) (by walk_at "few")) (by walk_at "onin") rfl) (fun _ => (wx_and1 (tx_w (wx_or (tx_cmp (ex_var 2 rfl rfl (.inl rfl)) ex_int (by walk_at "oeq") (nomark _)) (fun _ => (wx_or1 (tx_cmp (ex_ix (ex_var 0 rfl rfl (.inl rfl)) (ex_bin (ex_var 2 rfl rfl (.inl rfl)) ex_int (by walk_at "osub")) (by walk_at "oix") (fun _ _ => rfl)) ex_str (by walk_at "oeq") (nomark _)))))))))) (fun hT => ?_) (fun hF => ?_))
    · rw [c32, c10, hb, Bool.and_eq_true] at hT
      have hs1 : sg t[i] = true := hT.1
      rw [hT.2, hs1] at est
      refine mss_cons (ms_expr (EX.to (ex_append (ex_var 1 rfl rfl (.inl rfl)) (by walk_at "lk") (ex_var 2 rfl rfl (.inl rfl)) (by walk_at "lk") (by walk_at "sz")) ?_))
      refine mss_nil (mss_nil ⟨_, rfl, ?_⟩)
      rw [updL_updL, est]
      simp
    · rw [c32, c10, hb] at hF
      have hs1 : (sg t[i] && lastNl true (t.take i)) = false := hF
      rw [Bool.and_comm] at hs1
      rw [hs1] at est
      refine mss_nil (mss_nil ⟨_, rfl, ?_⟩)
      rw [est]
      simp
  · intro ρ L' hI
    obtain ⟨k, rfl, rfl⟩ := hI
    rw [rgY_len, tx_len, Int.toNat_natCast, List.take_length]
    refine mss_cons (ms_ret (EX.to (ex_var 1 rfl rfl (.inl rfl)) ?_))
    exact q p hp
end
end K09

set_option Elab.async false
set_option linter.all false
set_option maxRecDepth 100000
set_option maxHeartbeats 4000000
namespace Cw
open PySem PySem.Spec PyProof.Rows L2
section
variable {Y : Cm} {ρ : Rho} {L L1 L2 : Led} {a b : Expr} {pos : Pos}
/-- a true first part, the second may change things -/
theorem wx_andT {j : Bool} {rest : List Expr} (h : TX Y a ρ L true L1) (t : WX' Y (.BoolOp .And (b :: rest) pos) ρ L1 j L2) : WX' Y (.BoolOp .And (a :: b :: rest) pos) ρ L j L2 := ⟨fun S σ H A Q q => wW.of (pw_and wT.pt wW.pw) (h.run S σ H A _ fun r1 L1' S1 H1 ⟨e1, e2⟩ t1 => by
  subst e1 e2
  exact iteT (t.run S1 σ H1 (A.next t1) Q fun r L2 S2 H2 e t2 => q r L2 S2 H2 e (t1.trans t2)))⟩
theorem wx_andF {rest : List Expr} (h : TX Y a ρ L false L1) : WX' Y (.BoolOp .And (a :: b :: rest) pos) ρ L false L1 := ⟨fun S σ H A Q q => wW.of (pw_and wT.pt wW.pw) (h.run S σ H A _ fun r1 L1' S1 H1 ⟨e1, e2⟩ t1 => by
  subst e1 e2
  exact iteF (q _ _ S1 H1 ⟨rfl, rfl⟩ t1))⟩
end
end Cw
namespace K09
open PySem PySem.Spec PyProof.Rows L2 Cw
/-! ### small closers, each at its own key -/
local macro_rules | `(tactic| walk_at "oadd") => `(tactic| first | exact o_add | exact o_addS (by walk_at "sz") | exact o_cat (by walk_at "ll") (by walk_at "ll") (by walk_at "sz"))
local macro_rules | `(tactic| walk_at "osub") => `(tactic| exact o_sub)
local macro_rules | `(tactic| walk_at "omul") => `(tactic| first | exact o_mul (by walk_at "sd") | exact o_rep (by walk_at "ll") (by walk_at "sd") (by walk_at "sd") (by walk_at "sz"))
local macro_rules | `(tactic| walk_at "odiv") => `(tactic| first | exact o_div (by walk_at "sd") | exact o_divW (by walk_at "sd"))
local macro_rules | `(tactic| walk_at "olt") => `(tactic| exact o_lt)
local macro_rules | `(tactic| walk_at "ole") => `(tactic| exact o_le)
local macro_rules | `(tactic| walk_at "ogt") => `(tactic| exact o_gt)
local macro_rules | `(tactic| walk_at "oge") => `(tactic| exact o_ge)
local macro_rules | `(tactic| walk_at "oeq") => `(tactic| first | exact o_eqI | exact o_eqNI | exact o_eqS | exact o_eqB | exact o_eqR (Room.units (by assumption)) (by walk_at "dr") (by walk_at "dr") (by walk_at "sh") (by walk_at "sh"))
local macro_rules | `(tactic| walk_at "one") => `(tactic| first | exact o_neI | exact o_neS | exact o_neB | exact o_neR (Room.units (by assumption)) (by walk_at "dr") (by walk_at "dr") (by walk_at "sh") (by walk_at "sh"))
local macro_rules | `(tactic| walk_at "ois") => `(tactic| exact o_isN)
local macro_rules | `(tactic| walk_at "oisn") => `(tactic| exact o_notN)
local macro_rules | `(tactic| walk_at "iadd") => `(tactic| exact o_iadd)
local macro_rules | `(tactic| walk_at "isub") => `(tactic| exact o_isub)
local macro_rules | `(tactic| walk_at "lk") => `(tactic| first | assumption | exact updL_same | (refine Eq.trans (updL_ne (by first | assumption | (apply Ne.symm; assumption))) ?_; walk_at "lk"))
local macro_rules | `(tactic| walk_at "ll") => `(tactic| first | exact LL.dt | assumption | exact LL.h (by walk_at "lk"))
local macro_rules | `(tactic| walk_at "lr") => `(tactic| first | exact LL.dt | assumption | exact LR.h (by walk_at "lk"))
local macro_rules | `(tactic| walk_at "dr") => `(tactic| first | exact DD.dt | assumption | exact DD.ofLL (by walk_at "lk"))
local macro_rules | `(tactic| walk_at "sd") => `(tactic| first | omega | assumption | decide)
local macro_rules | `(tactic| walk_at "rg") => `(tactic| first | omega | assumption | decide)
local macro_rules | `(tactic| walk_at "sz") => `(tactic| first | assumption | (rw [sizeLine_eq]; first | omega | (simp; omega)))
local macro_rules | `(tactic| walk_at "osl") => `(tactic| first | exact s_str (by walk_at "sz") | exact s_lst (by walk_at "ll"))
local macro_rules | `(tactic| walk_at "c_len") => `(tactic| first | exact c_lenT | exact c_lenS (by walk_at "sz") | exact c_lenL (by walk_at "ll") | exact c_lenR (by walk_at "lr") | exact c_lenF (by assumption))
local macro_rules | `(tactic| walk_at "c_int") => `(tactic| first | exact c_int | exact c_intB)
local macro_rules | `(tactic| walk_at "c_min") => `(tactic| exact c_min rfl)
local macro_rules | `(tactic| walk_at "c_max") => `(tactic| exact c_max rfl)
local macro_rules | `(tactic| walk_at "c_ord") => `(tactic| exact c_ord (by walk_at "sz"))
local macro_rules | `(tactic| walk_at "c_list") => `(tactic| first | exact c_listT | exact c_list (by walk_at "ll") | exact c_listF (by assumption))
local macro_rules | `(tactic| walk_at "c_tuple") => `(tactic| first | exact c_tupleT | exact c_tuple (by walk_at "ll"))
local macro_rules | `(tactic| walk_at "c_isinstance") => `(tactic| exact c_isi (by walk_at "dr") (by decide))
local macro_rules | `(tactic| walk_at "few") => `(tactic| first | decide | exact Nat.le_of_ble_eq_true rfl | (rw [sizeLine_eq]; exact Nat.le_of_ble_eq_true rfl) | assumption)
local macro_rules | `(tactic| walk_at "fl") => `(tactic| first | assumption | rfl)
local macro_rules | `(tactic| walk_at "nf") => `(tactic| first | rfl | decide +kernel)
local macro_rules | `(tactic| walk_at "at") => `(tactic| first | assumption | rfl | exact atI_nat (by assumption))
local macro_rules | `(tactic| walk_at "oix") => `(tactic| first | exact i_tup (by walk_at "at") | exact i_lst (by walk_at "ll") (by walk_at "at") | exact i_lstR (by walk_at "lr") (by walk_at "at") | exact i_str (by walk_at "sz") (by walk_at "at") | exact i_lstF (by assumption) (by walk_at "at"))
local macro_rules | `(tactic| walk_at "ixn") => `(tactic| first | assumption | rfl)
local macro_rules | `(tactic| walk_at "okd") => `(tactic| first | rfl | assumption)
local macro_rules | `(tactic| walk_at "wr") => `(tactic| first | assumption | omega)
local macro_rules | `(tactic| walk_at "shn") => `(tactic| first | exact fun z => absurd z (by assumption) | exact fun z => absurd rfl z | exact fun _ => ⟨rfl, rfl⟩)
local macro_rules | `(tactic| walk_at "onin") => `(tactic| exact o_notIn2S)
local macro_rules | `(tactic| walk_at "okp") => `(tactic| first | assumption | exact nxt_p (by walk_at "okp"))

local macro_rules | `(tactic| walk_at "okp") => `(tactic| first | assumption | exact nxt_p (by walk_at "okp") | exact line_p (by walk_at "okp") | exact linesN_p (by walk_at "okp") _)
def offs : Nat → List (List Nat) → List Nat
  | _, [] => []
  | p, c :: r => p :: offs (p + c.length) r
def pairs : Nat → List (List Nat) → List PyData
  | _, [] => []
  | p, c :: r => .tuple [.int (p : Int), .str (tx c)] :: pairs (p + c.length) r
theorem offs_snoc : ∀ (p : Nat) (cs : List (List Nat)) (c : List Nat), offs p (cs ++ [c]) = offs p cs ++ [p + cs.flatten.length]
  | p, [], c => rfl
  | p, d :: r, c => by
    show p :: offs _ (r ++ [c]) = p :: (offs _ r ++ [_])
    rw [offs_snoc, List.flatten_cons, List.length_append, Nat.add_assoc]
theorem pairs_snoc : ∀ (p : Nat) (cs : List (List Nat)) (c : List Nat), pairs p (cs ++ [c]) = pairs p cs ++ [.tuple [.int ((p + cs.flatten.length : Nat) : Int), .str (tx c)]]
  | p, [], c => rfl
  | p, d :: r, c => by
    show _ :: pairs _ (r ++ [c]) = _ :: (pairs _ r ++ [_])
    rw [pairs_snoc, List.flatten_cons, List.length_append, Nat.add_assoc]
theorem pairs_len : ∀ (p : Nat) (cs : List (List Nat)), (pairs p cs).length = cs.length
  | _, [] => rfl
  | p, c :: r => congrArg Nat.succ (pairs_len _ r)
theorem pairs_ok : ∀ (p : Nat) (cs : List (List Nat)), (pairs p cs).all (okD 1) = true
  | _, [] => rfl
  | p, c :: r => by
    show (true && (pairs _ r).all (okD 1)) = true
    rw [pairs_ok]
    rfl
def pk (t : List Nat) (x : Nat × Nat) : PyData := .tuple [.int (x.1 : Int), .str (cutS (tx t) (some (x.1 : Int)) (some (x.2 : Int)))]
theorem cut_at (pre c r : List Nat) : cutS (tx (pre ++ (c ++ r))) (some (pre.length : Int)) (some ((pre.length + c.length : Nat) : Int)) = tx c := by
  rw [tx_cut, cut_mid, ← List.append_assoc]
  congr 1
  rw [List.take_append_of_le_length (by rw [List.length_append]; exact Nat.le_refl _), List.take_of_length_le (by rw [List.length_append]; exact Nat.le_refl _), List.drop_append_of_le_length (Nat.le_refl _), List.drop_length, List.nil_append]
theorem zip_cut : ∀ (cs : List (List Nat)) (pre t : List Nat), t = pre ++ cs.flatten → (((offs pre.length cs).zip ((offs pre.length cs).tail ++ [t.length])).map (pk t)) = pairs pre.length cs
  | [], _, _, _ => rfl
  | [c], pre, t, h => by
    subst h
    show [pk _ (pre.length, _)] = [_]
    congr 1
    unfold pk
    have e : (pre ++ [c].flatten).length = pre.length + c.length := by simp
    show PyData.tuple [.int (pre.length : Int), .str (cutS _ (some (pre.length : Int)) (some (((pre ++ [c].flatten).length : Nat) : Int)))] = _
    rw [e]
    have := cut_at pre c []
    rw [show pre ++ [c].flatten = pre ++ (c ++ []) by simp, this]
  | c :: d :: r, pre, t, h => by
    have ih := zip_cut (d :: r) (pre ++ c) t (by rw [h, List.flatten_cons, List.append_assoc])
    rw [List.length_append] at ih
    show pk t (pre.length, pre.length + c.length) :: (((offs (pre.length + c.length) (d :: r)).zip ((offs (pre.length + c.length) (d :: r)).tail ++ [t.length])).map (pk t)) = .tuple [.int (pre.length : Int), .str (tx c)] :: pairs (pre.length + c.length) (d :: r)
    rw [ih]
    congr 1
    unfold pk
    rw [h, List.flatten_cons]
    show PyData.tuple [.int (pre.length : Int), .str (cutS (tx (pre ++ (c ++ (d :: r).flatten))) (some (pre.length : Int)) (some ((pre.length + c.length : Nat) : Int)))] = _
    rw [cut_at]
theorem zipY_nat (A B : List Nat) : zipY ((A.map fun n : Nat => PyData.int (n : Int)).map Rv.dt) ((B.map fun n : Nat => PyData.int (n : Int)).map Rv.dt) = (A.zip B).map fun x => Yd.t [.dt (.int (x.1 : Int)), .dt (.int (x.2 : Int))] := by
  unfold zipY
  rw [List.map_map, List.map_map, List.zip_map, List.map_map]
  rfl
section
variable {P : Program} {w : World} {K : PySem.W.Frag} {mg : Str → Option Value} {base : Heap}
def sp_chunks : Fs := fun as L Q _ => ∃ (pre : List Nat) (cs : List (List Nat)), as = [.dt (.str (tx (pre ++ cs.flatten)))] ∧ (pre ++ cs.flatten).length ≤ 1000000 ∧ cs.length ≤ 1000000 ∧ starts true 0 (pre ++ cs.flatten) = offs pre.length cs ∧ Q (.dt (.list (pairs pre.length cs))) L
def gch (t : List Nat) : Yd → PyData := fun y => match y with | .t [.dt (.int a), .dt (.int b)] => .tuple [.int a, .str (cutS (tx t) (some a) (some b))] | _ => .none
theorem ok_chunks {f : Addr} {fd : FuncData} (F : Fun K "chunks" "chunks" s_chunks f fd) (T : Txt K mg) (G_line_starts' : FnM P w K mg base 1 "line_starts" P_line_starts sp_starts) : FnOk P w K mg base CX0 2 f fd P_chunks (lift sp_chunks) := by
  refine fnok0 F sc_chunks (fun as L Q XC h => by obtain ⟨_, _, rfl, _⟩ := h; rfl) ?_
  intro cdv A outer s0 H E hr as L Q XC h
  obtain ⟨pre, cs, rfl, hz, hzc, est, q⟩ := h
  have G_line_starts := G_line_starts'.data
  have ez := zip_cut cs pre _ rfl
  generalize pre ++ cs.flatten = t at *
  have hzs : (tx t).length ≤ sizeLine := by rw [tx_len, sizeLine_eq]; omega
  refine mss_cons (ms_set 1 sc_chunks.nd rfl (by first | exact .inl rfl | exact .inr rfl) (EX.to (ex_call G_line_starts (hr.mono (by decide)) (by rfl) (ax_cons (ex_var 0 rfl rfl (by first | exact .inl rfl | exact .inr (.inl rfl) | exact .inr (.inr rfl))) ax_nil) ⟨t, rfl, hz, fun p hp => ⟨p, _, _, rfl, rfl, hp, rfl, rfl⟩⟩) ?_))
  rw [est]
  have hol : (offs pre.length cs).length ≤ 1000000 := by rw [← est]; exact Nat.le_trans (starts_len _ _ _) hz
  generalize offs pre.length cs = O at *
  have ecut : cut (O.map fun n : Nat => PyData.int (n : Int)) (some ((1 : Nat) : Int)) none = O.tail.map fun n : Nat => PyData.int (n : Int) := by
    rw [cut_map, cut_from, List.drop_one]
  have hz2 : (cut (O.map fun n : Nat => PyData.int (n : Int)) (some 1) none).length + [PyData.int ((tx t).length : Int)].length ≤ sizeLine := by
    rw [show cut (O.map fun n : Nat => PyData.int (n : Int)) (some 1) none = O.tail.map fun n : Nat => PyData.int (n : Int) from ecut, List.length_map, List.length_tail, sizeLine_eq, List.length_singleton]
    omega
  refine mss_cons (ms_set 2 sc_chunks.nd rfl (by first | exact .inl rfl | exact .inr rfl) (EX.to (ex_bin (ex_slice (ex_var 1 rfl rfl (.inl rfl)) (px_some ex_int) px_none (by walk_at "osl")) (ex_lst (ad_cons (ex_callB (ax_cons (ex_var 0 rfl rfl (by first | exact .inl rfl | exact .inr (.inl rfl) | exact .inr (.inr rfl))) ax_nil) (by walk_at "c_len") (by rfl) T.m_len PySem.boot_len) ad_nil) (by walk_at "few")) (by walk_at "oadd")) ?_))
  rw [show cut (O.map fun n : Nat => PyData.int (n : Int)) (some 1) none ++ [PyData.int ((tx t).length : Int)] = (O.tail ++ [t.length]).map fun n : Nat => PyData.int (n : Int) by rw [show cut (O.map fun n : Nat => PyData.int (n : Int)) (some 1) none = O.tail.map fun n : Nat => PyData.int (n : Int) from ecut, tx_len, List.map_append]; rfl]
  refine mss_cons (ms_ret (EX.to (ex_lcp (tgt := (.t [3, 4])) (own := [("start", 3), ("end", 4)]) (gch t) (by rfl) sc_chunks.nd (ix_zip (ax_cons (ex_var 1 rfl rfl (.inl rfl)) (ax_cons (ex_var 2 rfl rfl (.inl rfl)) ax_nil)) (by walk_at "lr") (by walk_at "lr") (by rfl) T.m_zip) ⟨LL.dt, LL.dt⟩ (blkOk_by (by rfl)) rfl (fun s H C cl fp => (pgn_tup rfl (pgn_cons 3 sc_chunks.nd rfl (by first | exact .inl rfl | exact .inr rfl) (pgn_cons 4 sc_chunks.nd rfl (by first | exact .inl rfl | exact .inr rfl) pgn_nil)))) ?_ ?_) ?_))
  · rw [zipY_nat, List.length_map, List.length_zip, sizeLine_eq]
    omega
  · intro i y hy
    rw [zipY_nat, List.getElem?_map] at hy
    cases hx : (O.zip (O.tail ++ [t.length]))[i]? with
    | none => rw [hx] at hy; cases hy
    | some x =>
      rw [hx] at hy
      cases hy
      exact ⟨_, rfl, fun s H C cl fp => (ex_tup (ad_cons (ex_var 3 rfl rfl (by first | exact .inl rfl | exact .inr (.inl rfl) | exact .inr (.inr rfl))) (ad_cons (ex_slice (ex_var 0 rfl rfl (by first | exact .inl rfl | exact .inr (.inl rfl) | exact .inr (.inr rfl))) (px_some (ex_var 3 rfl rfl (by first | exact .inl rfl | exact .inr (.inl rfl) | exact .inr (.inr rfl)))) (px_some (ex_var 4 rfl rfl (by first | exact .inl rfl | exact .inr (.inl rfl) | exact .inr (.inr rfl)))) (by walk_at "osl")) ad_nil)) (by walk_at "few"))⟩
  · rw [zipY_nat, List.map_map]
    have e : (O.zip (O.tail ++ [t.length])).map ((gch t) ∘ fun x => Yd.t [.dt (.int (x.1 : Int)), .dt (.int (x.2 : Int))]) = pairs pre.length cs := ez
    rw [e]
    exact q
end
end K09

set_option Elab.async false
set_option linter.all false
set_option maxRecDepth 100000
set_option maxHeartbeats 4000000
namespace K09
open PySem PySem.Spec PyProof.Rows L2 Cw
/-! ### small closers, each at its own key -/
local macro_rules | `(tactic| walk_at "oadd") => `(tactic| first | exact o_add | exact o_addS (by walk_at "sz") | exact o_cat (by walk_at "ll") (by walk_at "ll") (by walk_at "sz"))
local macro_rules | `(tactic| walk_at "osub") => `(tactic| exact o_sub)
local macro_rules | `(tactic| walk_at "omul") => `(tactic| first | exact o_mul (by walk_at "sd") | exact o_rep (by walk_at "ll") (by walk_at "sd") (by walk_at "sd") (by walk_at "sz"))
local macro_rules | `(tactic| walk_at "odiv") => `(tactic| first | exact o_div (by walk_at "sd") | exact o_divW (by walk_at "sd"))
local macro_rules | `(tactic| walk_at "olt") => `(tactic| exact o_lt)
local macro_rules | `(tactic| walk_at "ole") => `(tactic| exact o_le)
local macro_rules | `(tactic| walk_at "ogt") => `(tactic| exact o_gt)
local macro_rules | `(tactic| walk_at "oge") => `(tactic| exact o_ge)
local macro_rules | `(tactic| walk_at "oeq") => `(tactic| first | exact o_eqI | exact o_eqNI | exact o_eqS | exact o_eqB | exact o_eqR (Room.units (by assumption)) (by walk_at "dr") (by walk_at "dr") (by walk_at "sh") (by walk_at "sh"))
local macro_rules | `(tactic| walk_at "one") => `(tactic| first | exact o_neI | exact o_neS | exact o_neB | exact o_neR (Room.units (by assumption)) (by walk_at "dr") (by walk_at "dr") (by walk_at "sh") (by walk_at "sh"))
local macro_rules | `(tactic| walk_at "ois") => `(tactic| exact o_isN)
local macro_rules | `(tactic| walk_at "oisn") => `(tactic| exact o_notN)
local macro_rules | `(tactic| walk_at "iadd") => `(tactic| exact o_iadd)
local macro_rules | `(tactic| walk_at "isub") => `(tactic| exact o_isub)
local macro_rules | `(tactic| walk_at "lk") => `(tactic| first | assumption | exact updL_same | (refine Eq.trans (updL_ne (by first | assumption | (apply Ne.symm; assumption))) ?_; walk_at "lk"))
local macro_rules | `(tactic| walk_at "ll") => `(tactic| first | exact LL.dt | assumption | exact LL.h (by walk_at "lk"))
local macro_rules | `(tactic| walk_at "lr") => `(tactic| first | exact LL.dt | assumption | exact LR.h (by walk_at "lk"))
local macro_rules | `(tactic| walk_at "dr") => `(tactic| first | exact DD.dt | assumption | exact DD.ofLL (by walk_at "lk"))
local macro_rules | `(tactic| walk_at "sd") => `(tactic| first | omega | assumption | decide)
local macro_rules | `(tactic| walk_at "rg") => `(tactic| first | omega | assumption | decide)
local macro_rules | `(tactic| walk_at "sz") => `(tactic| first | assumption | (rw [sizeLine_eq]; first | omega | (simp; omega)))
local macro_rules | `(tactic| walk_at "osl") => `(tactic| first | exact s_str (by walk_at "sz") | exact s_lst (by walk_at "ll"))
local macro_rules | `(tactic| walk_at "c_len") => `(tactic| first | exact c_lenT | exact c_lenS (by walk_at "sz") | exact c_lenL (by walk_at "ll") | exact c_lenR (by walk_at "lr") | exact c_lenF (by assumption))
local macro_rules | `(tactic| walk_at "c_int") => `(tactic| first | exact c_int | exact c_intB)
local macro_rules | `(tactic| walk_at "c_min") => `(tactic| exact c_min rfl)
local macro_rules | `(tactic| walk_at "c_max") => `(tactic| exact c_max rfl)
local macro_rules | `(tactic| walk_at "c_ord") => `(tactic| exact c_ord (by walk_at "sz"))
local macro_rules | `(tactic| walk_at "c_list") => `(tactic| first | exact c_listT | exact c_list (by walk_at "ll") | exact c_listF (by assumption))
local macro_rules | `(tactic| walk_at "c_tuple") => `(tactic| first | exact c_tupleT | exact c_tuple (by walk_at "ll"))
local macro_rules | `(tactic| walk_at "c_isinstance") => `(tactic| exact c_isi (by walk_at "dr") (by decide))
local macro_rules | `(tactic| walk_at "few") => `(tactic| first | decide | exact Nat.le_of_ble_eq_true rfl | (rw [sizeLine_eq]; exact Nat.le_of_ble_eq_true rfl) | assumption)
local macro_rules | `(tactic| walk_at "fl") => `(tactic| first | assumption | rfl)
local macro_rules | `(tactic| walk_at "nf") => `(tactic| first | rfl | decide +kernel)
local macro_rules | `(tactic| walk_at "at") => `(tactic| first | assumption | rfl | exact atI_nat (by assumption))
local macro_rules | `(tactic| walk_at "oix") => `(tactic| first | exact i_tup (by walk_at "at") | exact i_lst (by walk_at "ll") (by walk_at "at") | exact i_lstR (by walk_at "lr") (by walk_at "at") | exact i_str (by walk_at "sz") (by walk_at "at") | exact i_lstF (by assumption) (by walk_at "at"))
local macro_rules | `(tactic| walk_at "ixn") => `(tactic| first | assumption | rfl)
local macro_rules | `(tactic| walk_at "okd") => `(tactic| first | rfl | assumption)
local macro_rules | `(tactic| walk_at "wr") => `(tactic| first | assumption | omega)
local macro_rules | `(tactic| walk_at "shn") => `(tactic| first | exact fun z => absurd z (by assumption) | exact fun z => absurd rfl z | exact fun _ => ⟨rfl, rfl⟩)
local macro_rules | `(tactic| walk_at "onin") => `(tactic| exact o_notIn2S)
local macro_rules | `(tactic| walk_at "okp") => `(tactic| first | assumption | exact nxt_p (by walk_at "okp"))

local macro_rules | `(tactic| walk_at "okp") => `(tactic| first | assumption | exact nxt_p (by walk_at "okp") | exact line_p (by walk_at "okp") | exact linesN_p (by walk_at "okp") _)
local macro_rules | `(tactic| walk_at "sz") => `(tactic| (simp only [tx_len, tx_cat, e10, e32, es, List.length_append, List.length_singleton, List.length_cons, List.length_nil, List.length_map, sizeLine_eq]; omega))
theorem tx_to {Y : Cm} {e : Expr} {ρ : Rho} {L L1 : Led} {k k' : Bool} (h : k = k') (t : TX Y e ρ L k L1) : TX Y e ρ L k' L1 := h ▸ t
def pick49 (i : Int) : Int := if i = 1 then 9 else 4
theorem pick49_b (i : Int) : 0 < pick49 i ∧ pick49 i ≤ 9 := by unfold pick49; split <;> omega
theorem pick49_at {i : Int} (h : 0 ≤ i ∧ i < 2) : atI [PyData.int 4, .int 9] i = some (.int (pick49 i)) := by
  have : i = 0 ∨ i = 1 := by omega
  rcases this with rfl | rfl <;> rfl
/-- begins a chunk and holds no other beginning -/
def good (c : List Nat) : Prop := ∀ p, starts true p c = [p]
theorem good_of {x : Nat} {l m : List Nat} (h1 : x ≠ 32 ∧ x ≠ 10) (h2 : ∀ c ∈ l, c ≠ 10) (h3 : ∀ p, starts true p m = [] ∧ lastNl true m = true) : good ([x] ++ l ++ [10] ++ m) ∧ lastNl true ([x] ++ l ++ [10] ++ m) = true := by
  have e : [x] ++ l ++ [10] ++ m = [x] ++ (l ++ ([10] ++ m)) := by simp
  have hsg : sg x = true := by unfold sg; rw [decide_eq_false h1.1, decide_eq_false h1.2]; rfl
  have hx : lastNl true [x] = false := decide_eq_false h1.2
  refine ⟨fun p => ?_, ?_⟩
  · rw [e, starts_app, hx, starts_app, (starts_plain _ l h2).1, (starts_plain 0 l h2).2, starts_app]
    show (if true && sg x then [p] else []) ++ [] ++ ([] ++ ([] ++ starts (lastNl false [10]) _ m)) = [p]
    rw [hsg, show lastNl false [10] = true from rfl, (h3 _).1]
    rfl
  · rw [e, lastNl_app, lastNl_app, lastNl_app]
    exact (h3 0).2
theorem snoc_of : ∀ (b : Bool) (x : List Nat), x ≠ [] → lastNl b x = true → ∃ y, x = y ++ [10]
  | _, [], h, _ => absurd rfl h
  | b, [c], _, h => ⟨[], by have : c = 10 := of_decide_eq_true h; rw [this]; rfl⟩
  | b, c :: d :: r, _, h => by
    obtain ⟨y, e⟩ := snoc_of (decide (c = 10)) (d :: r) (List.cons_ne_nil _ _) h
    exact ⟨c :: y, by rw [e]; rfl⟩
theorem good_cut {y : List Nat} (h : good (y ++ [10])) : good y := fun p => by
  have h1 := h p
  rw [starts_app] at h1
  have e : starts (lastNl true y) (p + y.length) [10] = [] := by
    show (if lastNl true y && sg 10 then _ else []) ++ [] = []
    have : sg 10 = false := rfl
    rw [this, Bool.and_false]
    rfl
  rw [e, List.append_nil] at h1
  exact h1
theorem pairs_snd : ∀ (p : Nat) (cs : List (List Nat)), (pairs p cs).map (fun d => match d with | .tuple [_, d] => d | _ => .none) = (cs.map tx).map PyData.str
  | _, [] => rfl
  | p, c :: r => by
    show PyData.str (tx c) :: _ = PyData.str (tx c) :: _
    rw [pairs_snd]
theorem pairs_at : ∀ (p : Nat) (cs : List (List Nat)) {i : Nat} {d : PyData}, (pairs p cs)[i]? = some d → ∃ a b, d = .tuple [.int a, .str b]
  | _, [], _, _, h => by simp [pairs] at h
  | p, c :: r, 0, d, h => by
    have : PyData.tuple [.int (p : Int), .str (tx c)] = d := Option.some.inj h
    exact ⟨_, _, this.symm⟩
  | p, c :: r, i + 1, d, h => pairs_at (p + c.length) r (i := i) h
theorem sum_len (cs : List (List Nat)) : ((cs.map tx).map (·.length)).sum = cs.flatten.length := by
  induction cs with
  | nil => rfl
  | cons c r ih =>
    rw [List.map_cons, List.map_cons, List.sum_cons, ih, tx_len, List.flatten_cons, List.length_append]
def bodyOf : Stmt → List Stmt
  | .If _ b _ _ => b
  | .For _ _ b _ _ => b
  | _ => []
section
variable {P : Program} {w : World} {K : PySem.W.Frag} {mg : Str → Option Value} {base : Heap}
def sp_law (K : PySem.W.Frag) : Fs := fun as L Q _ => ∃ a ns, as = [.vl (.ref a)] ∧ Scr K L a ns ∧ ns.length ≤ 63 ∧ ∀ L', Q (.dt (.bool true)) L'
structure Inv0 (L : Led) (s E : Addr) (σ : Sg) (pre : List Nat) (cs : List (List Nat)) (i : Nat) (n : Int) : Prop where
  hs : L s = some (enc σ)
  hE : L E = some (.lst ((pairs pre.length cs).map Rv.dt))
  hp : 0 ≤ σ.p
  hl : cs.length = i
  st : starts true 0 (pre ++ cs.flatten) = offs pre.length cs
  nl : (i : Int) < n → lastNl true (pre ++ cs.flatten) = true
  z : (pre ++ cs.flatten).length ≤ 1000 + 1000 * i
abbrev yL (P : Program) (w : World) (K : PySem.W.Frag) (mg : Str → Option Value) (base : Heap) (f : Addr) (cdv : Value) (A : Around) (outer : List Env) (s0 : Shared) (H : Hp) (E : XK) := y0 P w K mg base N_law "law" (defScope s_law) f cdv A outer s0 H E
theorem law_step {f : Addr} {fd : FuncData} (F : Fun K "law" "law" s_law f fd) (T : Txt K mg)
    {cdv : Value} {A : Around} {outer : List Env} {s0 : Shared} {H : Hp} {EE : XK}
    (G_law_next : FnM P w K mg base 1 "_law_next" P_law_next sp_next) (G_law_char : FnM P w K mg base 1 "_law_char" P_law_char sp_char) (G_law_line : FnM P w K mg base 2 "_law_line" P_law_line sp_line) (G_law_lines : FnM P w K mg base 3 "_law_lines" P_law_lines sp_lines)
    (hr : Room 3 (A.deeper (envOfC "law" (defScope s_law) s0.heap.objs.size f cdv)))
    {N : Rho → Led → Prop} {D : Nd} {a s E : Addr} {L : Led} {σ : Sg} {pre : List Nat} {cs : List (List Nat)} {i : Nat} {n : Int} {ch : Option Rv} (inv : Inv0 L s E σ pre cs i n) (hi : (i : Int) < n) (hn : n ≤ 149)
    (k : ∀ σ' c L' ch', Inv0 L' s E σ' pre (cs ++ [c]) (i + 1) n → N [some (.vl (.ref a)), some (.vl (.ref s)), some (.dt (.str (tx (pre ++ (cs ++ [c]).flatten)))), some (.vl (.ref E)), some (.dt (.str (tx pre))), some (.dt (.int n)), some (.dt (.int (0 + (i : Int)))), ch', none, none] L') :
    MSs (yL P w K mg base f cdv A outer s0 H EE) (bodyOf ((defBody s_law).getD 6 (.Pass ⟨0, 0, 0, 0⟩))) N D [some (.vl (.ref a)), some (.vl (.ref s)), some (.dt (.str (tx (pre ++ cs.flatten)))), some (.vl (.ref E)), some (.dt (.str (tx pre))), some (.dt (.int n)), some (.dt (.int (0 + (i : Int)))), ch, none, none] L := by
  have hs := inv.hs
  have hp := inv.hp
  have hne : s ≠ E := fun z => by
    have h := inv.hE
    rw [← z, hs] at h
    have h2 := congrArg (fun o : Option MO => match o with | some (.lst (.dt (.list _) :: _)) => true | _ => false) h
    have h3 : ∀ l : List PyData, (∀ d ∈ l, ∃ a b, d = PyData.tuple [.int a, .str b]) → (match (some (MO.lst (l.map Rv.dt)) : Option MO) with | some (.lst (.dt (.list _) :: _)) => true | _ => false) = false := fun l hl => by
      cases l with
      | nil => rfl
      | cons d r =>
        obtain ⟨a, b, rfl⟩ := hl d List.mem_cons_self
        rfl
    have h4 := h3 (pairs pre.length cs) fun d hd => by
      obtain ⟨j, hj⟩ := List.getElem?_of_mem hd
      exact pairs_at _ _ hj
    have h5 : true = false := h2.trans h4
    cases h5
  -- what is left, once the chunk is made
  have fin : ∀ (σ' : Sg) (c : List Nat) (L' : Led), L' s = some (enc σ') → 0 ≤ σ'.p → L' E = L E → good c → c.length ≤ 1000 → ((i : Int) + 1 < n → lastNl true c = true) →
      MSs (yL P w K mg base f cdv A outer s0 H EE) ((bodyOf ((defBody s_law).getD 6 (.Pass ⟨0, 0, 0, 0⟩))).drop 2) N D [some (.vl (.ref a)), some (.vl (.ref s)), some (.dt (.str (tx (pre ++ cs.flatten)))), some (.vl (.ref E)), some (.dt (.str (tx pre))), some (.dt (.int n)), some (.dt (.int (0 + (i : Int)))), some (.dt (.str (tx c))), none, none] L' := by
    intro σ' c L' hs' hp' eE hg hc hnl
    have hE : L' E = some (.lst ((pairs pre.length cs).map Rv.dt)) := eE.trans inv.hE
    have hz := inv.z
    have hz0 := hz
    rw [List.length_append] at hz
    have hl := inv.hl
    have hpl := pairs_len pre.length cs
    refine mss_cons (ms_expr (EX.to (ex_append (ex_var 3 rfl rfl (.inl rfl)) (by walk_at "lk") (ex_tup (ad_cons (ex_callB (ax_cons (ex_var 2 rfl rfl (.inl rfl)) ax_nil) (by walk_at "c_len") (by rfl) T.m_len PySem.boot_len) (ad_cons (ex_var 7 rfl rfl (.inl rfl)) ad_nil)) (by walk_at "few")) (by walk_at "lk") (by walk_at "sz")) ?_))
    refine mss_cons (ms_set 2 sc_law.nd rfl (by first | exact .inl rfl | exact .inr rfl) (EX.to (ex_bin (ex_var 2 rfl rfl (.inl rfl)) (ex_var 7 rfl rfl (.inl rfl)) (by walk_at "oadd")) ?_))
    have et : tx (pre ++ cs.flatten) ++ tx c = tx (pre ++ (cs ++ [c]).flatten) := by
      rw [tx_cat, List.flatten_append, List.flatten_singleton, List.append_assoc]
    rw [et]
    refine mss_nil (k σ' c _ _ ⟨by rw [updL_ne hne]; exact hs', ?_, hp', by rw [List.length_append, hl]; rfl, ?_, ?_, ?_⟩)
    · rw [pairs_snoc, List.map_append]
      rw [show (tx (pre ++ cs.flatten)).length = pre.length + cs.flatten.length by rw [tx_len, List.length_append]]
      exact updL_same
    · rw [List.flatten_append, List.flatten_singleton, ← List.append_assoc, starts_app, inv.nl hi, hg, inv.st, offs_snoc, List.length_append, Nat.zero_add]
    · intro h
      rw [List.flatten_append, List.flatten_singleton, ← List.append_assoc, lastNl_app, inv.nl hi]
      exact hnl (by omega)
    · rw [List.flatten_append, List.flatten_singleton, ← List.append_assoc, List.length_append]
      omega
  have b1 := nxt_b σ (show (0 : Int) < 93 by decide)
  have hcc := chr_2 (i := 1 + (nxt σ 93).1) (by omega) (by omega)
  have hp1 : 0 ≤ (nxt σ 93).2.p := nxt_p hp
  have hp2 := line_p hp1
  have hno := line_no (nxt σ 93).2
  have hll := line_len (nxt σ 93).2
  have b3 := nxt_b (line (nxt σ 93).2).2 (show (0 : Int) < 2 by decide)
  have hat := pick49_at b3
  have p49 := pick49_b (nxt (line (nxt σ 93).2).2 2).1
  have p491 := p49.1
  have p492 := p49.2
  have b4 := nxt_b (nxt (line (nxt σ 93).2).2 2).2 p491
  have b41 := b4.1
  have b42 := b4.2
  have hml := linesN_len (nxt (nxt (line (nxt σ 93).2).2 2).2 (pick49 (nxt (line (nxt σ 93).2).2 2).1)).2 (nxt (nxt (line (nxt σ 93).2).2 2).2 (pick49 (nxt (line (nxt σ 93).2).2 2).1)).1.toNat
  have hst := linesN_st (nxt (nxt (line (nxt σ 93).2).2 2).2 (pick49 (nxt (line (nxt σ 93).2).2 2).1)).2 (nxt (nxt (line (nxt σ 93).2).2 2).2 (pick49 (nxt (line (nxt σ 93).2).2 2).1)).1.toNat
  have hp5 : 0 ≤ (linesN (nxt (nxt (line (nxt σ 93).2).2 2).2 (pick49 (nxt (line (nxt σ 93).2).2 2).1)).1.toNat (nxt (nxt (line (nxt σ 93).2).2 2).2 (pick49 (nxt (line (nxt σ 93).2).2 2).1)).2).2.p := linesN_p (nxt_p (nxt_p hp2)) _
  refine mss_cons (ms_set 7 sc_law.nd rfl (by first | exact .inl rfl | exact .inr rfl) (EX.to (ex_bin (ex_bin (ex_bin (ex_call G_law_char (hr.mono (by decide)) (by rfl) (ax_cons (ex_bin ex_int (ex_call G_law_next (hr.mono (by decide)) (by rfl) (ax_cons (ex_var 1 rfl rfl (.inl rfl)) (ax_cons ex_int ax_nil)) ⟨_, _, _, rfl, by walk_at "lk", by walk_at "okp", by walk_at "sd", by walk_at "sd", rfl, rfl⟩) (by walk_at "oadd")) ax_nil) ⟨_, rfl, rfl, rfl⟩) (ex_call G_law_line (hr.mono (by decide)) (by rfl) (ax_cons (ex_var 1 rfl rfl (.inl rfl)) ax_nil) ⟨_, _, rfl, by walk_at "lk", by walk_at "okp", rfl, rfl⟩) (by walk_at "oadd")) ex_str (by walk_at "oadd")) (ex_call G_law_lines (hr.mono (by decide)) (by rfl) (ax_cons (ex_var 1 rfl rfl (.inl rfl)) (ax_cons (ex_call G_law_next (hr.mono (by decide)) (by rfl) (ax_cons (ex_var 1 rfl rfl (.inl rfl)) (ax_cons (ex_ix (ex_lst (ad_cons ex_int (ad_cons ex_int ad_nil)) (by walk_at "few")) (ex_call G_law_next (hr.mono (by decide)) (by rfl) (ax_cons (ex_var 1 rfl rfl (.inl rfl)) (ax_cons ex_int ax_nil)) ⟨_, _, _, rfl, by walk_at "lk", by walk_at "okp", by walk_at "sd", by walk_at "sd", rfl, rfl⟩) (by walk_at "oix") (fun _ _ => rfl)) ax_nil)) ⟨_, _, _, rfl, by walk_at "lk", by walk_at "okp", by walk_at "sd", by walk_at "sd", rfl, rfl⟩) ax_nil)) ⟨_, _, _, rfl, by walk_at "lk", by walk_at "okp", by walk_at "sd", by walk_at "sd", rfl, rfl⟩) (by walk_at "oadd")) ?_))
  rw [e10, tx_cat, tx_cat, tx_cat]
  have hgood := good_of hcc hno hst
  have hcl : ([chr (1 + (nxt σ 93).1)] ++ (line (nxt σ 93).2).1 ++ [10] ++ (linesN (nxt (nxt (line (nxt σ 93).2).2 2).2 (pick49 (nxt (line (nxt σ 93).2).2 2).1)).1.toNat (nxt (nxt (line (nxt σ 93).2).2 2).2 (pick49 (nxt (line (nxt σ 93).2).2 2).1)).2).1).length ≤ 1000 := by
    rw [List.length_append, List.length_append, List.length_append, List.length_singleton, List.length_singleton]
    omega
  have hcne : ([chr (1 + (nxt σ 93).1)] ++ (line (nxt σ 93).2).1 ++ [10] ++ (linesN (nxt (nxt (line (nxt σ 93).2).2 2).2 (pick49 (nxt (line (nxt σ 93).2).2 2).1)).1.toNat (nxt (nxt (line (nxt σ 93).2).2 2).2 (pick49 (nxt (line (nxt σ 93).2).2 2).1)).2).1) ≠ [] := by simp
  rw [updL_updL, updL_updL, updL_updL, updL_updL]
  generalize [chr (1 + (nxt σ 93).1)] ++ (line (nxt σ 93).2).1 ++ [10] ++ (linesN (nxt (nxt (line (nxt σ 93).2).2 2).2 (pick49 (nxt (line (nxt σ 93).2).2 2).1)).1.toNat (nxt (nxt (line (nxt σ 93).2).2 2).2 (pick49 (nxt (line (nxt σ 93).2).2 2).1)).2).1 = c at *
  generalize (linesN (nxt (nxt (line (nxt σ 93).2).2 2).2 (pick49 (nxt (line (nxt σ 93).2).2 2).1)).1.toNat (nxt (nxt (line (nxt σ 93).2).2 2).2 (pick49 (nxt (line (nxt σ 93).2).2 2).1)).2).2 = σ2 at *
  clear b4 b41 b42 hml hst hat p49 p491 p492 b3 hll hno hp2 hp1 hcc b1
  have hs2 : updL L s (enc σ2) s = some (enc σ2) := updL_same
  have hE2 : ∀ m, updL L s m E = L E := fun m => updL_ne hne.symm
  by_cases hk : 0 + (i : Int) = n - 1
  · refine mss_cons (ms_ifx (tx_w (wx_andT (tx_to (decide_eq_true hk) (tx_cmp (ex_var 6 rfl rfl (.inl rfl)) (ex_bin (ex_var 5 rfl rfl (.inl rfl)) ex_int (by walk_at "osub")) (by walk_at "oeq") (nomark _))) (wx_and1 (tx_cmp (ex_call G_law_next (hr.mono (by decide)) (by rfl) (ax_cons (ex_var 1 rfl rfl (.inl rfl)) (ax_cons ex_int ax_nil)) ⟨_, _, _, rfl, by walk_at "lk", by walk_at "okp", by walk_at "sd", by walk_at "sd", rfl, rfl⟩) ex_int (by walk_at "oeq") (nomark _))))) (fun hT => ?_) (fun hF => ?_))
    · obtain ⟨y, rfl⟩ := snoc_of _ _ hcne hgood.2
      rw [List.length_append, List.length_singleton] at hcl
      refine mss_cons (ms_set 7 sc_law.nd rfl (by first | exact .inl rfl | exact .inr rfl) (EX.to (ex_slice (ex_var 7 rfl rfl (.inl rfl)) px_none (px_some (ex_bin (ex_callB (ax_cons (ex_var 7 rfl rfl (.inl rfl)) ax_nil) (by walk_at "c_len") (by rfl) T.m_len PySem.boot_len) ex_int (by walk_at "osub"))) (by walk_at "osl")) ?_))
      have ecut : cutS (tx (y ++ [10])) none (some (((tx (y ++ [10])).length : Int) - 1)) = tx y := by
        rw [tx_cut, tx_len, List.length_append, List.length_singleton, show ((y.length + 1 : Nat) : Int) - 1 = (y.length : Int) by omega, cut_to]
        congr 1
        exact List.take_left
      rw [ecut]
      refine mss_nil (fin _ y _ updL_same (nxt_p hp5) ?_ (good_cut hgood.1) (by omega) (fun h => absurd h (by omega)))
      rw [updL_updL]
      exact hE2 _
    · refine mss_nil (fin _ c _ updL_same (nxt_p hp5) ?_ hgood.1 hcl (fun h => absurd h (by omega)))
      rw [updL_updL]
      exact hE2 _
  · refine mss_cons (ms_ifx (tx_w (wx_andF (tx_to (decide_eq_false hk) (tx_cmp (ex_var 6 rfl rfl (.inl rfl)) (ex_bin (ex_var 5 rfl rfl (.inl rfl)) ex_int (by walk_at "osub")) (by walk_at "oeq") (nomark _))))) (fun hT => ?_) (fun hF => ?_))
    · cases hT
    · exact mss_nil (fin _ c _ updL_same hp5 (hE2 _) hgood.1 hcl (fun h => hgood.2))
end
end K09

set_option Elab.async false
set_option linter.all false
set_option maxRecDepth 100000
set_option maxHeartbeats 4000000
namespace K09
open PySem PySem.Spec PyProof.Rows L2 Cw
/-! ### small closers, each at its own key -/
local macro_rules | `(tactic| walk_at "oadd") => `(tactic| first | exact o_add | exact o_addS (by walk_at "sz") | exact o_cat (by walk_at "ll") (by walk_at "ll") (by walk_at "sz"))
local macro_rules | `(tactic| walk_at "osub") => `(tactic| exact o_sub)
local macro_rules | `(tactic| walk_at "omul") => `(tactic| first | exact o_mul (by walk_at "sd") | exact o_rep (by walk_at "ll") (by walk_at "sd") (by walk_at "sd") (by walk_at "sz"))
local macro_rules | `(tactic| walk_at "odiv") => `(tactic| first | exact o_div (by walk_at "sd") | exact o_divW (by walk_at "sd"))
local macro_rules | `(tactic| walk_at "olt") => `(tactic| exact o_lt)
local macro_rules | `(tactic| walk_at "ole") => `(tactic| exact o_le)
local macro_rules | `(tactic| walk_at "ogt") => `(tactic| exact o_gt)
local macro_rules | `(tactic| walk_at "oge") => `(tactic| exact o_ge)
local macro_rules | `(tactic| walk_at "oeq") => `(tactic| first | exact o_eqI | exact o_eqNI | exact o_eqS | exact o_eqB | exact o_eqR (Room.units (by assumption)) (by walk_at "dr") (by walk_at "dr") (by walk_at "sh") (by walk_at "sh"))
local macro_rules | `(tactic| walk_at "one") => `(tactic| first | exact o_neI | exact o_neS | exact o_neB | exact o_neR (Room.units (by assumption)) (by walk_at "dr") (by walk_at "dr") (by walk_at "sh") (by walk_at "sh"))
local macro_rules | `(tactic| walk_at "ois") => `(tactic| exact o_isN)
local macro_rules | `(tactic| walk_at "oisn") => `(tactic| exact o_notN)
local macro_rules | `(tactic| walk_at "iadd") => `(tactic| exact o_iadd)
local macro_rules | `(tactic| walk_at "isub") => `(tactic| exact o_isub)
local macro_rules | `(tactic| walk_at "lk") => `(tactic| first | assumption | exact updL_same | (refine Eq.trans (updL_ne (by first | assumption | (apply Ne.symm; assumption))) ?_; walk_at "lk"))
local macro_rules | `(tactic| walk_at "ll") => `(tactic| first | exact LL.dt | assumption | exact LL.h (by walk_at "lk"))
local macro_rules | `(tactic| walk_at "lr") => `(tactic| first | exact LL.dt | assumption | exact LR.h (by walk_at "lk"))
local macro_rules | `(tactic| walk_at "dr") => `(tactic| first | exact DD.dt | assumption | exact DD.ofLL (by walk_at "lk"))
local macro_rules | `(tactic| walk_at "sd") => `(tactic| first | omega | assumption | decide)
local macro_rules | `(tactic| walk_at "rg") => `(tactic| first | omega | assumption | decide)
local macro_rules | `(tactic| walk_at "sz") => `(tactic| first | assumption | (rw [sizeLine_eq]; first | omega | (simp; omega)))
local macro_rules | `(tactic| walk_at "osl") => `(tactic| first | exact s_str (by walk_at "sz") | exact s_lst (by walk_at "ll"))
local macro_rules | `(tactic| walk_at "c_len") => `(tactic| first | exact c_lenT | exact c_lenS (by walk_at "sz") | exact c_lenL (by walk_at "ll") | exact c_lenR (by walk_at "lr") | exact c_lenF (by assumption))
local macro_rules | `(tactic| walk_at "c_int") => `(tactic| first | exact c_int | exact c_intB)
local macro_rules | `(tactic| walk_at "c_min") => `(tactic| exact c_min rfl)
local macro_rules | `(tactic| walk_at "c_max") => `(tactic| exact c_max rfl)
local macro_rules | `(tactic| walk_at "c_ord") => `(tactic| exact c_ord (by walk_at "sz"))
local macro_rules | `(tactic| walk_at "c_list") => `(tactic| first | exact c_listT | exact c_list (by walk_at "ll") | exact c_listF (by assumption))
local macro_rules | `(tactic| walk_at "c_tuple") => `(tactic| first | exact c_tupleT | exact c_tuple (by walk_at "ll"))
local macro_rules | `(tactic| walk_at "c_isinstance") => `(tactic| exact c_isi (by walk_at "dr") (by decide))
local macro_rules | `(tactic| walk_at "few") => `(tactic| first | decide | exact Nat.le_of_ble_eq_true rfl | (rw [sizeLine_eq]; exact Nat.le_of_ble_eq_true rfl) | assumption)
local macro_rules | `(tactic| walk_at "fl") => `(tactic| first | assumption | rfl)
local macro_rules | `(tactic| walk_at "nf") => `(tactic| first | rfl | decide +kernel)
local macro_rules | `(tactic| walk_at "at") => `(tactic| first | assumption | rfl | exact atI_nat (by assumption))
local macro_rules | `(tactic| walk_at "oix") => `(tactic| first | exact i_tup (by walk_at "at") | exact i_lst (by walk_at "ll") (by walk_at "at") | exact i_lstR (by walk_at "lr") (by walk_at "at") | exact i_str (by walk_at "sz") (by walk_at "at") | exact i_lstF (by assumption) (by walk_at "at"))
local macro_rules | `(tactic| walk_at "ixn") => `(tactic| first | assumption | rfl)
local macro_rules | `(tactic| walk_at "okd") => `(tactic| first | rfl | assumption)
local macro_rules | `(tactic| walk_at "wr") => `(tactic| first | assumption | omega)
local macro_rules | `(tactic| walk_at "shn") => `(tactic| first | exact fun z => absurd z (by assumption) | exact fun z => absurd rfl z | exact fun _ => ⟨rfl, rfl⟩)
local macro_rules | `(tactic| walk_at "onin") => `(tactic| exact o_notIn2S)
local macro_rules | `(tactic| walk_at "okp") => `(tactic| first | assumption | exact nxt_p (by walk_at "okp"))

local macro_rules | `(tactic| walk_at "okp") => `(tactic| first | assumption | exact nxt_p (by walk_at "okp") | exact line_p (by walk_at "okp") | exact linesN_p (by walk_at "okp") _)
section
variable {P : Program} {w : World} {K : PySem.W.Frag} {mg : Str → Option Value} {base : Heap}
def gsn : Yd → PyData := fun y => match y with | .r (.dt (.tuple [_, d])) => d | _ => .none
theorem ok_law {f : Addr} {fd : FuncData} (F : Fun K "law" "law" s_law f fd) (T : Txt K mg)
    (G_law_next : FnM P w K mg base 1 "_law_next" P_law_next sp_next) (G_law_char : FnM P w K mg base 1 "_law_char" P_law_char sp_char) (G_law_line : FnM P w K mg base 2 "_law_line" P_law_line sp_line) (G_law_lines : FnM P w K mg base 3 "_law_lines" P_law_lines sp_lines)
    (G_law_same : FnM P w K mg base 3 "_law_same" P_law_same (sp_same 2)) (G_chunks : FnM P w K mg base 2 "chunks" P_chunks sp_chunks) : FnOk P w K mg base CX0 4 f fd P_law (lift (sp_law K)) := by
  refine fnok0 F sc_law (fun as L Q XC h => by obtain ⟨_, _, rfl, _⟩ := h; rfl) ?_
  intro cdv A outer s0 H EE hr as L Q XC h
  obtain ⟨a, ns, rfl, scr, hlen, q⟩ := h
  have main : ∀ {L : Led} {s E : Addr} {σ : Sg} {pre : List Nat} {n : Int}, Inv0 L s E σ pre [] 0 n → 0 ≤ n → n ≤ 149 →
      MSs (yL P w K mg base f cdv A outer s0 H EE) ((defBody s_law).drop 6) (fun x L' => Q (.dt .none) L') { rt := Q } [some (.vl (.ref a)), some (.vl (.ref s)), some (.dt (.str (tx pre))), some (.vl (.ref E)), some (.dt (.str (tx pre))), some (.dt (.int n)), none, none, none, none] L := by
    intro L s E σ pre n inv hn0 hn
    refine mss_cons (ms_for (tgt := (.n 6)) rfl (ix_range1 (ax_cons (ex_var 5 rfl rfl (.inl rfl)) ax_nil) (by walk_at "sd") (by walk_at "sd") (by rfl) T.m_range) (pgn_name 6 sc_law.nd rfl (by first | exact .inl rfl | exact .inr rfl)) (fun i ρ L' => ∃ σ cs k ch, ρ = [some (.vl (.ref a)), some (.vl (.ref s)), some (.dt (.str (tx (pre ++ cs.flatten)))), some (.vl (.ref E)), some (.dt (.str (tx pre))), some (.dt (.int n)), k, ch, none, none] ∧ Inv0 L' s E σ pre cs i n)
      ⟨σ, [], none, none, by rw [List.flatten_nil, List.append_nil], inv⟩ (fun _ _ _ _ _ => trivial) ?_ ?_)
    · intro i y ρ L' hy hI
      obtain ⟨σ, cs, k, ch, rfl, inv⟩ := hI
      obtain ⟨hi, rfl⟩ := rgY_at hy
      refine ⟨_, rfl, ?_⟩
      refine law_step F T G_law_next G_law_char G_law_line G_law_lines hr inv (by omega) hn ?_
      intro σ' c L' ch' inv'
      exact ⟨σ', cs ++ [c], _, ch', rfl, inv'⟩
    · intro ρ L' hI
      obtain ⟨σ, cs, k, ch, rfl, inv⟩ := hI
      rw [rgY_len] at inv
      have hz := inv.z
      have hl := inv.hl
      have hE := inv.hE
      have hz0 := hz
      rw [List.length_append] at hz0
      refine mss_cons (ms_set 8 sc_law.nd rfl (by first | exact .inl rfl | exact .inr rfl) (EX.to (ex_call G_chunks (hr.mono (by decide)) (by rfl) (ax_cons (ex_var 2 rfl rfl (.inl rfl)) ax_nil) ⟨pre, cs, rfl, by omega, by omega, inv.st, rfl, rfl⟩) ?_))
      have hokd : okD 2 (.list (pairs pre.length cs)) = true := pairs_ok _ _
      refine mss_cons (ms_ifx (tx_not (tx_val (ex_call G_law_same (hr.mono (by decide)) (by rfl) (ax_cons (ex_var 8 rfl rfl (.inl rfl)) (ax_cons (ex_var 3 rfl rfl (.inl rfl)) ax_nil)) ⟨_, _, _, rfl, by walk_at "dr", by walk_at "dr", by walk_at "okd", rfl, rfl⟩))) (fun hT => ?_) (fun hF => ?_))
      · cases hT
      have hgs : (pairs pre.length cs).map (gsn ∘ fun d => Yd.r (Rv.dt d)) = (cs.map tx).map PyData.str := by
        rw [← pairs_snd pre.length cs]
        refine List.map_congr_left fun d hd => ?_
        obtain ⟨j, hj⟩ := List.getElem?_of_mem hd
        obtain ⟨b, e, rfl⟩ := pairs_at _ _ hj
        rfl
      have ejoin : tx pre ++ Txt.join (Str.ofString "") (cs.map tx) = tx (pre ++ cs.flatten) := by
        rw [es, tx_join, tx_cat]
      have hsum : ((cs.map tx).map (·.length)).sum + (cs.map tx).length * (Str.ofString "").length ≤ 16777216 := by
        rw [sum_len, es, tx_len, List.length_nil, Nat.mul_zero]
        omega
      have hzz : (tx pre).length + (Txt.join (Str.ofString "") (cs.map tx)).length ≤ sizeLine := by
        rw [es, tx_join, tx_len, tx_len, sizeLine_eq]
        omega
      refine mss_nil (mss_cons (ms_ret (EX.to (ex_cmp (ex_bin (ex_var 4 rfl rfl (.inl rfl)) (ex_join (ys := cs.map tx) ex_str (ex_lcp (tgt := (.t [9, 7])) (own := [("position", 9), ("chunk", 7)]) gsn (by rfl) sc_law.nd (ix_data (ex_var 8 rfl rfl (.inl rfl))) trivial (blkOk_by (by rfl)) rfl (fun s H C cl fp => (pgn_tup rfl (pgn_cons 9 sc_law.nd rfl (by first | exact .inl rfl | exact .inr rfl) (pgn_cons 7 sc_law.nd rfl (by first | exact .inl rfl | exact .inr rfl) pgn_nil)))) ?_ ?_) ?_ hsum) (o_addS hzz)) (ex_var 2 rfl rfl (.inl rfl)) o_eqS (nomark _)) ?_)))
      · rw [List.length_map, pairs_len, sizeLine_eq]
        omega
      · intro i y hy
        rw [List.getElem?_map] at hy
        cases hx : (pairs pre.length cs)[i]? with
        | none => rw [hx] at hy; cases hy
        | some d =>
          rw [hx] at hy
          obtain ⟨b, e, rfl⟩ := pairs_at _ _ hx
          cases hy
          exact ⟨_, rfl, fun s H C cl fp => (ex_var 7 rfl rfl (by first | exact .inl rfl | exact .inr (.inl rfl) | exact .inr (.inr rfl)))⟩
      · rw [List.map_map, hgs]
        exact LL.dt
      · rw [ejoin, decide_eq_true rfl]
        exact q _
  refine mss_cons (ms_set 1 sc_law.nd rfl (.inl rfl) (me_lstH (ax_cons (ex_callTy (ax_cons (ex_var 0 rfl rfl (.inl rfl)) ax_nil) (by walk_at "c_list") (by rfl) T.m_list (by decide +kernel)) (ax_cons ex_int (ax_cons ex_int (ax_cons ex_int ax_nil)))) (by walk_at "few") (fun s hs => ?_)))
  generalize hσ : (⟨ns, 0, 0, 1⟩ : Sg) = σ0
  have hs1 : updL L s (.lst [.dt (.list (ns.map PyData.int)), .dt (.int 0), .dt (.int 0), .dt (.int 1)]) s = some (enc σ0) := by rw [← hσ]; exact updL_same
  have hp0 : 0 ≤ σ0.p := by rw [← hσ]; exact Int.le_refl _
  generalize updL L s (.lst [.dt (.list (ns.map PyData.int)), .dt (.int 0), .dt (.int 0), .dt (.int 1)]) = L1 at *
  have b1 := nxt_b σ0 (show (0 : Int) < 4 by decide)
  have b11 := b1.1
  have b12 : (nxt σ0 4).1 ≤ 1000 := by omega
  have hlen1 := linesN_len (nxt σ0 4).2 (nxt σ0 4).1.toNat
  have hst := linesN_st (nxt σ0 4).2 (nxt σ0 4).1.toNat
  have hp1 : 0 ≤ (linesN (nxt σ0 4).1.toNat (nxt σ0 4).2).2.p := linesN_p (nxt_p hp0) _
  refine mss_cons (ms_set 2 sc_law.nd rfl (by first | exact .inl rfl | exact .inr rfl) (EX.to (ex_call G_law_lines (hr.mono (by decide)) (by rfl) (ax_cons (ex_var 1 rfl rfl (.inl rfl)) (ax_cons (ex_call G_law_next (hr.mono (by decide)) (by rfl) (ax_cons (ex_var 1 rfl rfl (.inl rfl)) (ax_cons ex_int ax_nil)) ⟨_, _, _, rfl, by walk_at "lk", by walk_at "okp", by walk_at "sd", by walk_at "sd", rfl, rfl⟩) ax_nil)) ⟨_, _, _, rfl, by walk_at "lk", by walk_at "okp", by walk_at "sd", by walk_at "sd", rfl, rfl⟩) ?_))
  have hpl : (linesN (nxt σ0 4).1.toNat (nxt σ0 4).2).1.length ≤ 1000 := by omega
  have hs2 : updL (updL L1 s (enc (nxt σ0 4).2)) s (enc (linesN (nxt σ0 4).1.toNat (nxt σ0 4).2).2) s = some (enc (linesN (nxt σ0 4).1.toNat (nxt σ0 4).2).2) := updL_same
  generalize updL (updL L1 s (enc (nxt σ0 4).2)) s (enc (linesN (nxt σ0 4).1.toNat (nxt σ0 4).2).2) = L2 at *
  clear b12 b11 hlen1
  generalize linesN (nxt σ0 4).1.toNat (nxt σ0 4).2 = r at *
  refine mss_cons (ms_set 3 sc_law.nd rfl (.inl rfl) (me_lst0 fun E hE => ?_))
  have hne : s ≠ E := ne_led hs2 hE
  have hs3 : updL L2 E (.lst []) s = some (enc r.2) := by rw [updL_ne hne]; exact hs2
  have hE3 : updL L2 E (.lst []) E = some (.lst []) := updL_same
  generalize updL L2 E (.lst []) = L3 at *
  refine mss_cons (ms_set 4 sc_law.nd rfl (by first | exact .inl rfl | exact .inr rfl) (EX.to (ex_var 2 rfl rfl (.inl rfl)) ?_))
  have b5 := nxt_b r.2 (show (0 : Int) < 13 by decide)
  refine mss_cons (ms_set 5 sc_law.nd rfl (by first | exact .inl rfl | exact .inr rfl) (EX.to (ex_call G_law_next (hr.mono (by decide)) (by rfl) (ax_cons (ex_var 1 rfl rfl (.inl rfl)) (ax_cons ex_int ax_nil)) ⟨_, _, _, rfl, by walk_at "lk", by walk_at "okp", by walk_at "sd", by walk_at "sd", rfl, rfl⟩) ?_))
  have mk : ∀ (σ : Sg) (L' : Led) (n : Int), L' s = some (enc σ) → L' E = some (.lst []) → 0 ≤ σ.p → Inv0 L' s E σ r.1 [] 0 n := fun σ L' n h1 h2 h3 => ⟨h1, h2, h3, rfl, by rw [List.flatten_nil, List.append_nil]; exact (hst 0).1, fun _ => by rw [List.flatten_nil, List.append_nil]; exact (hst 0).2, by rw [List.flatten_nil, List.append_nil]; omega⟩
  refine mss_cons (ms_ifx (tx_cmp (ex_call G_law_next (hr.mono (by decide)) (by rfl) (ax_cons (ex_var 1 rfl rfl (.inl rfl)) (ax_cons ex_int ax_nil)) ⟨_, _, _, rfl, by walk_at "lk", by walk_at "okp", by walk_at "sd", by walk_at "sd", rfl, rfl⟩) ex_int (by walk_at "oeq") (nomark _)) (fun hT => ?_) (fun hF => ?_))
  · have b7 := nxt_b (nxt (nxt r.2 13).2 6).2 (show (0 : Int) < 90 by decide)
    refine mss_cons (ms_set 5 sc_law.nd rfl (by first | exact .inl rfl | exact .inr rfl) (EX.to (ex_bin ex_int (ex_call G_law_next (hr.mono (by decide)) (by rfl) (ax_cons (ex_var 1 rfl rfl (.inl rfl)) (ax_cons ex_int ax_nil)) ⟨_, _, _, rfl, by walk_at "lk", by walk_at "okp", by walk_at "sd", by walk_at "sd", rfl, rfl⟩) (by walk_at "oadd")) ?_))
    exact mss_nil (main (mk _ _ _ updL_same (by rw [updL_ne hne.symm, updL_ne hne.symm, updL_ne hne.symm]; exact hE3) (nxt_p (nxt_p (nxt_p hp1)))) (by omega) (by omega))
  · exact mss_nil (main (mk _ _ _ updL_same (by rw [updL_ne hne.symm, updL_ne hne.symm]; exact hE3) (nxt_p (nxt_p hp1))) b5.1 (by omega))
end
end K09

set_option Elab.async false
set_option linter.all false
set_option maxRecDepth 100000
set_option maxHeartbeats 4000000

namespace K09
open PySem PySem.Spec PyProof.Rows L2 Cw
def spL (K : PySem.W.Frag) : Sp := lift (sp_law K)
theorem all_mk {l : PySem.W.OpenLaw} {w : World} {K : PySem.W.Frag} {h : Heap} {mg : Str → Option Value} {fa : Addr} (X : K.In h) (G : h.Ns mainGlobals mg) (hfa : mg "law" = some (.ref fa))
    {f_line_starts f_chunks f_law_next f_law_same f_law_char f_law_line f_law_lines f_law : Addr} {od_line_starts an_line_starts od_chunks an_chunks od_law_next an_law_next od_law_same an_law_same od_law_char an_law_char od_law_line an_law_line od_law_lines an_law_lines od_law an_law : Option Addr} {sl_line_starts sl_chunks sl_law_next sl_law_same sl_law_char sl_law_line sl_law_lines sl_law : Array (Option Value)} {oc_line_starts kV_line_starts dc_line_starts pm_line_starts cd_line_starts ct_line_starts oc_chunks kV_chunks dc_chunks pm_chunks cd_chunks ct_chunks oc_law_next kV_law_next dc_law_next pm_law_next cd_law_next ct_law_next oc_law_same kV_law_same dc_law_same pm_law_same cd_law_same ct_law_same oc_law_char kV_law_char dc_law_char pm_law_char cd_law_char ct_law_char oc_law_line kV_law_line dc_law_line pm_law_line cd_law_line ct_law_line oc_law_lines kV_law_lines dc_law_lines pm_law_lines cd_law_lines ct_law_lines oc_law kV_law dc_law pm_law cd_law ct_law : Value}
    (a_line_starts : PySem.W.nsIn K mainGlobals "line_starts" = some (some (.ref f_line_starts)))
    (l_line_starts : K.lookup f_line_starts = some ⟨oc_line_starts, od_line_starts, .func (PySem.W.fnOf "line_starts" "line_starts" (defArgs s_line_starts) (defBody s_line_starts) (defScope s_line_starts) .none kV_line_starts dc_line_starts pm_line_starts an_line_starts cd_line_starts ct_line_starts), sl_line_starts⟩) (c_line_starts : PySem.W.codeIn K cd_line_starts "line_starts" = true) (k_line_starts : PySem.W.keepIn K (.ref f_line_starts) = true)
    (a_chunks : PySem.W.nsIn K mainGlobals "chunks" = some (some (.ref f_chunks)))
    (l_chunks : K.lookup f_chunks = some ⟨oc_chunks, od_chunks, .func (PySem.W.fnOf "chunks" "chunks" (defArgs s_chunks) (defBody s_chunks) (defScope s_chunks) .none kV_chunks dc_chunks pm_chunks an_chunks cd_chunks ct_chunks), sl_chunks⟩) (c_chunks : PySem.W.codeIn K cd_chunks "chunks" = true) (k_chunks : PySem.W.keepIn K (.ref f_chunks) = true)
    (a_law_next : PySem.W.nsIn K mainGlobals "_law_next" = some (some (.ref f_law_next)))
    (l_law_next : K.lookup f_law_next = some ⟨oc_law_next, od_law_next, .func (PySem.W.fnOf "_law_next" "_law_next" (defArgs s_law_next) (defBody s_law_next) (defScope s_law_next) .none kV_law_next dc_law_next pm_law_next an_law_next cd_law_next ct_law_next), sl_law_next⟩) (c_law_next : PySem.W.codeIn K cd_law_next "_law_next" = true) (k_law_next : PySem.W.keepIn K (.ref f_law_next) = true)
    (a_law_same : PySem.W.nsIn K mainGlobals "_law_same" = some (some (.ref f_law_same)))
    (l_law_same : K.lookup f_law_same = some ⟨oc_law_same, od_law_same, .func (PySem.W.fnOf "_law_same" "_law_same" (defArgs s_law_same) (defBody s_law_same) (defScope s_law_same) .none kV_law_same dc_law_same pm_law_same an_law_same cd_law_same ct_law_same), sl_law_same⟩) (c_law_same : PySem.W.codeIn K cd_law_same "_law_same" = true) (k_law_same : PySem.W.keepIn K (.ref f_law_same) = true)
    (a_law_char : PySem.W.nsIn K mainGlobals "_law_char" = some (some (.ref f_law_char)))
    (l_law_char : K.lookup f_law_char = some ⟨oc_law_char, od_law_char, .func (PySem.W.fnOf "_law_char" "_law_char" (defArgs s_law_char) (defBody s_law_char) (defScope s_law_char) .none kV_law_char dc_law_char pm_law_char an_law_char cd_law_char ct_law_char), sl_law_char⟩) (c_law_char : PySem.W.codeIn K cd_law_char "_law_char" = true) (k_law_char : PySem.W.keepIn K (.ref f_law_char) = true)
    (a_law_line : PySem.W.nsIn K mainGlobals "_law_line" = some (some (.ref f_law_line)))
    (l_law_line : K.lookup f_law_line = some ⟨oc_law_line, od_law_line, .func (PySem.W.fnOf "_law_line" "_law_line" (defArgs s_law_line) (defBody s_law_line) (defScope s_law_line) .none kV_law_line dc_law_line pm_law_line an_law_line cd_law_line ct_law_line), sl_law_line⟩) (c_law_line : PySem.W.codeIn K cd_law_line "_law_line" = true) (k_law_line : PySem.W.keepIn K (.ref f_law_line) = true)
    (a_law_lines : PySem.W.nsIn K mainGlobals "_law_lines" = some (some (.ref f_law_lines)))
    (l_law_lines : K.lookup f_law_lines = some ⟨oc_law_lines, od_law_lines, .func (PySem.W.fnOf "_law_lines" "_law_lines" (defArgs s_law_lines) (defBody s_law_lines) (defScope s_law_lines) .none kV_law_lines dc_law_lines pm_law_lines an_law_lines cd_law_lines ct_law_lines), sl_law_lines⟩) (c_law_lines : PySem.W.codeIn K cd_law_lines "_law_lines" = true) (k_law_lines : PySem.W.keepIn K (.ref f_law_lines) = true)
    (a_law : PySem.W.nsIn K mainGlobals "law" = some (some (.ref f_law)))
    (l_law : K.lookup f_law = some ⟨oc_law, od_law, .func (PySem.W.fnOf "law" "law" (defArgs s_law) (defBody s_law) (defScope s_law) .none kV_law dc_law pm_law an_law cd_law ct_law), sl_law⟩) (c_law : PySem.W.codeIn K cd_law "law" = true) (k_law : PySem.W.keepIn K (.ref f_law) = true)
    (z_isinstance : PySem.W.nsIn K mainGlobals "isinstance" = some none)
    (z_bool : PySem.W.nsIn K mainGlobals "bool" = some none)
    (z_str : PySem.W.nsIn K mainGlobals "str" = some none)
    (z_list : PySem.W.nsIn K mainGlobals "list" = some none)
    (z_tuple : PySem.W.nsIn K mainGlobals "tuple" = some none)
    (z_int : PySem.W.nsIn K mainGlobals "int" = some none)
    (z_len : PySem.W.nsIn K mainGlobals "len" = some none)
    (z_range : PySem.W.nsIn K mainGlobals "range" = some none)
    (z_zip : PySem.W.nsIn K mainGlobals "zip" = some none) :
    ∃ fd : FuncData, (∀ (s : Shared) (v : Value), BindsTo s fd ⟨[v], []⟩ [("script", v)]) ∧ ∀ base : Heap, K.In base → base.Ns mainGlobals mg → FnOk l.prog w K mg base CX0 4 fa fd ["script"] (spL K) := by
  have e := hfa.symm.trans (PySem.W.mg_of X G a_law)
  cases e
  have F_line_starts := fun_mk (st := s_line_starts) l_line_starts c_line_starts k_line_starts
  have b_line_starts := F_line_starts.binds (ps := P_line_starts) fun _ _ _ _ _ _ us hl => match us, hl with | [_], _ => rfl
  have m_line_starts := PySem.W.mg_of X G a_line_starts
  have F_chunks := fun_mk (st := s_chunks) l_chunks c_chunks k_chunks
  have b_chunks := F_chunks.binds (ps := P_chunks) fun _ _ _ _ _ _ us hl => match us, hl with | [_], _ => rfl
  have m_chunks := PySem.W.mg_of X G a_chunks
  have F_law_next := fun_mk (st := s_law_next) l_law_next c_law_next k_law_next
  have b_law_next := F_law_next.binds (ps := P_law_next) fun _ _ _ _ _ _ us hl => match us, hl with | [_, _], _ => rfl
  have m_law_next := PySem.W.mg_of X G a_law_next
  have F_law_same := fun_mk (st := s_law_same) l_law_same c_law_same k_law_same
  have b_law_same := F_law_same.binds (ps := P_law_same) fun _ _ _ _ _ _ us hl => match us, hl with | [_, _], _ => rfl
  have m_law_same := PySem.W.mg_of X G a_law_same
  have F_law_char := fun_mk (st := s_law_char) l_law_char c_law_char k_law_char
  have b_law_char := F_law_char.binds (ps := P_law_char) fun _ _ _ _ _ _ us hl => match us, hl with | [_], _ => rfl
  have m_law_char := PySem.W.mg_of X G a_law_char
  have F_law_line := fun_mk (st := s_law_line) l_law_line c_law_line k_law_line
  have b_law_line := F_law_line.binds (ps := P_law_line) fun _ _ _ _ _ _ us hl => match us, hl with | [_], _ => rfl
  have m_law_line := PySem.W.mg_of X G a_law_line
  have F_law_lines := fun_mk (st := s_law_lines) l_law_lines c_law_lines k_law_lines
  have b_law_lines := F_law_lines.binds (ps := P_law_lines) fun _ _ _ _ _ _ us hl => match us, hl with | [_, _], _ => rfl
  have m_law_lines := PySem.W.mg_of X G a_law_lines
  have F_law := fun_mk (st := s_law) l_law c_law k_law
  have b_law := F_law.binds (ps := P_law) fun _ _ _ _ _ _ us hl => match us, hl with | [_], _ => rfl
  have m_law := PySem.W.mg_of X G a_law
  have T : Txt K mg := ⟨PySem.W.mg_none_of X G z_isinstance, PySem.W.mg_none_of X G z_bool, PySem.W.mg_none_of X G z_str, PySem.W.mg_none_of X G z_list, PySem.W.mg_none_of X G z_tuple, PySem.W.mg_none_of X G z_int, PySem.W.mg_none_of X G z_len, PySem.W.mg_none_of X G z_range, PySem.W.mg_none_of X G z_zip⟩
  exact ⟨PySem.W.fnOf "law" "law" (defArgs s_law) (defBody s_law) (defScope s_law) .none kV_law dc_law pm_law an_law cd_law ct_law, fun s v => .of_eq rfl, fun base _ _ => by
    have G1 : FnM l.prog w K mg base 1 "_law_next" P_law_next sp_next := ⟨_, _, m_law_next, F_law_next.kp, b_law_next, ok_next F_law_next T⟩
    have G2 : FnM l.prog w K mg base 1 "_law_char" P_law_char sp_char := ⟨_, _, m_law_char, F_law_char.kp, b_law_char, ok_char F_law_char T⟩
    have G3 : FnM l.prog w K mg base 2 "_law_line" P_law_line sp_line := ⟨_, _, m_law_line, F_law_line.kp, b_law_line, ok_line F_law_line T G1 G2⟩
    have G4 : FnM l.prog w K mg base 3 "_law_lines" P_law_lines sp_lines := ⟨_, _, m_law_lines, F_law_lines.kp, b_law_lines, ok_lines F_law_lines T G1 G3⟩
    have G5 : FnM l.prog w K mg base 3 "_law_same" P_law_same (sp_same 2) := ⟨_, _, m_law_same, F_law_same.kp, b_law_same, ok_same 2 F_law_same T m_law_same b_law_same⟩
    have G6 : FnM l.prog w K mg base 1 "line_starts" P_line_starts sp_starts := ⟨_, _, m_line_starts, F_line_starts.kp, b_line_starts, ok_starts F_line_starts T⟩
    have G7 : FnM l.prog w K mg base 2 "chunks" P_chunks sp_chunks := ⟨_, _, m_chunks, F_chunks.kp, b_chunks, ok_chunks F_chunks T G6⟩
    exact ok_law F_law T G1 G2 G3 G4 G5 G7⟩
theorem walk {l : PySem.W.OpenLaw} {q : Program} {loose : List Str} {XP : (Str → Option Value) → Heap → Prop} {YP : World → Heap → Prop} {d : DefRec} {K : Params → PySem.W.Frag} (hn : l.most = some 63) (hdf : d.params.defaults = [])
    (hY : ∀ (w : World) (h : Heap), YP w h → (K w.params).In h)
    (F : ∀ (w : World) (mg : Str → Option Value) (fa : Addr) (h : Heap), (K w.params).In h → h.Ns mainGlobals mg → mg d.name = some (.ref fa) →
      ∃ fd : FuncData, (∀ (s : Shared) (u : Value), BindsTo s fd ⟨[u], []⟩ [("script", u)]) ∧ ∀ base : Heap, (K w.params).In base → base.Ns mainGlobals mg → FnOk l.prog w (K w.params) mg base CX0 4 fa fd ["script"] (spL (K w.params))) :
    PySem.W.WalkO q loose XP YP l.row.toRowW d [] (fun f vs => PySem.call f vs) :=
  L2.walk_of (n := 63) (k := 4) (x := "script") (CX := fun _ => CX0) (sp := fun w => spL (K w.params)) hn (by decide) hdf ⟨rfl, by decide, by decide⟩ hY F (fun w H0 a ns hl vs hS => lift_law vs hS fun L sc => ⟨a, ns, rfl, sc, hl, fun _ => rfl⟩) fun _ _ _ _ _ z => z
end K09
open PySem PySem.W PyProof.Rows in
set_option maxRecDepth 100000 in
set_option maxHeartbeats 0 in
theorem PySem.Challenge.cw_cardwhole_k09_chunks_of_a_text_holds : PySem.Challenge.rw_cardwhole_k09_chunks_of_a_text.Holds := by
  w_on; o_law; k_head; (case hw => w_witness2)
  k_fill
  refine K09.walk (l := PySem.Challenge.rw_cardwhole_k09_chunks_of_a_text) rfl rfl (fun w h Y => PySem.W.kIn_of Y) ?F
  case F =>
    intro w mg fa h KX G hmg
    refine' K09.all_mk KX G hmg ?a_line_starts ?l_line_starts ?c_line_starts ?k_line_starts ?a_chunks ?l_chunks ?c_chunks ?k_chunks ?a_law_next ?l_law_next ?c_law_next ?k_law_next ?a_law_same ?l_law_same ?c_law_same ?k_law_same ?a_law_char ?l_law_char ?c_law_char ?k_law_char ?a_law_line ?l_law_line ?c_law_line ?k_law_line ?a_law_lines ?l_law_lines ?c_law_lines ?k_law_lines ?a_law ?l_law ?c_law ?k_law ?z_isinstance ?z_bool ?z_str ?z_list ?z_tuple ?z_int ?z_len ?z_range ?z_zip
    (case a_line_starts => k_is)
    (case l_line_starts => k_is)
    (case c_line_starts => k_is)
    (case k_line_starts => k_is)
    (case a_chunks => k_is)
    (case l_chunks => k_is)
    (case c_chunks => k_is)
    (case k_chunks => k_is)
    (case a_law_next => k_is)
    (case l_law_next => k_is)
    (case c_law_next => k_is)
    (case k_law_next => k_is)
    (case a_law_same => k_is)
    (case l_law_same => k_is)
    (case c_law_same => k_is)
    (case k_law_same => k_is)
    (case a_law_char => k_is)
    (case l_law_char => k_is)
    (case c_law_char => k_is)
    (case k_law_char => k_is)
    (case a_law_line => k_is)
    (case l_law_line => k_is)
    (case c_law_line => k_is)
    (case k_law_line => k_is)
    (case a_law_lines => k_is)
    (case l_law_lines => k_is)
    (case c_law_lines => k_is)
    (case k_law_lines => k_is)
    (case a_law => k_is)
    (case l_law => k_is)
    (case c_law => k_is)
    (case k_law => k_is)
    (case z_isinstance => k_is)
    (case z_bool => k_is)
    (case z_str => k_is)
    (case z_list => k_is)
    (case z_tuple => k_is)
    (case z_int => k_is)
    (case z_len => k_is)
    (case z_range => k_is)
    (case z_zip => k_is)
#print axioms PySem.Challenge.cw_cardwhole_k09_chunks_of_a_text_holds

